import PyProof.Rows.All
import HandS.ForMost
import HandS.ForExc
import HandS.SortInts
import HandS.SetFor
import HandS.IsInst
import HandS.Conv
import HandS.More
import HandS.NoneIn
import HandS.Style
import HandS.Wide
import HandS.Deep
import HandS.TupLe
import KE.DataCmp
import PySem.Challenge.RW_fewcounters_k51_whole_stretch_webs
set_option Elab.async false
set_option linter.all false
set_option maxRecDepth 100000
set_option maxHeartbeats 4000000
namespace DL
open PySem PySem.Spec L2

/-! data trees, slots, the store of mutable cells -/
inductive T where
  | non | bl (b : Bool) | int (i : Int) | str (s : Str) | lst (xs : List T) | tup (xs : List T)
  | dk (ks : List Key) (xs : List T) | sq (xs : List T) | raw (x : V)
  | exc (n : Str)
inductive W where
  | t (x : T) | h (n : Nat)
inductive Cell where
  | lt (xs : List T) | lw (xs : List W) | dt (ks : List Key) (xs : List T) | dw (ks : List Key) (xs : List W) | tw (xs : List W)
abbrev Sto := List (Option Cell)
structure G where
  sl : List (Option W)
  mem : Sto
def G.set (g : G) (i : Nat) (w : W) : G := ⟨g.sl.set i (some w), g.mem⟩
def G.put (g : G) (n : Nat) (c : Cell) : G := ⟨g.sl, g.mem.set n (some c)⟩
def G.push (g : G) (c : Cell) : G := ⟨g.sl, g.mem ++ [some c]⟩
def wipeW (sl : List (Option W)) : List Nat → List (Option W)
  | [] => sl
  | v :: vs => (wipeW sl vs).set v none
def G.wipe (g : G) (vs : List Nat) : G := ⟨wipeW g.sl vs, g.mem⟩
def frzW (n : Nat) (t : T) : Option W → Option W
  | some (.h m) => if m = n then some (.t t) else some (.h m)
  | o => o
def G.frz (g : G) (n : Nat) (t : T) : G := ⟨g.sl.map (frzW n t), g.mem.set n none⟩

/-- a caught exception of an own class, as a thing of the store -/
def ExI (C a : Addr) : HO := .ext fun h => ∃ (oe : Obj) (vs : Array Value), h.get? a = some oe ∧ Zc (.ref C) none oe ∧ oe.data = .fields vs
mutual
def Den (K : PySem.W.Frag) (S : Hp) : T → V → Prop
  | .non, v => v = .non
  | .bl b, v => v = .bl b
  | .int i, v => v = .int i
  | .str x, v => v = .str x
  | .lst ts, v => ∃ a vs, v = .ref a ∧ S a = some (.lst vs) ∧ Dens K S ts vs
  | .sq ts, v => ∃ a vs, v = .ref a ∧ SqL K S a vs ∧ Dens K S ts vs
  | .tup ts, v => ∃ a vs, v = .ref a ∧ SqT K S a vs ∧ Dens K S ts vs
  | .dk ks ts, v => ∃ a vs, v = .ref a ∧ S a = some (.dK (ks.zip vs)) ∧ ks.length = ts.length ∧ Dens K S ts vs
  | .raw x, v => v = x
  | .exc n, v => ∃ a C, v = .ref a ∧ PySem.W.nsIn K mainGlobals n = some (some (.ref C)) ∧ S a = some (ExI C a)
def Dens (K : PySem.W.Frag) (S : Hp) : List T → List V → Prop
  | [], vs => vs = []
  | t :: ts, vs => ∃ v r, vs = v :: r ∧ Den K S t v ∧ Dens K S ts r
end
section
variable {K : PySem.W.Frag} {S S' : Hp}
theorem seqT {a : Addr} {xs : List V} (e : Same S S') (h : SqT K S a xs) : SqT K S' a xs := by
  rcases h with (h | ⟨o, h⟩) | h
  · exact .inl (.inl (e _ _ h))
  · exact .inl (.inr ⟨o, e _ _ h⟩)
  · exact .inr h
mutual
theorem Den.mono (e : Same S S') : ∀ (t : T) (v : V), Den K S t v → Den K S' t v
  | .non, _, h => h
  | .bl _, _, h => h
  | .int _, _, h => h
  | .str _, _, h => h
  | .raw _, _, h => h
  | .exc _, _, h => by
    unfold Den at h ⊢
    obtain ⟨a, C, h1, h2, h3⟩ := h
    exact ⟨a, C, h1, h2, e _ _ h3⟩
  | .lst ts, v, h => by
    unfold Den at h ⊢
    obtain ⟨a, vs, h1, h2, h3⟩ := h
    exact ⟨a, vs, h1, e _ _ h2, Dens.mono e ts vs h3⟩
  | .sq ts, v, h => by
    unfold Den at h ⊢
    obtain ⟨a, vs, h1, h2, h3⟩ := h
    exact ⟨a, vs, h1, e.seq h2, Dens.mono e ts vs h3⟩
  | .tup ts, v, h => by
    unfold Den at h ⊢
    obtain ⟨a, vs, h1, h2, h3⟩ := h
    exact ⟨a, vs, h1, seqT e h2, Dens.mono e ts vs h3⟩
  | .dk ks ts, v, h => by
    unfold Den at h ⊢
    obtain ⟨a, vs, h1, h2, h3, h4⟩ := h
    exact ⟨a, vs, h1, e _ _ h2, h3, Dens.mono e ts vs h4⟩
theorem Dens.mono (e : Same S S') : ∀ (ts : List T) (vs : List V), Dens K S ts vs → Dens K S' ts vs
  | [], _, h => h
  | t :: ts, vs, h => by
    unfold Dens at h ⊢
    obtain ⟨v, r, h1, h2, h3⟩ := h
    exact ⟨v, r, h1, Den.mono e t v h2, Dens.mono e ts r h3⟩
end
theorem Dens.iff : ∀ {ts : List T} {vs : List V}, Dens K S ts vs ↔ Paired (Den K S) ts vs
  | [], vs => by
    unfold Dens
    constructor
    · rintro rfl; exact .nil
    · intro h; cases h; rfl
  | t :: ts, vs => by
    unfold Dens
    constructor
    · rintro ⟨v, r, rfl, h1, h2⟩; exact .cons h1 (Dens.iff.mp h2)
    · intro h; cases h with
      | cons h1 h2 => exact ⟨_, _, rfl, h1, Dens.iff.mpr h2⟩
end
/-! general facts of Paired -/
section
variable {α β : Type} {F : α → β → Prop}
theorem pget : ∀ {xs : List α} {ys : List β} {i : Nat} {x : α}, Paired F xs ys → xs[i]? = some x → ∃ y, ys[i]? = some y ∧ F x y
  | _, _, _, _, .nil, e => by simp at e
  | _, _, 0, _, .cons r _, e => by simp at e; subst e; exact ⟨_, rfl, r⟩
  | _, _, i + 1, x, .cons _ t, e => by
    obtain ⟨u, h1, h2⟩ := pget (i := i) (x := x) t (by simpa using e)
    exact ⟨u, by simpa using h1, h2⟩
theorem pgetR : ∀ {xs : List α} {ys : List β} {i : Nat} {y : β}, Paired F xs ys → ys[i]? = some y → ∃ x, xs[i]? = some x ∧ F x y
  | _, _, _, _, .nil, e => by simp at e
  | _, _, 0, _, .cons r _, e => by simp at e; subst e; exact ⟨_, rfl, r⟩
  | _, _, i + 1, x, .cons _ t, e => by
    obtain ⟨u, h1, h2⟩ := pgetR (i := i) (y := x) t (by simpa using e)
    exact ⟨u, by simpa using h1, h2⟩
theorem pset {x : α} {y : β} (r : F x y) : ∀ {xs : List α} {ys : List β} (i : Nat), Paired F xs ys → Paired F (xs.set i x) (ys.set i y)
  | _, _, _, .nil => .nil
  | _, _, 0, .cons _ t => .cons r t
  | _, _, i + 1, .cons q t => .cons q (pset r i t)
theorem papp : ∀ {xs us : List α} {ys vs : List β}, Paired F xs ys → Paired F us vs → Paired F (xs ++ us) (ys ++ vs)
  | _, _, _, _, .nil, s => s
  | _, _, _, _, .cons r t, s => .cons r (papp t s)
theorem ptake : ∀ {xs : List α} {ys : List β} (n : Nat), Paired F xs ys → Paired F (xs.take n) (ys.take n)
  | _, _, 0, _ => .nil
  | _, _, _ + 1, .nil => .nil
  | _, _, n + 1, .cons r t => .cons r (ptake n t)
theorem pdrop : ∀ {xs : List α} {ys : List β} (n : Nat), Paired F xs ys → Paired F (xs.drop n) (ys.drop n)
  | _, _, 0, r => r
  | _, _, _ + 1, .nil => .nil
  | _, _, n + 1, .cons _ t => pdrop n t
theorem prev : ∀ {xs : List α} {ys : List β}, Paired F xs ys → Paired F xs.reverse ys.reverse
  | _, _, .nil => .nil
  | _, _, .cons r t => by
    rw [List.reverse_cons, List.reverse_cons]
    exact papp (prev t) (.cons r .nil)
theorem pmapL {γ : Type} (f : γ → α) : ∀ {xs : List γ} {ys : List β}, Paired F (xs.map f) ys ↔ Paired (fun x y => F (f x) y) xs ys
  | [], ys => by
    constructor
    · intro h; cases h; exact .nil
    · intro h; cases h; exact .nil
  | x :: xs, ys => by
    constructor
    · intro h
      rw [List.map_cons] at h
      cases h with
      | cons h1 h2 => exact .cons h1 ((pmapL f).mp h2)
    · intro h
      cases h with
      | cons h1 h2 => exact .cons h1 ((pmapL f).mpr h2)
theorem perase : ∀ {xs : List α} {ys : List β} (n : Nat), Paired F xs ys → Paired F (xs.eraseIdx n) (ys.eraseIdx n)
  | _, _, _, .nil => .nil
  | _, _, 0, .cons _ t => t
  | _, _, n + 1, .cons q t => .cons q (perase n t)
end

def DenW (K : PySem.W.Frag) (al : List Addr) (S : Hp) : W → V → Prop
  | .t x, v => Den K S x v
  | .h n, v => ∃ a, al[n]? = some a ∧ v = .ref a
def CellOk (K : PySem.W.Frag) (al : List Addr) (S : Hp) : Cell → HO → Prop
  | .lt ts, o => ∃ vs, o = .lst vs ∧ Paired (Den K S) ts vs
  | .lw ws, o => ∃ vs, o = .lst vs ∧ Paired (DenW K al S) ws vs
  | .dt ks ts, o => ∃ vs, o = .dK (ks.zip vs) ∧ ks.length = ts.length ∧ Paired (Den K S) ts vs
  | .dw ks ws, o => ∃ vs, o = .dK (ks.zip vs) ∧ ks.length = ws.length ∧ Paired (DenW K al S) ws vs
  | .tw ws, o => ∃ vs, o = .tup vs ∧ Paired (DenW K al S) ws vs
structure Grow (al : List Addr) (S : Hp) (al' : List Addr) (S' : Hp) : Prop where
  al : ∃ more, al' = al ++ more
  s : Same S S'
theorem Grow.refl (al : List Addr) (S : Hp) : Grow al S al S := ⟨⟨[], by simp⟩, Same.refl S⟩
theorem Grow.trans {a b c : List Addr} {S S' S'' : Hp} (x : Grow a S b S') (y : Grow b S' c S'') : Grow a S c S'' := by
  obtain ⟨⟨m, e⟩, s⟩ := x
  obtain ⟨⟨m', e'⟩, s'⟩ := y
  exact ⟨⟨m ++ m', by rw [e', e, List.append_assoc]⟩, s.trans s'⟩
theorem Grow.get {a b : List Addr} {S S' : Hp} (g : Grow a S b S') {n : Nat} {x : Addr} (h : a[n]? = some x) : b[n]? = some x := by
  obtain ⟨⟨m, rfl⟩, _⟩ := g
  rw [List.getElem?_append_left (by
    rcases Nat.lt_or_ge n a.length with q | q
    · exact q
    · rw [List.getElem?_eq_none q] at h; cases h)]
  exact h
section
variable {K : PySem.W.Frag} {al al' : List Addr} {S S' F H H' : Hp}
theorem DenW.grow (g : Grow al S al' S') : ∀ {w : W} {v : V}, DenW K al S w v → DenW K al' S' w v
  | .t x, v, h => Den.mono g.s x v h
  | .h n, v, ⟨a, h1, h2⟩ => ⟨a, g.get h1, h2⟩
theorem DenWs.grow (g : Grow al S al' S') {ws : List W} {vs : List V} (h : Paired (DenW K al S) ws vs) : Paired (DenW K al' S') ws vs := Paired.mono (fun _ _ => DenW.grow g) h
theorem Denp.grow (g : Same S S') {ws : List T} {vs : List V} (h : Paired (Den K S) ws vs) : Paired (Den K S') ws vs := Paired.mono (fun t v => Den.mono g t v) h
theorem CellOk.grow (g : Grow al S al' S') : ∀ {c : Cell} {o : HO}, CellOk K al S c o → CellOk K al' S' c o
  | .lt _, _, ⟨vs, h, r⟩ => ⟨vs, h, Denp.grow g.s r⟩
  | .lw _, _, ⟨vs, h, r⟩ => ⟨vs, h, DenWs.grow g r⟩
  | .dt _ _, _, ⟨vs, h, l, r⟩ => ⟨vs, h, l, Denp.grow g.s r⟩
  | .dw _ _, _, ⟨vs, h, l, r⟩ => ⟨vs, h, l, DenWs.grow g r⟩
  | .tw _, _, ⟨vs, h, r⟩ => ⟨vs, h, DenWs.grow g r⟩
structure RepM (K : PySem.W.Frag) (al : List Addr) (S F H : Hp) (m : Sto) : Prop where
  same : Same S H
  fr : Same F H
  dis : ∀ a o, S a = some o → F a = none
  len : al.length = m.length
  cell : ∀ (n : Nat) (c : Cell), m[n]? = some (some c) → ∃ a o, al[n]? = some a ∧ S a = none ∧ F a = none ∧ H a = some o ∧ CellOk K al S c o
  inj : ∀ (n k : Nat) (c d : Cell) (a : Addr), m[n]? = some (some c) → m[k]? = some (some d) → al[n]? = some a → al[k]? = some a → n = k
structure Rep (K : PySem.W.Frag) (al : List Addr) (S F H : Hp) (σ : St) (g : G) : Prop extends RepM K al S F H g.mem where
  slen : g.sl.length = σ.length
  slot : ∀ (i : Nat) (w : W), g.sl[i]? = some (some w) → ∃ v, σ[i]? = some (some v) ∧ DenW K al S w v
variable {σ σ' : St} {g : G} {m : Sto}
/-- a new thing at p, taken as stable -/
theorem RepM.lay (R : RepM K al S F H m) {p : Addr} {o : HO} (np : H p = none) : RepM K al (upd S p o) F (upd H p o) m ∧ Grow al S al (upd S p o) := by
  have nS : S p = none := R.same.free np
  have nF : F p = none := R.fr.free np
  have gr : Grow al S al (upd S p o) := ⟨⟨[], by simp⟩, fun b u e => by rw [upd_ne (ne_of_none e nS)]; exact e⟩
  refine ⟨⟨fun b u e => ?_, fun b u e => ?_, fun b u e => ?_, R.len, fun n c e => ?_, R.inj⟩, gr⟩
  · by_cases hb : b = p
    · subst hb; rw [upd_same] at e ⊢; exact e
    · rw [upd_ne hb] at e ⊢; exact R.same b u e
  · rw [upd_ne (ne_of_none e nF)]; exact R.fr b u e
  · by_cases hb : b = p
    · subst hb; exact nF
    · rw [upd_ne hb] at e; exact R.dis b u e
  · obtain ⟨a, o', h1, h2, h3, h4, h5⟩ := R.cell n c e
    have na : a ≠ p := ne_of_none h4 np
    exact ⟨a, o', h1, by rw [upd_ne na]; exact h2, h3, by rw [upd_ne na]; exact h4, h5.grow gr⟩
/-- a new thing at p that nobody looks at -/
theorem RepM.skip (R : RepM K al S F H m) {p : Addr} {o : HO} (np : H p = none) : RepM K al S F (upd H p o) m := by
  refine ⟨fun b u e => ?_, fun b u e => ?_, R.dis, R.len, fun n c e => ?_, R.inj⟩
  · rw [upd_ne (ne_of_none (R.same _ _ e) np)]; exact R.same b u e
  · rw [upd_ne (ne_of_none (R.fr _ _ e) np)]; exact R.fr b u e
  · obtain ⟨a, o', h1, h2, h3, h4, h5⟩ := R.cell n c e
    exact ⟨a, o', h1, h2, h3, by rw [upd_ne (ne_of_none h4 np)]; exact h4, h5⟩
/-- a new cell -/
theorem RepM.push (R : RepM K al S F H m) {p : Addr} {o : HO} {c : Cell} (np : H p = none) (ok : CellOk K (al ++ [p]) S c o) : RepM K (al ++ [p]) S F (upd H p o) (m ++ [some c]) ∧ Grow al S (al ++ [p]) S := by
  have gr : Grow al S (al ++ [p]) S := ⟨⟨[p], rfl⟩, Same.refl S⟩
  have hold : ∀ (n : Nat) (c' : Cell), (m ++ [some c])[n]? = some (some c') → (n < m.length ∧ m[n]? = some (some c')) ∨ (n = m.length ∧ c' = c) := fun n c' e => by
    rcases Nat.lt_or_ge n m.length with q | q
    · rw [List.getElem?_append_left q] at e; exact .inl ⟨q, e⟩
    · rw [List.getElem?_append_right q] at e
      rcases Nat.eq_or_lt_of_le q with q' | q'
      · subst q'; simp at e; exact .inr ⟨rfl, e.symm⟩
      · rw [List.getElem?_eq_none (by simp; omega)] at e; cases e
  have atE : (al ++ [p])[m.length]? = some p := by rw [List.getElem?_append_right (by rw [R.len]; exact Nat.le_refl _), R.len]; simp
  have atN : ∀ (n : Nat), n < m.length → (al ++ [p])[n]? = al[n]? := fun n hn => List.getElem?_append_left (by rw [R.len]; exact hn)
  refine ⟨⟨fun b u e => ?_, fun b u e => ?_, R.dis, by simp [R.len], fun n c' e => ?_, fun n k c1 c2 a e1 e2 e3 e4 => ?_⟩, gr⟩
  · rw [upd_ne (ne_of_none (R.same _ _ e) np)]; exact R.same b u e
  · rw [upd_ne (ne_of_none (R.fr _ _ e) np)]; exact R.fr b u e
  · rcases hold n c' e with ⟨hn, e'⟩ | ⟨rfl, rfl⟩
    · obtain ⟨a, o', h1, h2, h3, h4, h5⟩ := R.cell n c' e'
      exact ⟨a, o', by rw [atN n hn]; exact h1, h2, h3, by rw [upd_ne (ne_of_none h4 np)]; exact h4, h5.grow gr⟩
    · exact ⟨p, o, atE, R.same.free np, R.fr.free np, upd_same, ok⟩
  · rcases hold n c1 e1 with ⟨hn, e1'⟩ | ⟨rfl, rfl⟩
    · rcases hold k c2 e2 with ⟨hk, e2'⟩ | ⟨rfl, rfl⟩
      · rw [atN n hn] at e3; rw [atN k hk] at e4
        exact R.inj n k c1 c2 a e1' e2' e3 e4
      · rw [atN n hn] at e3
        rw [atE] at e4
        cases e4
        obtain ⟨a, o', h1, h2, h3, h4, h5⟩ := R.cell n c1 e1'
        rw [e3] at h1; cases h1
        rw [np] at h4; cases h4
    · rcases hold k c2 e2 with ⟨hk, e2'⟩ | ⟨rfl, rfl⟩
      · rw [atN k hk] at e4
        rw [atE] at e3
        cases e3
        obtain ⟨a, o', h1, h2, h3, h4, h5⟩ := R.cell k c2 e2'
        rw [e4] at h1; cases h1
        rw [np] at h4; cases h4
      · rfl
/-- a cell written -/
theorem RepM.put (R : RepM K al S F H m) {n : Nat} {c0 c : Cell} {a : Addr} {o : HO} (e : m[n]? = some (some c0)) (ea : al[n]? = some a) (ok : CellOk K al S c o) : RepM K al S F (upd H a o) (m.set n (some c)) := by
  have nn : n < m.length := by
    rcases Nat.lt_or_ge n m.length with q | q
    · exact q
    · rw [List.getElem?_eq_none q] at e; cases e
  obtain ⟨a', o', g1, g2, g3, g4, g5⟩ := R.cell n c0 e
  rw [ea] at g1; cases g1
  have hset : ∀ (k : Nat) (c' : Cell), (m.set n (some c))[k]? = some (some c') → (k = n ∧ c' = c) ∨ (k ≠ n ∧ m[k]? = some (some c')) := fun k c' q => by
    by_cases hk : k = n
    · subst hk; rw [List.getElem?_set_self nn] at q; cases q; exact .inl ⟨rfl, rfl⟩
    · rw [List.getElem?_set_ne (Ne.symm hk)] at q; exact .inr ⟨hk, q⟩
  have some_of : ∀ (k : Nat) (c' : Cell), (m.set n (some c))[k]? = some (some c') → ∃ d, m[k]? = some (some d) := fun k c' q => by
    rcases hset k c' q with ⟨rfl, _⟩ | ⟨_, q'⟩
    · exact ⟨c0, e⟩
    · exact ⟨c', q'⟩
  refine ⟨fun b u q => ?_, fun b u q => ?_, R.dis, by simp [R.len], fun k c' q => ?_, fun k l c1 c2 b e1 e2 e3 e4 => ?_⟩
  · rw [upd_ne (ne_of_none q g2)]; exact R.same b u q
  · rw [upd_ne (ne_of_none q g3)]; exact R.fr b u q
  · rcases hset k c' q with ⟨rfl, rfl⟩ | ⟨hk, q'⟩
    · exact ⟨a, o, ea, g2, g3, upd_same, ok⟩
    · obtain ⟨b, o', h1, h2, h3, h4, h5⟩ := R.cell k c' q'
      have hb : b ≠ a := fun z => by subst z; exact hk (R.inj k n c' c0 b q' e h1 ea)
      exact ⟨b, o', h1, h2, h3, by rw [upd_ne hb]; exact h4, h5⟩
  · obtain ⟨d1, q1⟩ := some_of k c1 e1
    obtain ⟨d2, q2⟩ := some_of l c2 e2
    exact R.inj k l d1 d2 b q1 q2 e3 e4
/-- cells forgotten -/
theorem RepM.forget (R : RepM K al S F H m) {m' : Sto} (hl : m'.length = m.length) (h : ∀ (n : Nat) (c : Cell), m'[n]? = some (some c) → m[n]? = some (some c)) : RepM K al S F H m' :=
  ⟨R.same, R.fr, R.dis, by rw [hl]; exact R.len, fun n c e => R.cell n c (h n c e), fun n k c d a e1 e2 => R.inj n k c d a (h n c e1) (h k d e2)⟩
/-- a cell becomes stable -/
theorem RepM.frz (R : RepM K al S F H m) {n : Nat} {c : Cell} (e : m[n]? = some (some c)) : ∃ a o S', al[n]? = some a ∧ S' = upd S a o ∧ CellOk K al S c o ∧ RepM K al S' F H (m.set n none) ∧ Grow al S al S' ∧ S' a = some o := by
  have nn : n < m.length := by
    rcases Nat.lt_or_ge n m.length with q | q
    · exact q
    · rw [List.getElem?_eq_none q] at e; cases e
  obtain ⟨a, o, g1, g2, g3, g4, g5⟩ := R.cell n c e
  have gr : Grow al S al (upd S a o) := ⟨⟨[], by simp⟩, fun b u q => by rw [upd_ne (ne_of_none q g2)]; exact q⟩
  have hset : ∀ (k : Nat) (c' : Cell), (m.set n none)[k]? = some (some c') → k ≠ n ∧ m[k]? = some (some c') := fun k c' q => by
    by_cases hk : k = n
    · subst hk; rw [List.getElem?_set_self nn] at q; cases q
    · rw [List.getElem?_set_ne (Ne.symm hk)] at q; exact ⟨hk, q⟩
  refine ⟨a, o, _, g1, rfl, g5, ⟨fun b u q => ?_, R.fr, fun b u q => ?_, by simp [R.len], fun k c' q => ?_, fun k l c1 c2 b e1 e2 e3 e4 => ?_⟩, gr, upd_same⟩
  · by_cases hb : b = a
    · subst hb; rw [upd_same] at q; cases q; exact g4
    · rw [upd_ne hb] at q; exact R.same b u q
  · by_cases hb : b = a
    · subst hb; exact g3
    · rw [upd_ne hb] at q; exact R.dis b u q
  · obtain ⟨hk, q'⟩ := hset k c' q
    obtain ⟨b, o', h1, h2, h3, h4, h5⟩ := R.cell k c' q'
    have hb : b ≠ a := fun z => by subst z; exact hk (R.inj k n c' c b q' e h1 g1)
    exact ⟨b, o', h1, by rw [upd_ne hb]; exact h2, h3, h4, h5.grow gr⟩
  · exact R.inj k l c1 c2 b (hset k c1 e1).2 (hset l c2 e2).2 e3 e4
/-- the slots stay described -/
theorem Rep.withM (R : Rep K al S F H σ g) {m' : Sto} (gr : Grow al S al' S') (M : RepM K al' S' F H' m') : Rep K al' S' F H' σ ⟨g.sl, m'⟩ :=
  ⟨M, R.slen, fun i w e => let ⟨v, h1, h2⟩ := R.slot i w e; ⟨v, h1, h2.grow gr⟩⟩
theorem Rep.setSlot (R : Rep K al S F H σ g) {i : Nat} {w : W} {v : V} (d : DenW K al S w v) : Rep K al S F H (σ.set i (some v)) (g.set i w) := by
  refine ⟨R.toRepM, by simp [G.set, R.slen], fun j u e => ?_⟩
  unfold G.set at e
  dsimp only at e
  by_cases hj : i = j
  · subst hj
    by_cases hl : i < g.sl.length
    · rw [List.getElem?_set_self hl] at e
      cases e
      exact ⟨v, List.getElem?_set_self (by rw [← R.slen]; exact hl), d⟩
    · rw [List.getElem?_eq_none (by simp; omega)] at e; cases e
  · rw [List.getElem?_set_ne hj] at e
    obtain ⟨v', h1, h2⟩ := R.slot j u e
    exact ⟨v', by rw [List.getElem?_set_ne hj]; exact h1, h2⟩
end
end DL

namespace DL
open PySem PySem.Spec L2

abbrev Dt := G → (W → G → Prop) → Prop
abbrev DTt := G → (Bool → G → Prop) → Prop
abbrev DAt := G → (List W → G → Prop) → Prop
def Ct (K : PySem.W.Frag) (al : List Addr) (S F : Hp) (σ : L2.St) (Q : W → G → Prop) (QV : VK) : Prop :=
  ∀ al' S' H' g' v w, Rep K al' S' F H' σ g' → Grow al S al' S' → DenW K al' S' w v → Q w g' → QV v H'
theorem Ct.grow {K : PySem.W.Frag} {al al1 : List Addr} {S S1 F : Hp} {σ : L2.St} {Q : W → G → Prop} {QV : VK} (k : Ct K al S F σ Q QV) (gr : Grow al S al1 S1) : Ct K al1 S1 F σ Q QV :=
  fun al' S' H' g' v w R g2 d q => k al' S' H' g' v w R (gr.trans g2) d q
theorem Ct.val {K : PySem.W.Frag} {al : List Addr} {S F H : Hp} {σ : L2.St} {Q : W → G → Prop} {QV : VK} (k : Ct K al S F σ Q QV) {g : G} {v : V} {w : W} (R : Rep K al S F H σ g) (d : DenW K al S w v) (q : Q w g) : QV v H :=
  k al S H g v w R (Grow.refl _ _) d q
theorem Ct.tr {K : PySem.W.Frag} {al : List Addr} {S F H : Hp} {σ : L2.St} {Q : W → G → Prop} {QV : VK} (k : Ct K al S F σ Q QV) {g : G} {v : V} {t : T} (R : Rep K al S F H σ g) (d : Den K S t v) (q : Q (.t t) g) : QV v H :=
  k al S H g v (.t t) R (Grow.refl _ _) d q
def DEr (K : PySem.W.Frag) (τ : TE) (t : Dt) : Prop := ∀ (al : List Addr) (S F H : Hp) (σ : L2.St) (g : G) (Q : W → G → Prop) (QV : VK), Rep K al S F H σ g → t g Q → Ct K al S F σ Q QV → τ σ H QV
def DTr (K : PySem.W.Frag) (τ : TT) (t : DTt) : Prop := ∀ (al : List Addr) (S F H : Hp) (σ : L2.St) (g : G) (Q : Bool → G → Prop) (QV : Bool → Hp → Prop), Rep K al S F H σ g → t g Q →
  (∀ al' S' H' g' b, Rep K al' S' F H' σ g' → Grow al S al' S' → Q b g' → QV b H') → τ σ H QV
def DAr (K : PySem.W.Frag) (τ : TA) (t : DAt) : Prop := ∀ (al : List Addr) (S F H : Hp) (σ : L2.St) (g : G) (Q : List W → G → Prop) (QV : List V → Hp → Prop), Rep K al S F H σ g → t g Q →
  (∀ al' S' H' g' vs ws, Rep K al' S' F H' σ g' → Grow al S al' S' → Paired (DenW K al' S') ws vs → Q ws g' → QV vs H') → τ σ H QV
structure DE (X : Cx) (e : Expr) (τ : TE) (t : Dt) : Prop where
  pe : PE X e τ
  r : DEr X.K τ t
structure DT (X : Cx) (e : Expr) (τ : TT) (t : DTt) : Prop where
  pe : PT X e τ
  r : DTr X.K τ t
structure DW (X : Cx) (e : Expr) (τ : TT) (t : DTt) : Prop where
  pe : PW X e τ
  r : DTr X.K τ t
structure DA (X : Cx) (es : List Expr) (τ : TA) (t : DAt) : Prop where
  pe : PA X es τ
  r : DAr X.K τ t

/-! views -/
def Cell.tree : Cell → Option T
  | .lt ts => some (.lst ts)
  | .dt ks ts => some (.dk ks ts)
  | _ => none
def G.cell? (g : G) : W → Option Cell
  | .h n => match g.mem[n]? with | some (some c) => some c | _ => none
  | .t (.lst ts) => some (.lt ts)
  | .t (.dk ks ts) => some (.dt ks ts)
  | _ => none
def G.seqL? (g : G) (w : W) : Option (List T) := match g.cell? w with | some (.lt ts) => some ts | _ => none
def G.wseq? (g : G) (w : W) : Option (List W) := match g.cell? w with | some (.lw ts) => some ts | _ => none
def G.seq? (g : G) : W → Option (List T)
  | .t (.tup ts) => some ts
  | .t (.sq ts) => some ts
  | w => g.seqL? w
def G.tree? (g : G) : W → Option T
  | .t t => some t
  | .h n => match g.mem[n]? with | some (some c) => c.tree | _ => none
section
variable {K : PySem.W.Frag} {al al' : List Addr} {S S' F H H' : Hp} {σ : L2.St} {g : G}
theorem Rep.view (R : Rep K al S F H σ g) {w : W} {v : V} {c : Cell} (d : DenW K al S w v) (e : g.cell? w = some c) : ∃ a o, v = .ref a ∧ H a = some o ∧ CellOk K al S c o := by
  cases w with
  | h n =>
    obtain ⟨a, ea, rfl⟩ := d
    unfold G.cell? at e
    dsimp only at e
    split at e
    · rename_i c' q
      cases e
      obtain ⟨a', o, h1, h2, h3, h4, h5⟩ := R.cell n c q
      rw [ea] at h1; cases h1
      exact ⟨a, o, rfl, h4, h5⟩
    · cases e
  | t x =>
    cases x with
    | lst ts =>
      cases e
      unfold DenW Den at d
      obtain ⟨a, vs, rfl, h1, h2⟩ := d
      exact ⟨a, _, rfl, R.same _ _ h1, vs, rfl, Dens.iff.mp h2⟩
    | dk ks ts =>
      cases e
      unfold DenW Den at d
      obtain ⟨a, vs, rfl, h1, h2, h3⟩ := d
      exact ⟨a, _, rfl, R.same _ _ h1, vs, rfl, h2, Dens.iff.mp h3⟩
    | _ => cases e
theorem Rep.viewL (R : Rep K al S F H σ g) {w : W} {v : V} {ts : List T} (d : DenW K al S w v) (e : g.seqL? w = some ts) : ∃ a vs, v = .ref a ∧ H a = some (.lst vs) ∧ Paired (Den K S) ts vs := by
  unfold G.seqL? at e
  split at e
  · rename_i ts' q
    cases e
    obtain ⟨a, o, h1, h2, vs, rfl, h3⟩ := R.view d q
    exact ⟨a, vs, h1, h2, h3⟩
  · cases e
theorem Rep.viewW (R : Rep K al S F H σ g) {w : W} {v : V} {ts : List W} (d : DenW K al S w v) (e : g.wseq? w = some ts) : ∃ a vs, v = .ref a ∧ H a = some (.lst vs) ∧ Paired (DenW K al S) ts vs := by
  unfold G.wseq? at e
  split at e
  · rename_i ts' q
    cases e
    obtain ⟨a, o, h1, h2, vs, rfl, h3⟩ := R.view d q
    exact ⟨a, vs, h1, h2, h3⟩
  · cases e
theorem Rep.viewS (R : Rep K al S F H σ g) {w : W} {v : V} {ts : List T} (d : DenW K al S w v) (e : g.seq? w = some ts) : ∃ a vs, v = .ref a ∧ (SqL K H a vs ∨ SqT K H a vs) ∧ Paired (Den K S) ts vs := by
  have go : ∀ ts', g.seqL? w = some ts' → ∃ a vs, v = .ref a ∧ (SqL K H a vs ∨ SqT K H a vs) ∧ Paired (Den K S) ts' vs := fun ts' q => by
    obtain ⟨a, vs, h1, h2, h3⟩ := R.viewL d q
    exact ⟨a, vs, h1, .inl (.inl (.inl h2)), h3⟩
  unfold G.seq? at e
  split at e
  · cases e
    unfold DenW Den at d
    obtain ⟨a, vs, rfl, h1, h2⟩ := d
    exact ⟨a, vs, rfl, .inr (seqT R.same h1), Dens.iff.mp h2⟩
  · cases e
    unfold DenW Den at d
    obtain ⟨a, vs, rfl, h1, h2⟩ := d
    exact ⟨a, vs, rfl, .inl (R.same.seq h1), Dens.iff.mp h2⟩
  · exact go _ e
/-- as a tree in the heap as it stands -/
theorem Rep.viewT (R : Rep K al S F H σ g) {w : W} {v : V} {t : T} (d : DenW K al S w v) (e : g.tree? w = some t) : Den K H t v := by
  cases w with
  | t x => cases e; exact Den.mono R.same _ v d
  | h n =>
    unfold G.tree? at e
    dsimp only at e
    split at e
    · rename_i c q
      have q2 : g.cell? (.h n) = some c := by unfold G.cell?; dsimp only; rw [q]
      obtain ⟨a, o, h1, h2, h3⟩ := R.view d q2
      cases c with
      | lt ts =>
        cases e
        obtain ⟨vs, rfl, h4⟩ := h3
        unfold Den
        exact ⟨a, vs, h1, h2, Dens.iff.mpr (Denp.grow R.same h4)⟩
      | dt ks ts =>
        cases e
        obtain ⟨vs, rfl, h4, h5⟩ := h3
        unfold Den
        exact ⟨a, vs, h1, h2, h4, Dens.iff.mpr (Denp.grow R.same h5)⟩
      | _ => cases e
    · cases e
theorem Rep.layT (R : Rep K al S F H σ g) {p : Addr} {o : HO} (np : H p = none) : Rep K al (upd S p o) F (upd H p o) σ g ∧ Grow al S al (upd S p o) :=
  let ⟨M, gr⟩ := R.toRepM.lay (o := o) np
  ⟨R.withM gr M, gr⟩
/-- a new list of trees, stable -/
theorem Rep.layL (R : Rep K al S F H σ g) {p : Addr} {ts : List T} {vs : List V} (np : H p = none) (d : Paired (Den K S) ts vs) :
    Rep K al (upd S p (.lst vs)) F (upd H p (.lst vs)) σ g ∧ Grow al S al (upd S p (.lst vs)) ∧ DenW K al (upd S p (.lst vs)) (.t (.lst ts)) (.ref p) := by
  obtain ⟨R1, gr⟩ := R.layT (o := .lst vs) np
  refine ⟨R1, gr, ?_⟩
  unfold DenW Den
  exact ⟨p, vs, rfl, upd_same, Dens.iff.mpr (Denp.grow gr.s d)⟩
theorem Rep.layTup (R : Rep K al S F H σ g) {p : Addr} {ts : List T} {vs : List V} (np : H p = none) (d : Paired (Den K S) ts vs) :
    Rep K al (upd S p (.tup vs)) F (upd H p (.tup vs)) σ g ∧ Grow al S al (upd S p (.tup vs)) ∧ DenW K al (upd S p (.tup vs)) (.t (.tup ts)) (.ref p) := by
  obtain ⟨R1, gr⟩ := R.layT (o := .tup vs) np
  refine ⟨R1, gr, ?_⟩
  unfold DenW Den
  exact ⟨p, vs, rfl, .inl (.inl upd_same), Dens.iff.mpr (Denp.grow gr.s d)⟩
theorem Rep.pushC (R : Rep K al S F H σ g) {p : Addr} {o : HO} {c : Cell} (np : H p = none) (ok : CellOk K (al ++ [p]) S c o) :
    Rep K (al ++ [p]) S F (upd H p o) σ (g.push c) ∧ Grow al S (al ++ [p]) S ∧ DenW K (al ++ [p]) S (.h g.mem.length) (.ref p) := by
  obtain ⟨M, gr⟩ := R.toRepM.push np ok
  refine ⟨R.withM gr M, gr, p, ?_, rfl⟩
  rw [List.getElem?_append_right (by rw [R.len]; exact Nat.le_refl _), R.len]; simp
end
theorem patI {F : T → V → Prop} {xs : List T} {ys : List V} {i : Int} {x : T} (p : Paired F xs ys) (h : atI xs i = some x) : ∃ y, atI ys i = some y ∧ F x y := by
  unfold atI at h ⊢
  rw [← p.length]
  cases e : ixN xs.length i with
  | none => rw [e] at h; cases h
  | some j =>
    rw [e] at h
    exact pget p h
theorem patW {F : W → V → Prop} {xs : List W} {ys : List V} {i : Int} {x : W} (p : Paired F xs ys) (h : atI xs i = some x) : ∃ y, atI ys i = some y ∧ F x y := by
  unfold atI at h ⊢
  rw [← p.length]
  cases e : ixN xs.length i with
  | none => rw [e] at h; cases h
  | some j =>
    rw [e] at h
    exact pget p h

section
variable {X : Cx}
/-! names, constants -/
def dVar (i : Nat) : Dt := fun g Q => match g.sl[i]? with | some (some w) => Q w g | _ => False
theorem der_var {K : PySem.W.Frag} (i : Nat) : DEr K (tVar i) (dVar i) := by
  intro al S F H σ g Q QV R q k
  unfold dVar at q
  split at q
  · rename_i w e
    obtain ⟨v, h1, h2⟩ := R.slot i w e
    exact ⟨v, h1, k.val R h2 q⟩
  · exact q.elim
theorem de_var (i : Nat) {x : Str} {pos : Pos} (hN : X.N[i]? = some x := by rfl) (hv : Vis X.env.scope x := by first | exact Or.inl rfl | exact Or.inr (Or.inl rfl) | exact Or.inr (Or.inr rfl)) (hd : (x == ("__debug__" : Str)) = false := by decide)
    (hcd : (x == ("__classdict__" : Str)) = false := by decide) : DE X (.Name x pos) (tVar i) (dVar i) := ⟨pe_var hN hv hd hcd, der_var i⟩
/-- the cell that a slot holds becomes a tree -/
def dFrz (i : Nat) : Dt := fun g Q => match g.sl[i]? with
  | some (some (.t t)) => Q (.t t) g
  | some (some (.h n)) => (match g.mem[n]? with
    | some (some c) => (match c.tree with | some t => Q (.t t) (g.frz n t) | none => False)
    | _ => False)
  | _ => False
theorem Rep.frzT {K : PySem.W.Frag} {al : List Addr} {S F H : Hp} {σ : L2.St} {g : G} {n : Nat} {c : Cell} {t : T} (R : Rep K al S F H σ g) (e : g.mem[n]? = some (some c)) (et : c.tree = some t) :
    ∃ S' a, al[n]? = some a ∧ Rep K al S' F H σ (g.frz n t) ∧ Grow al S al S' ∧ Den K S' t (.ref a) := by
  obtain ⟨a, o, S', h1, rfl, h3, M, gr, h4⟩ := R.toRepM.frz e
  have dt : Den K (upd S a o) t (.ref a) := by
    cases c with
    | lt ts =>
      cases et
      obtain ⟨vs, rfl, h5⟩ := h3
      unfold Den
      exact ⟨a, vs, rfl, h4, Dens.iff.mpr (Denp.grow gr.s h5)⟩
    | dt ks ts =>
      cases et
      obtain ⟨vs, rfl, h5, h6⟩ := h3
      unfold Den
      exact ⟨a, vs, rfl, h4, h5, Dens.iff.mpr (Denp.grow gr.s h6)⟩
    | _ => cases et
  refine ⟨_, a, h1, ⟨M, by simp [G.frz, R.slen], fun i w q => ?_⟩, gr, dt⟩
  unfold G.frz at q
  dsimp only at q
  rw [List.getElem?_map] at q
  cases e2 : g.sl[i]? with
  | none => rw [e2] at q; cases q
  | some o2 =>
    rw [e2] at q
    cases o2 with
    | none => cases q
    | some w0 =>
      obtain ⟨v, hv, dv⟩ := R.slot i w0 e2
      refine ⟨v, hv, ?_⟩
      cases w0 with
      | t x => cases q; exact dv.grow gr
      | h m =>
        simp only [Option.map_some, frzW] at q
        split at q
        · rename_i hm
          subst hm
          cases q
          obtain ⟨b, hb, rfl⟩ := dv
          rw [h1] at hb; cases hb
          exact dt
        · cases q
          exact dv.grow gr
theorem der_frz {K : PySem.W.Frag} (i : Nat) : DEr K (tVar i) (dFrz i) := by
  intro al S F H σ g Q QV R q k
  unfold dFrz at q
  split at q
  · rename_i t e
    obtain ⟨v, h1, h2⟩ := R.slot i _ e
    exact ⟨v, h1, k.val R h2 q⟩
  · rename_i n e
    split at q
    · rename_i c ec
      split at q
      · rename_i t et
        obtain ⟨v, h1, a, h2, rfl⟩ := R.slot i _ e
        obtain ⟨S', a', h3, R', gr, d⟩ := R.frzT ec et
        rw [h2] at h3; cases h3
        exact ⟨_, h1, k _ _ _ _ _ (.t t) R' gr d q⟩
      · exact q.elim
    · exact q.elim
  · exact q.elim
theorem de_frz (i : Nat) {x : Str} {pos : Pos} (hN : X.N[i]? = some x := by rfl) (hv : Vis X.env.scope x := by first | exact Or.inl rfl | exact Or.inr (Or.inl rfl) | exact Or.inr (Or.inr rfl)) (hd : (x == ("__debug__" : Str)) = false := by decide)
    (hcd : (x == ("__classdict__" : Str)) = false := by decide) : DE X (.Name x pos) (tVar i) (dFrz i) := ⟨pe_var hN hv hd hcd, der_frz i⟩
def dC (t : T) : Dt := fun g Q => Q (.t t) g
theorem der_c {K : PySem.W.Frag} {t : T} {v : V} (h : ∀ S, Den K S t v) : DEr K (tC v) (dC t) := by
  intro al S F H σ g Q QV R q k
  exact k.tr R (h S) q
theorem de_int {i : Int} {j pos} : DE X (.Constant (.int i) j pos) (tC (.int i)) (dC (.int i)) := ⟨pe_int, der_c fun _ => by unfold Den; rfl⟩
theorem de_bl {b : Bool} {j pos} : DE X (.Constant (.bool b) j pos) (tC (.bl b)) (dC (.bl b)) := ⟨pe_bl, der_c fun _ => by unfold Den; rfl⟩
theorem de_non {j pos} : DE X (.Constant .none j pos) (tC .non) (dC .non) := ⟨pe_non, der_c fun _ => by unfold Den; rfl⟩
theorem de_str {x : Str} {j pos} : DE X (.Constant (.str x) j pos) (tC (.str x)) (dC (.str x)) := ⟨pe_str, der_c fun _ => by unfold Den; rfl⟩
/-- a module's int -/
theorem de_globI {x : Str} {i : Int} {tk : Tok} {pos : Pos} (hg : Gl X x) (hm : X.mg x = some (.int i tk)) (hd : (x == ("__debug__" : Str)) = false := by decide) : DE X (.Name x pos) (tC (.int i)) (dC (.int i)) :=
  ⟨pe_glob hg hm ⟨_, rfl⟩ hd, der_c fun _ => by unfold Den; rfl⟩
/-- a built-in's name as a value -/
theorem de_bltn {x : Str} {n : String} {pos : Pos} (hg : Gl X x) (hm : X.mg x = none) (hv : bootBuiltins x = some (.type n)) (hn : x ≠ "__name__" := by decide) (hd : (x == ("__debug__" : Str)) = false := by decide) : DE X (.Name x pos) (tC (.ty n)) (dC (.raw (.ty n))) :=
  ⟨pe_bltn hg hm hv rfl hn hd, der_c fun _ => by unfold Den; rfl⟩

/-! operators -/
abbrev F2 := G → W → W → (W → G → Prop) → Prop
abbrev F1 := G → W → (W → G → Prop) → Prop
abbrev FN := G → List W → (W → G → Prop) → Prop
def Op2 (K : PySem.W.Frag) (r : R2) (f : F2) : Prop := ∀ (al : List Addr) (S F H : Hp) (σ : L2.St) (g : G) (x y : V) (wx wy : W) (Q : W → G → Prop) (QV : VK), Rep K al S F H σ g → DenW K al S wx x → DenW K al S wy y → f g wx wy Q → Ct K al S F σ Q QV → r x y H QV
def Op1 (K : PySem.W.Frag) (r : V → Hp → VK → Prop) (f : F1) : Prop := ∀ (al : List Addr) (S F H : Hp) (σ : L2.St) (g : G) (x : V) (wx : W) (Q : W → G → Prop) (QV : VK), Rep K al S F H σ g → DenW K al S wx x → f g wx Q → Ct K al S F σ Q QV → r x H QV
def OpN (K : PySem.W.Frag) (r : List V → Hp → VK → Prop) (f : FN) : Prop := ∀ (al : List Addr) (S F H : Hp) (σ : L2.St) (g : G) (xs : List V) (ws : List W) (Q : W → G → Prop) (QV : VK), Rep K al S F H σ g → Paired (DenW K al S) ws xs → f g ws Q → Ct K al S F σ Q QV → r xs H QV
def d2 (f : F2) (ta tb : Dt) : Dt := fun g Q => ta g fun x g1 => tb g1 fun y g2 => f g2 x y Q
def d1 (f : F1) (ta : Dt) : Dt := fun g Q => ta g fun x g1 => f g1 x Q
def dN (f : FN) (ta : DAt) : Dt := fun g Q => ta g fun xs g1 => f g1 xs Q
variable {a b : Expr} {τa τb : TE} {ta tb : Dt} {pos : Pos}
theorem der_op2 {K : PySem.W.Frag} {r : R2} {f : F2} (h : Op2 K r f) (ra : DEr K τa ta) (rb : DEr K τb tb) : DEr K (tOp r τa τb) (d2 f ta tb) := by
  intro al S F H σ g Q QV R q k
  refine ra al S F H σ g _ _ R q fun al1 S1 H1 g1 v1 w1 R1 gr1 e1 q1 => ?_
  refine rb al1 S1 F H1 σ g1 _ _ R1 q1 fun al2 S2 H2 g2 v2 w2 R2 gr2 e2 q2 => ?_
  exact h al2 S2 F H2 σ g2 v1 v2 w1 w2 Q QV R2 (e1.grow gr2) e2 q2 (k.grow (gr1.trans gr2))
theorem de_op {op : Operator} {r : R2} {f : F2} (ho : OpR X (binaryOp op) r) (h : Op2 X.K r f) (ha : DE X a τa ta) (hb : DE X b τb tb) : DE X (.BinOp a op b pos) (tOp r τa τb) (d2 f ta tb) :=
  ⟨pe_op ho ha.pe hb.pe, der_op2 h ha.r hb.r⟩
theorem de_un {op : UnaryOp} {r : V → Hp → VK → Prop} {f : F1} (ho : UnR X (unaryOp op) r) (h : Op1 X.K r f) (ha : DE X a τa ta) : DE X (.UnaryOp op a pos) (tUn r τa) (d1 f ta) := by
  refine ⟨pe_un ho ha.pe, ?_⟩
  intro al S F H σ g Q QV R q k
  refine ha.r al S F H σ g _ _ R q fun al1 S1 H1 g1 v1 w1 R1 gr1 e1 q1 => ?_
  exact h al1 S1 F H1 σ g1 v1 w1 Q QV R1 e1 q1 (k.grow gr1)
theorem de_cmp {op : CmpOp} {r : R2} {f : F2} (ho : OpR X (compareOp op) r) (h : Op2 X.K r f) (ha : DE X a τa ta) (hb : DE X b τb tb) (hm : behindInMarks op b = false := by first | exact nomark _ | rfl) : DE X (.Compare a [op] [b] pos) (tOp r τa τb) (d2 f ta tb) :=
  ⟨pe_cmpR ho ha.pe hb.pe hm, der_op2 h ha.r hb.r⟩
theorem de_ixR {r : R2} {f : F2} (ho : IxR X r) (h : Op2 X.K r f) (ha : DE X a τa ta) (hb : DE X b τb tb) (hs : PlainIx b := by intro _ _; rfl) : DE X (.Subscript a b pos) (tOp r τa τb) (d2 f ta tb) :=
  ⟨pe_ix ho ha.pe hb.pe hs, der_op2 h ha.r hb.r⟩
/-- two ints -/
def fI (C : Int → Int → Prop) (f : Int → Int → T) : F2 := fun g x y Q => match x, y with | .t (.int i), .t (.int j) => C i j ∧ Q (.t (f i j)) g | _, _ => False
def fI0 (f : Int → Int → T) : F2 := fun g x y Q => match x, y with | .t (.int i), .t (.int j) => Q (.t (f i j)) g | _, _ => False
theorem op2_I {K : PySem.W.Frag} {C : Int → Int → Prop} {gg : Int → Int → V} {f : Int → Int → T} (h : ∀ i j S, Den K S (f i j) (gg i j)) : Op2 K (rI C gg) (fI C f) := by
  intro al S F H σ g x y wx wy Q QV R dx dy q k
  unfold fI at q
  split at q
  · rename_i i j
    unfold DenW Den at dx dy
    exact ⟨i, j, dx, dy, q.1, k.tr R (h i j S) q.2⟩
  · exact q.elim
theorem op2_I0 {K : PySem.W.Frag} {gg : Int → Int → V} {f : Int → Int → T} (h : ∀ i j S, Den K S (f i j) (gg i j)) : Op2 K (rI0 gg) (fI0 f) := by
  intro al S F H σ g x y wx wy Q QV R dx dy q k
  unfold fI0 at q
  split at q
  · rename_i i j
    unfold DenW Den at dx dy
    exact ⟨i, j, dx, dy, k.tr R (h i j S) q⟩
  · exact q.elim
theorem denI {K : PySem.W.Frag} {S : Hp} (i : Int) : Den K S (.int i) (.int i) := by unfold Den; rfl
theorem denB {K : PySem.W.Frag} {S : Hp} (i : Bool) : Den K S (.bl i) (.bl i) := by unfold Den; rfl
theorem denN {K : PySem.W.Frag} {S : Hp} : Den K S .non .non := by unfold Den; rfl
theorem denS {K : PySem.W.Frag} {S : Hp} (i : Str) : Den K S (.str i) (.str i) := by unfold Den; rfl
theorem Op2.or {K : PySem.W.Frag} {r r' : R2} {f f' : F2} (h : Op2 K r f) (h' : Op2 K r' f') : Op2 K (fun x y H Q => r x y H Q ∨ r' x y H Q) (fun g x y Q => f g x y Q ∨ f' g x y Q) := by
  intro al S F H σ g x y wx wy Q QV R dx dy q k
  rcases q with q | q
  · exact .inl (h al S F H σ g x y wx wy Q QV R dx dy q k)
  · exact .inr (h' al S F H σ g x y wx wy Q QV R dx dy q k)
theorem Op2.imp {K : PySem.W.Frag} {r : R2} {f f' : F2} (h : Op2 K r f) (hi : ∀ g x y Q, f' g x y Q → f g x y Q) : Op2 K r f' := by
  intro al S F H σ g x y wx wy Q QV R dx dy q k
  exact h al S F H σ g x y wx wy Q QV R dx dy (hi g wx wy Q q) k
/-- x + y: ints, lists, texts -/
def fCat : F2 := fun g x y Q => match g.seqL? x, g.seqL? y with
  | some xs, some ys => xs.length + ys.length ≤ sizeLine ∧ Q (.t (.lst (xs ++ ys))) g
  | _, _ => False
theorem op2_cat {K : PySem.W.Frag} : Op2 K rCat fCat := by
  intro al S F H σ g x y wx wy Q QV R dx dy q k
  unfold fCat at q
  split at q
  · rename_i xs ys ex ey
    obtain ⟨a, vs, rfl, h1, h2⟩ := R.viewL dx ex
    obtain ⟨b, us, rfl, h3, h4⟩ := R.viewL dy ey
    refine ⟨a, b, vs, us, rfl, rfl, h1, h3, by rw [← h2.length, ← h4.length]; exact q.1, fun p np => ?_⟩
    obtain ⟨R1, gr, d⟩ := R.layL np (papp h2 h4)
    exact k _ _ _ _ _ _ R1 gr d q.2
  · exact q.elim
def fAddS : F2 := fun g x y Q => match x, y with | .t (.str i), .t (.str j) => i.length + j.length ≤ sizeLine ∧ Q (.t (.str (i ++ j))) g | _, _ => False
theorem op2_addS {K : PySem.W.Frag} : Op2 K (fun x y H Q => ∃ i j, x = .str i ∧ y = .str j ∧ i.length + j.length ≤ sizeLine ∧ Q (.str (i ++ j)) H) fAddS := by
  intro al S F H σ g x y wx wy Q QV R dx dy q k
  unfold fAddS at q
  split at q
  · rename_i i j
    unfold DenW Den at dx dy
    exact ⟨i, j, dx, dy, q.1, k.tr R (denS _) q.2⟩
  · exact q.elim
abbrev rAddA : R2 := fun x y H Q => (rI0 fun i j => V.int (i + j)) x y H Q ∨ (fun x y H Q => rCat x y H Q ∨ (fun x y H Q => ∃ i j, x = V.str i ∧ y = V.str j ∧ i.length + j.length ≤ sizeLine ∧ Q (.str (i ++ j)) H) x y H Q) x y H Q
def fAdd : F2 := fun g x y Q => match x with
  | .t (.int _) => fI0 (fun i j => .int (i + j)) g x y Q
  | .t (.str _) => fAddS g x y Q
  | _ => fCat g x y Q
theorem de_add (ha : DE X a τa ta) (hb : DE X b τb tb) : DE X (.BinOp a .Add b pos) (tOp rAddA τa τb) (d2 fAdd ta tb) :=
  de_op (op_add.or (op_cat.or op_add_str)) (((op2_I0 fun _ _ _ => denI _).or (op2_cat.or op2_addS)).imp fun g x y Q h => by
    unfold fAdd at h
    split at h
    · exact .inl h
    · exact .inr (.inr h)
    · exact .inr (.inl h)) ha hb
theorem de_sub (ha : DE X a τa ta) (hb : DE X b τb tb) : DE X (.BinOp a .Sub b pos) (tOp (rI0 fun i j => .int (i - j)) τa τb) (d2 (fI0 fun i j => .int (i - j)) ta tb) := de_op op_sub (op2_I0 fun _ _ _ => denI _) ha hb
theorem op_mulI : OpR X (binaryOp .Mult) (rI IntMulOk fun i j => .int (i * j)) := opI fun _ _ _ _ _ _ _ hc q => PyProof.Rows.mul_int q hc
theorem de_mul (ha : DE X a τa ta) (hb : DE X b τb tb) : DE X (.BinOp a .Mult b pos) (tOp (rI IntMulOk fun i j => .int (i * j)) τa τb) (d2 (fI IntMulOk fun i j => .int (i * j)) ta tb) := de_op op_mulI (op2_I fun _ _ _ => denI _) ha hb
theorem de_mod (ha : DE X a τa ta) (hb : DE X b τb tb) : DE X (.BinOp a .Mod b pos) (tOp (rI (fun _ j => j ≠ 0) fun i j => .int (i.fmod j)) τa τb) (d2 (fI (fun _ j => j ≠ 0) fun i j => .int (i.fmod j)) ta tb) := de_op op_modN (op2_I fun _ _ _ => denI _) ha hb
theorem de_fdiv (ha : DE X a τa ta) (hb : DE X b τb tb) : DE X (.BinOp a .FloorDiv b pos) (tOp (rI CDivN fun i j => .int (i.fdiv j)) τa τb) (d2 (fI CDivN fun i j => .int (i.fdiv j)) ta tb) := de_op op_fdivN (op2_I fun _ _ _ => denI _) ha hb
theorem de_pow (ha : DE X a τa ta) (hb : DE X b τb tb) : DE X (.BinOp a .Pow b pos) (tOp (rI CPow fun i j => .int (i ^ j.toNat)) τa τb) (d2 (fI CPow fun i j => .int (i ^ j.toNat)) ta tb) := de_op op_pow (op2_I fun _ _ _ => denI _) ha hb
theorem de_neg (ha : DE X a τa ta) : DE X (.UnaryOp .USub a pos) (tUn (rU fun i => .int (-i)) τa) (d1 (fun g x Q => match x with | .t (.int i) => Q (.t (.int (-i))) g | _ => False) ta) := by
  refine de_un un_neg ?_ ha
  intro al S F H σ g x wx Q QV R dx q k
  split at q
  · rename_i i
    unfold DenW Den at dx
    exact ⟨i, dx, k.tr R (denI _) q⟩
  · exact q.elim
theorem de_lt (ha : DE X a τa ta) (hb : DE X b τb tb) : DE X (.Compare a [.Lt] [b] pos) (tOp (rI0 fun i j => V.bl (decide (i < j))) τa τb) (d2 (fI0 fun i j => .bl (decide (i < j))) ta tb) := de_cmp op_lt (op2_I0 fun _ _ _ => denB _) ha hb
theorem de_le (ha : DE X a τa ta) (hb : DE X b τb tb) : DE X (.Compare a [.LtE] [b] pos) (tOp (rI0 fun i j => V.bl (decide (i ≤ j))) τa τb) (d2 (fI0 fun i j => .bl (decide (i ≤ j))) ta tb) := de_cmp op_le (op2_I0 fun _ _ _ => denB _) ha hb
theorem de_gt (ha : DE X a τa ta) (hb : DE X b τb tb) : DE X (.Compare a [.Gt] [b] pos) (tOp (rI0 fun i j => V.bl (decide (j < i))) τa τb) (d2 (fI0 fun i j => .bl (decide (j < i))) ta tb) := de_cmp op_gt (op2_I0 fun _ _ _ => denB _) ha hb
theorem de_ge (ha : DE X a τa ta) (hb : DE X b τb tb) : DE X (.Compare a [.GtE] [b] pos) (tOp (rI0 fun i j => V.bl (decide (j ≤ i))) τa τb) (d2 (fI0 fun i j => .bl (decide (j ≤ i))) ta tb) := de_cmp op_ge (op2_I0 fun _ _ _ => denB _) ha hb
end
end DL

namespace DL
open PySem PySem.Spec L2

section
variable {X : Cx} {a b : Expr} {τa τb : TE} {ta tb : Dt} {pos : Pos}
/-! subscripts -/
def fIx : F2 := fun g x y Q => match y with
  | .t (.int i) => (match g.seq? x with
    | some ts => ∃ t, atI ts i = some t ∧ Q (.t t) g
    | none => (match g.wseq? x with
      | some ws => ∃ w, atI ws i = some w ∧ Q w g
      | none => False))
  | _ => False
theorem op2_ix {K : PySem.W.Frag} : Op2 K (fun x y H Q => rIxL K x y H Q ∨ rIxT K x y H Q) fIx := by
  intro al S F H σ g x y wx wy Q QV R dx dy q k
  unfold fIx at q
  split at q
  · rename_i i
    unfold DenW Den at dy
    split at q
    · rename_i ts e
      obtain ⟨t, h1, q⟩ := q
      obtain ⟨p, vs, rfl, h2, h3⟩ := R.viewS dx e
      obtain ⟨v, h4, h5⟩ := patI h3 h1
      rcases h2 with h2 | h2
      · exact .inl ⟨p, vs, i, v, rfl, dy, h2, h4, k.tr R h5 q⟩
      · exact .inr ⟨p, vs, i, v, rfl, dy, h2, h4, k.tr R h5 q⟩
    · split at q
      · rename_i ws e
        obtain ⟨w, h1, q⟩ := q
        obtain ⟨p, vs, rfl, h2, h3⟩ := R.viewW dx e
        obtain ⟨v, h4, h5⟩ := patW h3 h1
        exact .inl ⟨p, vs, i, v, rfl, dy, .inl (.inl h2), h4, k.val R h5 q⟩
      · exact q.elim
  · exact q.elim
theorem de_ix (ha : DE X a τa ta) (hb : DE X b τb tb) (hs : PlainIx b := by intro _ _; rfl) : DE X (.Subscript a b pos) (tOp (fun x y H Q => rIxL X.K x y H Q ∨ rIxT X.K x y H Q) τa τb) (d2 fIx ta tb) :=
  de_ixR (ix_list.or ix_tup) op2_ix ha hb hs
/-! slices -/
abbrev DOt := G → (Option Int → G → Prop) → Prop
def DOr (K : PySem.W.Frag) (τ : TO) (t : DOt) : Prop := ∀ (al : List Addr) (S F H : Hp) (σ : L2.St) (g : G) (Q : Option Int → G → Prop) (QV : Option Int → Hp → Prop), Rep K al S F H σ g → t g Q →
  (∀ al' S' H' g' b, Rep K al' S' F H' σ g' → Grow al S al' S' → Q b g' → QV b H') → τ σ H QV
structure DO (X : Cx) (e : Option Expr) (τ : TO) (t : DOt) : Prop where
  pe : PO X e τ
  r : DOr X.K τ t
def dNoPart : DOt := fun g Q => Q none g
def dPart (t : Dt) : DOt := fun g Q => t g fun w g' => match w with | .t (.int i) => Q (some i) g' | _ => False
theorem do_none : DO X none tNoPart dNoPart := ⟨po_none, fun al S F H σ g Q QV R q k => k al S H g none R (Grow.refl _ _) q⟩
theorem do_some (ha : DE X a τa ta) : DO X (some a) (tPart τa) (dPart ta) := by
  refine ⟨po_some ha.pe, fun al S F H σ g Q QV R q k => ?_⟩
  refine ha.r al S F H σ g _ _ R q fun al1 S1 H1 g1 v1 w1 R1 gr1 e1 q1 => ?_
  split at q1
  · rename_i i
    unfold DenW Den at e1
    exact ⟨i, e1, k _ _ _ _ _ R1 gr1 q1⟩
  · exact q1.elim
def cut {α : Type} (xs : List α) (lo hi : Option Int) : List α := (xs.drop (HT.sIx xs.length 0 lo)).take (HT.sIx xs.length xs.length hi - HT.sIx xs.length 0 lo)
def dSl (t : Dt) (l u : DOt) : Dt := fun g Q => t g fun x g1 => l g1 fun lo g2 => u g2 fun hi g3 => match g3.seq? x with
  | some ts => (match x with | .t (.tup _) => False | _ => Q (.t (.lst (cut ts lo hi))) g3)
  | none => False
theorem not_tup {K : PySem.W.Frag} {al : List Addr} {S F H : Hp} {σ : L2.St} {g : G} (R : Rep K al S F H σ g) {w : W} {v : V} {ts : List T} (d : DenW K al S w v) (e : g.seq? w = some ts) (h : ∀ us, w ≠ .t (.tup us)) : ∃ a vs, v = .ref a ∧ SqL K H a vs ∧ Paired (Den K S) ts vs := by
  unfold G.seq? at e
  split at e
  · exact absurd rfl (h _)
  · cases e
    unfold DenW Den at d
    obtain ⟨a, vs, rfl, h1, h2⟩ := d
    exact ⟨a, vs, rfl, R.same.seq h1, Dens.iff.mp h2⟩
  · obtain ⟨a, vs, h1, h2, h3⟩ := R.viewL d e
    exact ⟨a, vs, h1, .inl (.inl h2), h3⟩
theorem de_sl {lo hi : Option Expr} {τl τh : TO} {tl th : DOt} {p2 : Pos} (ha : DE X a τa ta) (hl : DO X lo τl tl) (hh : DO X hi τh th) : DE X (.Subscript a (.Slice lo hi none p2) pos) (tSl (rSlL X.K) τa τl τh) (dSl ta tl th) := by
  refine ⟨pe_slice sl_list ha.pe hl.pe hh.pe, fun al S F H σ g Q QV R q k => ?_⟩
  refine ha.r al S F H σ g _ _ R q fun al1 S1 H1 g1 v1 w1 R1 gr1 e1 q1 => ?_
  refine hl.r al1 S1 F H1 σ g1 _ _ R1 q1 fun al2 S2 H2 g2 b2 R2 gr2 q2 => ?_
  refine hh.r al2 S2 F H2 σ g2 _ _ R2 q2 fun al3 S3 H3 g3 b3 R3 gr3 q3 => ?_
  split at q3
  · rename_i ts e
    split at q3
    · exact q3.elim
    · rename_i hne
      obtain ⟨a, vs, rfl, h1, h2⟩ := not_tup R3 (e1.grow (gr2.trans gr3)) e (fun us z => hne us z)
      refine ⟨a, vs, rfl, h1, fun p np => ?_⟩
      have hp : Paired (Den X.K S3) (cut ts b2 b3) (cutV vs b2 b3) := by
        unfold cut cutV
        rw [h2.length]
        exact ptake _ (pdrop _ h2)
      obtain ⟨R4, gr4, d⟩ := R3.layL np hp
      exact k _ _ _ _ _ _ R4 (gr1.trans (gr2.trans (gr3.trans gr4))) d q3
  · exact q3.elim
/-! arguments, displays -/
def treesW : List W → Option (List T)
  | [] => some []
  | .t x :: r => (treesW r).map (x :: ·)
  | _ => none
theorem treesW_den {K : PySem.W.Frag} {al : List Addr} {S : Hp} : ∀ {ws : List W} {ts : List T} {vs : List V}, treesW ws = some ts → Paired (DenW K al S) ws vs → Paired (Den K S) ts vs
  | [], ts, vs, e, h => by cases e; cases h; exact .nil
  | .t x :: r, ts, vs, e, h => by
    unfold treesW at e
    cases q : treesW r with
    | none => rw [q] at e; cases e
    | some us =>
      rw [q] at e
      cases e
      cases h with
      | cons h1 h2 => exact .cons h1 (treesW_den q h2)
  | .h n :: r, ts, vs, e, h => by cases e
theorem treesW_map : ∀ ts : List T, treesW (ts.map W.t) = some ts
  | [] => rfl
  | t :: ts => by rw [List.map_cons]; unfold treesW; rw [treesW_map ts]; rfl
def dNil : DAt := fun g Q => Q [] g
def dCons (t : Dt) (r : DAt) : DAt := fun g Q => t g fun w g1 => r g1 fun ws g2 => Q (w :: ws) g2
theorem da_nil : DA X [] tNil dNil := ⟨pa_nil, fun al S F H σ g Q QV R q k => k al S H g [] [] R (Grow.refl _ _) .nil q⟩
theorem da_cons {es : List Expr} {τr : TA} {tr : DAt} (ha : DE X a τa ta) (hr : DA X es τr tr) (hs : starEach (a :: es) X.env = (false, eval a X.env) :: starEach es X.env := by rfl) : DA X (a :: es) (tCons τa τr) (dCons ta tr) := by
  refine ⟨pa_cons ha.pe hr.pe hs, fun al S F H σ g Q QV R q k => ?_⟩
  refine ha.r al S F H σ g _ _ R q fun al1 S1 H1 g1 v1 w1 R1 gr1 e1 q1 => ?_
  refine hr.r al1 S1 F H1 σ g1 _ _ R1 q1 fun al2 S2 H2 g2 vs2 ws2 R2 gr2 e2 q2 => ?_
  exact k _ _ _ _ _ _ R2 (gr1.trans gr2) (.cons (e1.grow gr2) e2) q2
variable {es : List Expr} {τs : TA} {ts : DAt}
def dTup (t : DAt) : Dt := fun g Q => t g fun ws g1 => match treesW ws with | some us => ws.length ≤ sizeLine ∧ Q (.t (.tup us)) g1 | none => False
def dLst (t : DAt) : Dt := fun g Q => t g fun ws g1 => match treesW ws with | some us => ws.length ≤ sizeLine ∧ Q (.t (.lst us)) g1 | none => False
def dLstH (t : DAt) : Dt := fun g Q => t g fun ws g1 => match treesW ws with | some us => ws.length ≤ sizeLine ∧ Q (.h g1.mem.length) (g1.push (.lt us)) | none => False
def dLstW (t : DAt) : Dt := fun g Q => t g fun ws g1 => ws.length ≤ sizeLine ∧ Q (.h g1.mem.length) (g1.push (.lw ws))
theorem de_tup {x1} (h : DA X es τs ts) : DE X (.Tuple es x1 pos) (tTup τs) (dTup ts) := by
  refine ⟨pe_tup h.pe, fun al S F H σ g Q QV R q k => ?_⟩
  refine h.r al S F H σ g _ _ R q fun al1 S1 H1 g1 vs ws R1 gr1 e1 q1 => ?_
  split at q1
  · rename_i us e
    refine ⟨by rw [← e1.length]; exact q1.1, fun p np => ?_⟩
    obtain ⟨R2, gr2, d⟩ := R1.layTup np (treesW_den e e1)
    exact k _ _ _ _ _ _ R2 (gr1.trans gr2) d q1.2
  · exact q1.elim
theorem de_lst (h : DA X es τs ts) : DE X (.List es pos) (tLst τs) (dLst ts) := by
  refine ⟨pe_lst h.pe, fun al S F H σ g Q QV R q k => ?_⟩
  refine h.r al S F H σ g _ _ R q fun al1 S1 H1 g1 vs ws R1 gr1 e1 q1 => ?_
  split at q1
  · rename_i us e
    refine ⟨by rw [← e1.length]; exact q1.1, fun p np => ?_⟩
    obtain ⟨R2, gr2, d⟩ := R1.layL np (treesW_den e e1)
    exact k _ _ _ _ _ _ R2 (gr1.trans gr2) d q1.2
  · exact q1.elim
theorem de_lstH (h : DA X es τs ts) : DE X (.List es pos) (tLst τs) (dLstH ts) := by
  refine ⟨pe_lst h.pe, fun al S F H σ g Q QV R q k => ?_⟩
  refine h.r al S F H σ g _ _ R q fun al1 S1 H1 g1 vs ws R1 gr1 e1 q1 => ?_
  split at q1
  · rename_i us e
    refine ⟨by rw [← e1.length]; exact q1.1, fun p np => ?_⟩
    obtain ⟨R2, gr2, d⟩ := R1.pushC (c := .lt us) (o := .lst vs) np ⟨vs, rfl, treesW_den e e1⟩
    exact k _ _ _ _ _ _ R2 (gr1.trans gr2) d q1.2
  · exact q1.elim
theorem de_lstW (h : DA X es τs ts) : DE X (.List es pos) (tLst τs) (dLstW ts) := by
  refine ⟨pe_lst h.pe, fun al S F H σ g Q QV R q k => ?_⟩
  refine h.r al S F H σ g _ _ R q fun al1 S1 H1 g1 vs ws R1 gr1 e1 q1 => ?_
  refine ⟨by rw [← e1.length]; exact q1.1, fun p np => ?_⟩
  obtain ⟨R2, gr2, d⟩ := R1.pushC (c := .lw ws) (o := .lst vs) np ⟨vs, rfl, DenWs.grow ⟨⟨[p], rfl⟩, Same.refl _⟩ e1⟩
  exact k _ _ _ _ _ _ R2 (gr1.trans gr2) d q1.2
theorem der_N {K : PySem.W.Frag} {r : List V → Hp → VK → Prop} {f : FN} (h : OpN K r f) (rs : DAr K τs ts) : DEr K (tCB r τs) (dN f ts) := by
  intro al S F H σ g Q QV R q k
  refine rs al S F H σ g _ _ R q fun al1 S1 H1 g1 vs ws R1 gr1 e1 q1 => ?_
  exact h al1 S1 F H1 σ g1 vs ws Q QV R1 e1 q1 (k.grow gr1)
theorem de_callB {x : Str} {id : String} {r : List V → Hp → VK → Prop} {f : FN} {p : Pos} (hc : CallR X (.builtin id) r) (h : OpN X.K r f) (hg : Gl X x) (hm : X.mg x = none) (hv : bootBuiltins x = some (.builtin id)) (ha : DA X (a :: es) τs ts)
    (hn : x ≠ "__name__" := by decide) (hdb : (x == ("__debug__" : Str)) = false := by decide) (pe : PE X (.Call (.Name x p) (a :: es) [] pos) (tCB r τs)) : DE X (.Call (.Name x p) (a :: es) [] pos) (tCB r τs) (dN f ts) :=
  ⟨pe, der_N h ha.r⟩
end
end DL

namespace DL
open PySem PySem.Spec L2

section
variable {X : Cx} {a b e : Expr} {τa τb : TE} {ta tb : Dt} {pos : Pos} {es : List Expr} {τs : TA} {ts : DAt}
/-! == of data -/
def T.pd : T → PyData
  | .non => .none
  | .bl b => .bool b
  | .int i => .int i
  | .str s => .str s
  | .lst xs => .list (xs.map T.pd)
  | .sq xs => .list (xs.map T.pd)
  | .tup xs => .tuple (xs.map T.pd)
  | .dk _ _ => .dict []
  | .raw _ => .dict []
  | .exc _ => .dict []
/-- plain data of depth at most n -/
def T.sh : Nat → T → Bool
  | _, .non => true
  | _, .bl _ => true
  | _, .int _ => true
  | _, .str s => PyData.strOk s
  | n + 1, .lst xs => xs.all (T.sh n)
  | n + 1, .sq xs => xs.all (T.sh n)
  | n + 1, .tup xs => xs.all (T.sh n)
  | _, _ => false
def teq (x y : T) : Bool := PyData.eqv x.pd y.pd
theorem sh_all : ∀ (n : Nat) (xs : List T), (∀ t ∈ xs, t.pd.canLay0 = true ∧ t.pd.depth ≤ n) → PyData.canLayAll0 (xs.map T.pd) = true ∧ PyData.depthAll (xs.map T.pd) ≤ n
  | n, [], _ => ⟨by simp [PyData.canLayAll0], by simp [PyData.depthAll]⟩
  | n, t :: xs, h => by
    obtain ⟨h1, h2⟩ := h t (by simp)
    obtain ⟨h3, h4⟩ := sh_all n xs fun u hu => h u (by simp [hu])
    rw [List.map_cons]
    constructor
    · simp [PyData.canLayAll0, h1, h3]
    · simp only [PyData.depthAll]
      omega
theorem sh_ok : ∀ (n : Nat) (t : T), t.sh n = true → t.pd.canLay0 = true ∧ t.pd.depth ≤ n + 1
  | n, .non, _ => ⟨by simp [T.pd, PyData.canLay0], by simp [T.pd, PyData.depth]⟩
  | n, .bl _, _ => ⟨by simp [T.pd, PyData.canLay0], by simp [T.pd, PyData.depth]⟩
  | n, .int _, _ => ⟨by simp [T.pd, PyData.canLay0], by simp [T.pd, PyData.depth]⟩
  | n, .str s, h => by
    have h' : PyData.strOk s = true := by cases n <;> simpa [T.sh] using h
    exact ⟨by simp [T.pd, PyData.canLay0, h'], by simp [T.pd, PyData.depth]⟩
  | 0, .lst xs, h => by simp [T.sh] at h
  | 0, .sq xs, h => by simp [T.sh] at h
  | 0, .tup xs, h => by simp [T.sh] at h
  | n + 1, .lst xs, h => by
    have h' : ∀ t ∈ xs, t.sh n = true := by simpa [T.sh, List.all_eq_true] using h
    have := sh_all (n + 1) xs fun t ht => let ⟨a, b⟩ := sh_ok n t (h' t ht); ⟨a, b⟩
    exact ⟨by simpa [T.pd, PyData.canLay0] using this.1, by simpa [T.pd, PyData.depth] using this.2⟩
  | n + 1, .sq xs, h => by
    have h' : ∀ t ∈ xs, t.sh n = true := by simpa [T.sh, List.all_eq_true] using h
    have := sh_all (n + 1) xs fun t ht => let ⟨a, b⟩ := sh_ok n t (h' t ht); ⟨a, b⟩
    exact ⟨by simpa [T.pd, PyData.canLay0] using this.1, by simpa [T.pd, PyData.depth] using this.2⟩
  | n + 1, .tup xs, h => by
    have h' : ∀ t ∈ xs, t.sh n = true := by simpa [T.sh, List.all_eq_true] using h
    have := sh_all (n + 1) xs fun t ht => let ⟨a, b⟩ := sh_ok n t (h' t ht); ⟨a, b⟩
    exact ⟨by simpa [T.pd, PyData.canLay0] using this.1, by simpa [T.pd, PyData.depth] using this.2⟩
  | n, .dk _ _, h => by cases n <;> simp [T.sh] at h
  | n, .raw _, h => by cases n <;> simp [T.sh] at h
  | n, .exc _, h => by cases n <;> simp [T.sh] at h
theorem shaped_of {n : Nat} {t : T} (h : t.sh n = true) (hn : n ≤ 60) : SeqAt.shaped t.pd = true := by
  obtain ⟨h1, h2⟩ := sh_ok n t h
  unfold SeqAt.shaped
  rw [h1, decide_eq_true (by omega)]
  rfl
theorem dpAll_of {K : PySem.W.Frag} {H : Hp} : ∀ {xs : List T} {vs : List V}, (∀ t ∈ xs, ∀ v, Den K H t v → Dp K H v t.pd) → Dens K H xs vs → DpAll K H vs (xs.map T.pd)
  | [], vs, _, d => by unfold Dens at d; subst d; exact .nil
  | t :: xs, vs, h, d => by
    unfold Dens at d
    obtain ⟨v, r, rfl, d1, d2⟩ := d
    exact .cons (h t (by simp) v d1) (dpAll_of (fun u hu => h u (by simp [hu])) d2)
theorem dp_of {K : PySem.W.Frag} {H : Hp} : ∀ (n : Nat) (t : T) (v : V), t.sh n = true → Den K H t v → Dp K H v t.pd
  | n, .non, v, _, d => by unfold Den at d; subst d; unfold T.pd; exact .non
  | n, .bl _, v, _, d => by unfold Den at d; subst d; unfold T.pd; exact .bl _
  | n, .int _, v, _, d => by unfold Den at d; subst d; unfold T.pd; exact .int _
  | n, .str _, v, _, d => by unfold Den at d; subst d; unfold T.pd; exact .str _
  | 0, .lst xs, v, h, d => by simp [T.sh] at h
  | 0, .sq xs, v, h, d => by simp [T.sh] at h
  | 0, .tup xs, v, h, d => by simp [T.sh] at h
  | n + 1, .lst xs, v, h, d => by
    have h' : ∀ t ∈ xs, t.sh n = true := by simpa [T.sh, List.all_eq_true] using h
    unfold Den at d
    obtain ⟨a, vs, rfl, h1, h2⟩ := d
    unfold T.pd
    exact .lst (.inl (.inl h1)) (dpAll_of (fun t ht v dv => dp_of n t v (h' t ht) dv) h2)
  | n + 1, .sq xs, v, h, d => by
    have h' : ∀ t ∈ xs, t.sh n = true := by simpa [T.sh, List.all_eq_true] using h
    unfold Den at d
    obtain ⟨a, vs, rfl, h1, h2⟩ := d
    unfold T.pd
    exact .lst h1 (dpAll_of (fun t ht v dv => dp_of n t v (h' t ht) dv) h2)
  | n + 1, .tup xs, v, h, d => by
    have h' : ∀ t ∈ xs, t.sh n = true := by simpa [T.sh, List.all_eq_true] using h
    unfold Den at d
    obtain ⟨a, vs, rfl, h1, h2⟩ := d
    unfold T.pd
    exact .tup h1 (dpAll_of (fun t ht v dv => dp_of n t v (h' t ht) dv) h2)
  | n, .dk _ _, v, h, d => by cases n <;> simp [T.sh] at h
  | n, .raw _, v, h, d => by cases n <;> simp [T.sh] at h
  | n, .exc _, v, h, d => by cases n <;> simp [T.sh] at h
def fEq (neg : Bool) : F2 := fun g x y Q => match x, y with
  | .t (.int i), .t (.int j) => Q (.t (.bl (if neg then !(decide (i = j)) else decide (i = j)))) g
  | .t (.str i), .t (.str j) => Q (.t (.bl (if neg then !(decide (i = j)) else decide (i = j)))) g
  | x, y => match g.tree? x, g.tree? y with
    | some tx, some ty => tx.sh 8 = true ∧ ty.sh 8 = true ∧ Q (.t (.bl (if neg then !teq tx ty else teq tx ty))) g
    | _, _ => False
theorem op2_eq (neg : Bool) {K : PySem.W.Frag} : Op2 K (fun x y H Q => (scal x y = true ∧ Q (.bl (if neg then !decide (x = y) else decide (x = y))) H) ∨
    (∃ d e, Dp K H x d ∧ Dp K H y e ∧ SeqAt.shaped d = true ∧ SeqAt.shaped e = true ∧ Q (.bl (if neg then !PyData.eqv d e else PyData.eqv d e)) H)) (fEq neg) := by
  intro al S F H σ g x y wx wy Q QV R dx dy q k
  unfold fEq at q
  split at q
  · rename_i i j
    unfold DenW Den at dx dy
    subst dx dy
    refine .inl ⟨rfl, k.tr R (t := .bl _) (by unfold Den; rfl) ?_⟩
    have e : decide (V.int i = V.int j) = decide (i = j) := by
      by_cases h : i = j
      · subst h; simp
      · rw [decide_eq_false h, decide_eq_false fun z => h (V.int.inj z)]
    rw [e]; exact q
  · rename_i i j
    unfold DenW Den at dx dy
    subst dx dy
    refine .inl ⟨rfl, k.tr R (t := .bl _) (by unfold Den; rfl) ?_⟩
    have e : decide (V.str i = V.str j) = decide (i = j) := by
      by_cases h : i = j
      · subst h; simp
      · rw [decide_eq_false h, decide_eq_false fun z => h (V.str.inj z)]
    rw [e]; exact q
  · split at q
    · rename_i tx ty ex ey
      obtain ⟨h1, h2, q⟩ := q
      exact .inr ⟨tx.pd, ty.pd, dp_of 8 _ _ h1 (R.viewT dx ex), dp_of 8 _ _ h2 (R.viewT dy ey), shaped_of h1 (by decide), shaped_of h2 (by decide), k.tr R (denB _) q⟩
    · exact q.elim
theorem de_eq {kk : Nat} (hr : Room kk X.A) (ha : DE X a τa ta) (hb : DE X b τb tb) : DE X (.Compare a [.Eq] [b] pos) (tOp (fun x y H Q => (scal x y = true ∧ Q (.bl (if false then !decide (x = y) else decide (x = y))) H) ∨
    (∃ d e, Dp X.K H x d ∧ Dp X.K H y e ∧ SeqAt.shaped d = true ∧ SeqAt.shaped e = true ∧ Q (.bl (if false then !PyData.eqv d e else PyData.eqv d e)) H)) τa τb) (d2 (fEq false) ta tb) := de_cmp (op_eq.or (op_eqD hr.units)) (op2_eq false) ha hb
theorem de_ne {kk : Nat} (hr : Room kk X.A) (ha : DE X a τa ta) (hb : DE X b τb tb) : DE X (.Compare a [.NotEq] [b] pos) (tOp (fun x y H Q => (scal x y = true ∧ Q (.bl (if true then !decide (x = y) else decide (x = y))) H) ∨
    (∃ d e, Dp X.K H x d ∧ Dp X.K H y e ∧ SeqAt.shaped d = true ∧ SeqAt.shaped e = true ∧ Q (.bl (if true then !PyData.eqv d e else PyData.eqv d e)) H)) τa τb) (d2 (fEq true) ta tb) := de_cmp (op_ne.or (op_neD hr.units)) (op2_eq true) ha hb
def fIsN (neg : Bool) : F2 := fun g x y Q => match x, y with
  | .t .non, .t .non => Q (.t (.bl (!neg))) g
  | _, .t .non => Q (.t (.bl neg)) g
  | _, _ => False
theorem notNon {K : PySem.W.Frag} {al : List Addr} {S : Hp} {w : W} {v : V} (d : DenW K al S w v) (h : w ≠ .t .non) (h2 : ∀ x, w ≠ .t (.raw x)) : v ≠ .non := by
  intro e
  subst e
  cases w with
  | h n => obtain ⟨_, _, z⟩ := d; cases z
  | t x =>
    cases x with
    | non => exact h rfl
    | raw x => exact h2 x rfl
    | exc n => unfold DenW Den at d; obtain ⟨_, _, z, _⟩ := d; cases z
    | bl _ => unfold DenW Den at d; cases d
    | int _ => unfold DenW Den at d; cases d
    | str _ => unfold DenW Den at d; cases d
    | lst _ => unfold DenW Den at d; obtain ⟨_, _, z, _⟩ := d; cases z
    | sq _ => unfold DenW Den at d; obtain ⟨_, _, z, _⟩ := d; cases z
    | tup _ => unfold DenW Den at d; obtain ⟨_, _, z, _⟩ := d; cases z
    | dk _ _ => unfold DenW Den at d; obtain ⟨_, _, z, _⟩ := d; cases z
/-! in, not in -/
def T.flat : T → Option V
  | .non => some .non
  | .bl b => some (.bl b)
  | .int i => some (.int i)
  | .str s => some (.str s)
  | _ => none
theorem flat_den {K : PySem.W.Frag} {S : Hp} {t : T} {v u : V} (h : t.flat = some u) (d : Den K S t v) : v = u ∧ flatV v = true := by
  cases t with
  | non => cases h; unfold Den at d; subst d; exact ⟨rfl, rfl⟩
  | bl b => cases h; unfold Den at d; subst d; exact ⟨rfl, rfl⟩
  | int b => cases h; unfold Den at d; subst d; exact ⟨rfl, rfl⟩
  | str b => cases h; unfold Den at d; subst d; exact ⟨rfl, rfl⟩
  | _ => cases h
def inT (x : T) (ts : List T) : Bool := ts.any fun t => match t.flat, x.flat with | some u, some v => eqV u v | _, _ => false
def fIn (neg : Bool) : F2 := fun g x y Q => match x with
  | .t tx => (match g.seq? y with
    | some ts => tx.flat.isSome = true ∧ (∀ t ∈ ts, t.flat.isSome = true) ∧ Q (.t (.bl (if neg then !inT tx ts else inT tx ts))) g
    | none => False)
  | _ => False
theorem in_den {K : PySem.W.Frag} {S : Hp} {tx : T} {x : V} (hx : tx.flat = some x) : ∀ {ts : List T} {vs : List V}, (∀ t ∈ ts, t.flat.isSome = true) → Paired (Den K S) ts vs → inV x vs = inT tx ts ∧ vs.all flatV = true
  | _, _, _, .nil => ⟨rfl, rfl⟩
  | t :: ts, v :: vs, h, .cons d r => by
    obtain ⟨u, hu⟩ := Option.isSome_iff_exists.mp (h t (by simp))
    obtain ⟨rfl, f⟩ := flat_den hu d
    obtain ⟨h1, h2⟩ := in_den hx (fun t ht => h t (by simp [ht])) r
    constructor
    · unfold inV inT at h1 ⊢
      rw [List.any_cons, List.any_cons, h1, hu, hx]
    · rw [List.all_cons, f, h2]; rfl
theorem op2_in (neg : Bool) {K : PySem.W.Frag} : Op2 K (rIn K neg) (fIn neg) := by
  intro al S F H σ g x y wx wy Q QV R dx dy q k
  unfold fIn at q
  split at q
  · rename_i tx
    split at q
    · rename_i ts e
      obtain ⟨h1, h2, q⟩ := q
      obtain ⟨u, hu⟩ := Option.isSome_iff_exists.mp h1
      obtain ⟨rfl, f⟩ := flat_den hu dx
      obtain ⟨p, vs, rfl, h3, h4⟩ := R.viewS dy e
      obtain ⟨h5, h6⟩ := in_den hu h2 h4
      refine ⟨p, vs, rfl, h3, f, h6, k.tr R (t := .bl _) (by unfold Den; rfl) ?_⟩
      rw [h5]; exact q
    · exact q.elim
  · exact q.elim
theorem de_in (ha : DE X a τa ta) (hb : DE X b τb tb) (hm : behindInMarks .In b = false := by rfl) : DE X (.Compare a [.In] [b] pos) (tOp (rIn X.K false) τa τb) (d2 (fIn false) ta tb) := de_cmp op_in_seq (op2_in false) ha hb hm
theorem de_notin (ha : DE X a τa ta) (hb : DE X b τb tb) (hm : behindInMarks .NotIn b = false := by rfl) : DE X (.Compare a [.NotIn] [b] pos) (tOp (rIn X.K true) τa τb) (d2 (fIn true) ta tb) := de_cmp op_notIn_seq (op2_in true) ha hb hm

/-! built-ins -/
theorem OpN.or {K : PySem.W.Frag} {r r' : List V → Hp → VK → Prop} {f f' : FN} (h : OpN K r f) (h' : OpN K r' f') : OpN K (fun x H Q => r x H Q ∨ r' x H Q) (fun g x Q => f g x Q ∨ f' g x Q) := by
  intro al S F H σ g x wx Q QV R dx q k
  rcases q with q | q
  · exact .inl (h al S F H σ g x wx Q QV R dx q k)
  · exact .inr (h' al S F H σ g x wx Q QV R dx q k)
theorem OpN.imp {K : PySem.W.Frag} {r : List V → Hp → VK → Prop} {f f' : FN} (h : OpN K r f) (hi : ∀ g x Q, f' g x Q → f g x Q) : OpN K r f' := by
  intro al S F H σ g x wx Q QV R dx q k
  exact h al S F H σ g x wx Q QV R dx (hi g wx Q q) k
theorem p1 {α β : Type} {F : α → β → Prop} {x : α} {ys : List β} (h : Paired F [x] ys) : ∃ y, ys = [y] ∧ F x y := by
  cases h with
  | cons h1 h2 => cases h2; exact ⟨_, rfl, h1⟩
theorem p2 {α β : Type} {F : α → β → Prop} {x y : α} {ys : List β} (h : Paired F [x, y] ys) : ∃ u v, ys = [u, v] ∧ F x u ∧ F y v := by
  cases h with
  | cons h1 h2 =>
    obtain ⟨v, rfl, h3⟩ := p1 h2
    exact ⟨_, _, rfl, h1, h3⟩
/-- length of what a thing holds -/
def G.len? (g : G) (w : W) : Option Nat := match w with
  | .t (.lst ts) => some ts.length
  | .t (.sq ts) => some ts.length
  | .t (.tup ts) => some ts.length
  | .t (.dk ks _) => some ks.length
  | .h n => (match g.mem[n]? with
    | some (some (.lt ts)) => some ts.length
    | some (some (.lw ts)) => some ts.length
    | some (some (.dt ks _)) => some ks.length
    | some (some (.dw ks _)) => some ks.length
    | _ => none)
  | _ => none
def fLen : FN := fun g ws Q => match ws with
  | [w] => (match g.len? w with | some n => Q (.t (.int n)) g | none => False)
  | _ => False
theorem opN_len {K : PySem.W.Frag} : OpN K (fun xs H Q => (∃ p ys, xs = [V.ref p] ∧ (SqL K H p ys ∨ SqT K H p ys) ∧ Q (.int ys.length) H) ∨ (∃ a kvs, xs = [V.ref a] ∧ H a = some (.dK kvs) ∧ Q (.int kvs.length) H)) fLen := by
  intro al S F H σ g xs ws Q QV R ds q k
  unfold fLen at q
  split at q
  · rename_i w
    obtain ⟨v, rfl, d⟩ := p1 ds
    split at q
    · rename_i n e
      have seq : ∀ ts, g.seq? w = some ts → n = ts.length → (∃ p ys, [v] = [V.ref p] ∧ (SqL K H p ys ∨ SqT K H p ys) ∧ QV (.int ys.length) H) := fun ts h1 h2 => by
        obtain ⟨p, vs, rfl, h3, h4⟩ := R.viewS d h1
        refine ⟨p, vs, rfl, h3, ?_⟩
        rw [← h4.length, ← h2]
        exact k.tr R (denI _) q
      have dic : ∀ (c : Cell) (ks : List Key), g.cell? w = some c → n = ks.length → (∀ o, CellOk K al S c o → ∃ kvs, o = .dK kvs ∧ kvs.length = ks.length) → (∃ a kvs, [v] = [V.ref a] ∧ H a = some (.dK kvs) ∧ QV (.int kvs.length) H) := fun c ks h1 h2 h3 => by
        obtain ⟨a, o, rfl, h4, h5⟩ := R.view d h1
        obtain ⟨kvs, rfl, h6⟩ := h3 o h5
        refine ⟨a, kvs, rfl, h4, ?_⟩
        rw [h6, ← h2]
        exact k.tr R (denI _) q
      unfold G.len? at e
      split at e
      · exact .inl (seq _ rfl (Option.some.inj e).symm)
      · exact .inl (seq _ rfl (Option.some.inj e).symm)
      · exact .inl (seq _ rfl (Option.some.inj e).symm)
      · rename_i ks ts
        exact .inr (dic _ ks rfl (Option.some.inj e).symm fun o ⟨vs, h1, h2, h3⟩ => ⟨_, h1, by rw [List.length_zip, ← h3.length, h2, Nat.min_self]⟩)
      · rename_i m
        split at e
        · rename_i ts em
          have ec : g.cell? (.h m) = some (.lt ts) := by unfold G.cell?; dsimp only; rw [em]
          exact .inl (seq ts (by unfold G.seq? G.seqL?; dsimp only; rw [ec]) (Option.some.inj e).symm)
        · rename_i ts em
          have ec : g.cell? (.h m) = some (.lw ts) := by unfold G.cell?; dsimp only; rw [em]
          obtain ⟨a, o, rfl, h1, vs, rfl, h2⟩ := R.view d ec
          refine .inl ⟨a, vs, rfl, .inl (.inl (.inl h1)), ?_⟩
          rw [← h2.length, Option.some.inj e]
          exact k.tr R (denI _) q
        · rename_i ks ts em
          have ec : g.cell? (.h m) = some (.dt ks ts) := by unfold G.cell?; dsimp only; rw [em]
          exact .inr (dic _ ks ec (Option.some.inj e).symm fun o ⟨vs, h1, h2, h3⟩ => ⟨_, h1, by rw [List.length_zip, ← h3.length, h2, Nat.min_self]⟩)
        · rename_i ks ts em
          have ec : g.cell? (.h m) = some (.dw ks ts) := by unfold G.cell?; dsimp only; rw [em]
          exact .inr (dic _ ks ec (Option.some.inj e).symm fun o ⟨vs, h1, h2, h3⟩ => ⟨_, h1, by rw [List.length_zip, ← h3.length, h2, Nat.min_self]⟩)
        · cases e
      · cases e
    · exact q.elim
  · exact q.elim
section
variable {p : Pos}
theorem de_cB {x : Str} {id : String} {r : List V → Hp → VK → Prop} {f : FN} (hc : CallR X (.builtin id) r) (h : OpN X.K r f) (hm : X.mg x = none) (ha : DA X (e :: es) τs ts) (hv : bootBuiltins x = some (.builtin id)) (hg : Gl X x := by rfl)
    (hn : x ≠ "__name__" := by decide) (hdb : (x == ("__debug__" : Str)) = false := by decide)
    (he : starEach (e :: es) X.env = (false, eval e X.env) :: starEach es X.env := by rfl) (hpl : (backTo pos (starEach es X.env)).any (·.1) = false := by rfl) : DE X (.Call (.Name x p) (e :: es) [] pos) (tCB r τs) (dN f ts) :=
  ⟨pe_callB hc hg hm hv ha.pe hn hdb he hpl, der_N h ha.r⟩
theorem de_cT {x : Str} {id : String} {r : List V → Hp → VK → Prop} {f : FN} (hc : CallR X (.type id) r) (h : OpN X.K r f) (hm : X.mg x = none) (ha : DA X (e :: es) τs ts) (hv : bootBuiltins x = some (.type id)) (hg : Gl X x := by rfl)
    (hn : x ≠ "__name__" := by decide) (hdb : (x == ("__debug__" : Str)) = false := by decide)
    (he : starEach (e :: es) X.env = (false, eval e X.env) :: starEach es X.env := by rfl) (hpl : (backTo pos (starEach es X.env)).any (·.1) = false := by rfl) : DE X (.Call (.Name x p) (e :: es) [] pos) (tCB r τs) (dN f ts) :=
  ⟨pe_callTy hc hg hm hv ha.pe hn hdb he hpl, der_N h ha.r⟩
end
/-- one list of ints -/
theorem vals_of_denI {K : PySem.W.Frag} {S : Hp} : ∀ {ns : List Int} {vs : List V}, Paired (Den K S) (ns.map T.int) vs → vs = ns.map V.int
  | [], _, .nil => rfl
  | n :: ns, _, .cons d r => by
    unfold Den at d
    rw [d, vals_of_denI r, List.map_cons]
theorem vals_of_denB {K : PySem.W.Frag} {S : Hp} : ∀ {ns : List Bool} {vs : List V}, Paired (Den K S) (ns.map T.bl) vs → vs = ns.map V.bl
  | [], _, .nil => rfl
  | n :: ns, _, .cons d r => by
    unfold Den at d
    rw [d, vals_of_denB r, List.map_cons]
def G.lq? (g : G) : W → Option (List T)
  | .t (.sq ts) => some ts
  | w => g.seqL? w
theorem Rep.viewQ {K : PySem.W.Frag} {al : List Addr} {S F H : Hp} {σ : L2.St} {g : G} (R : Rep K al S F H σ g) {w : W} {v : V} {ts : List T} (d : DenW K al S w v) (e : g.lq? w = some ts) : ∃ a vs, v = .ref a ∧ SqL K H a vs ∧ Paired (Den K S) ts vs := by
  unfold G.lq? at e
  split at e
  · cases e
    unfold DenW Den at d
    obtain ⟨a, vs, rfl, h1, h2⟩ := d
    exact ⟨a, vs, rfl, R.same.seq h1, Dens.iff.mp h2⟩
  · obtain ⟨a, vs, h1, h2, h3⟩ := R.viewL d e
    exact ⟨a, vs, h1, .inl (.inl h2), h3⟩
theorem Rep.viewI {K : PySem.W.Frag} {al : List Addr} {S F H : Hp} {σ : L2.St} {g : G} (R : Rep K al S F H σ g) {w : W} {v : V} {ns : List Int} (d : DenW K al S w v) (e : g.lq? w = some (ns.map T.int)) : ∃ a, v = .ref a ∧ SqL K H a (ns.map V.int) := by
  obtain ⟨a, vs, rfl, h1, h2⟩ := R.viewQ d e
  rw [vals_of_denI h2] at h1
  exact ⟨a, rfl, h1⟩
theorem Rep.viewB {K : PySem.W.Frag} {al : List Addr} {S F H : Hp} {σ : L2.St} {g : G} (R : Rep K al S F H σ g) {w : W} {v : V} {ns : List Bool} (d : DenW K al S w v) (e : g.lq? w = some (ns.map T.bl)) : ∃ a, v = .ref a ∧ SqL K H a (ns.map V.bl) := by
  obtain ⟨a, vs, rfl, h1, h2⟩ := R.viewQ d e
  rw [vals_of_denB h2] at h1
  exact ⟨a, rfl, h1⟩
def fSum : FN := fun g ws Q => match ws with
  | [w] => ∃ ns : List Int, g.lq? w = some (ns.map T.int) ∧ Q (.t (.int ns.sum)) g
  | _ => False
theorem opN_sum {K : PySem.W.Frag} : OpN K (rSum K) fSum := by
  intro al S F H σ g xs ws Q QV R ds q k
  unfold fSum at q
  split at q
  · obtain ⟨v, rfl, d⟩ := p1 ds
    obtain ⟨ns, e, q⟩ := q
    obtain ⟨a, rfl, h⟩ := R.viewI d e
    exact ⟨a, ns, rfl, h, k.tr R (denI _) q⟩
  · exact q.elim
/-- min, max: of a list of ints, or of two ints -/
def fMin : FN := fun g ws Q => match ws with
  | [.t (.int i), .t (.int j)] => Q (.t (.int (if j < i then j else i))) g
  | [w] => ∃ ns : List Int, g.lq? w = some (ns.map T.int) ∧ 0 < ns.length ∧ ∀ m, m ∈ ns → (∀ y, y ∈ ns → m ≤ y) → Q (.t (.int m)) g
  | _ => False
def fMax : FN := fun g ws Q => match ws with
  | [.t (.int i), .t (.int j)] => Q (.t (.int (if j > i then j else i))) g
  | [w] => ∃ ns : List Int, g.lq? w = some (ns.map T.int) ∧ 0 < ns.length ∧ ∀ m, m ∈ ns → (∀ y, y ∈ ns → y ≤ m) → Q (.t (.int m)) g
  | _ => False
theorem opN_min {K : PySem.W.Frag} : OpN K (fun xs H Q => rMin K xs H Q ∨ ∃ i j, xs = [.int i, .int j] ∧ Q (.int (if j < i then j else i)) H) fMin := by
  intro al S F H σ g xs ws Q QV R ds q k
  unfold fMin at q
  split at q
  · obtain ⟨u, v, rfl, d1, d2⟩ := p2 ds
    unfold DenW Den at d1 d2
    subst d1 d2
    exact .inr ⟨_, _, rfl, k.tr R (denI _) q⟩
  · obtain ⟨v, rfl, d⟩ := p1 ds
    obtain ⟨ns, e, h0, q⟩ := q
    obtain ⟨a, rfl, h⟩ := R.viewI d e
    exact .inl ⟨a, ns, rfl, h, h0, fun m h1 h2 => k.tr R (denI _) (q m h1 h2)⟩
  · exact q.elim
theorem opN_max {K : PySem.W.Frag} : OpN K (fun xs H Q => rMax K xs H Q ∨ ∃ i j, xs = [.int i, .int j] ∧ Q (.int (if j > i then j else i)) H) fMax := by
  intro al S F H σ g xs ws Q QV R ds q k
  unfold fMax at q
  split at q
  · obtain ⟨u, v, rfl, d1, d2⟩ := p2 ds
    unfold DenW Den at d1 d2
    subst d1 d2
    exact .inr ⟨_, _, rfl, k.tr R (denI _) q⟩
  · obtain ⟨v, rfl, d⟩ := p1 ds
    obtain ⟨ns, e, h0, q⟩ := q
    obtain ⟨a, rfl, h⟩ := R.viewI d e
    exact .inl ⟨a, ns, rfl, h, h0, fun m h1 h2 => k.tr R (denI _) (q m h1 h2)⟩
  · exact q.elim
def fAll : FN := fun g ws Q => match ws with
  | [w] => ∃ ns : List Bool, g.lq? w = some (ns.map T.bl) ∧ Q (.t (.bl (ns.all id))) g
  | _ => False
def fAny : FN := fun g ws Q => match ws with
  | [w] => ∃ ns : List Bool, g.lq? w = some (ns.map T.bl) ∧ Q (.t (.bl (ns.any id))) g
  | _ => False
theorem opN_all {K : PySem.W.Frag} : OpN K (rAll K) fAll := by
  intro al S F H σ g xs ws Q QV R ds q k
  unfold fAll at q
  split at q
  · obtain ⟨v, rfl, d⟩ := p1 ds
    obtain ⟨ns, e, q⟩ := q
    obtain ⟨a, rfl, h⟩ := R.viewB d e
    exact ⟨a, ns, rfl, h, k.tr R (denB _) q⟩
  · exact q.elim
theorem opN_any {K : PySem.W.Frag} : OpN K (rAny K) fAny := by
  intro al S F H σ g xs ws Q QV R ds q k
  unfold fAny at q
  split at q
  · obtain ⟨v, rfl, d⟩ := p1 ds
    obtain ⟨ns, e, q⟩ := q
    obtain ⟨a, rfl, h⟩ := R.viewB d e
    exact ⟨a, ns, rfl, h, k.tr R (denB _) q⟩
  · exact q.elim
def fAbs : FN := fun g ws Q => match ws with
  | [.t (.int i)] => Q (.t (.int (if i < 0 then -i else i))) g
  | _ => False
theorem opN_abs {K : PySem.W.Frag} : OpN K (fun xs H Q => ∃ i, xs = [.int i] ∧ Q (.int (if i < 0 then -i else i)) H) fAbs := by
  intro al S F H σ g xs ws Q QV R ds q k
  unfold fAbs at q
  split at q
  · obtain ⟨v, rfl, d⟩ := p1 ds
    unfold DenW Den at d
    subst d
    exact ⟨_, rfl, k.tr R (denI _) q⟩
  · exact q.elim
def fInt : FN := fun g ws Q => match ws with
  | [.t (.int i)] => Q (.t (.int i)) g
  | [.t (.bl b)] => Q (.t (.int (if b then 1 else 0))) g
  | _ => False
theorem opN_int {K : PySem.W.Frag} : OpN K (fun xs H Q => (∃ i, xs = [.int i] ∧ Q (.int i) H) ∨ ∃ k, xs = [.bl k] ∧ Q (.int (if k then 1 else 0)) H) fInt := by
  intro al S F H σ g xs ws Q QV R ds q k
  unfold fInt at q
  split at q
  · obtain ⟨v, rfl, d⟩ := p1 ds
    unfold DenW Den at d
    subst d
    exact .inl ⟨_, rfl, k.tr R (denI _) q⟩
  · obtain ⟨v, rfl, d⟩ := p1 ds
    unfold DenW Den at d
    subst d
    exact .inr ⟨_, rfl, k.tr R (denI _) q⟩
  · exact q.elim
/-- list(x): a new list of the things of a list or tuple -/
def fListOf : FN := fun g ws Q => match ws with
  | [w] => (match g.seq? w with | some ts => Q (.t (.lst ts)) g | none => False)
  | _ => False
def fListOfH : FN := fun g ws Q => match ws with
  | [w] => (match g.seq? w with | some ts => Q (.h g.mem.length) (g.push (.lt ts)) | none => False)
  | _ => False
theorem opN_listOf {K : PySem.W.Frag} : OpN K (fun xs H Q => ∃ p ys, xs = [.ref p] ∧ (SqL K H p ys ∨ SqT K H p ys) ∧ ∀ l, H l = none → Q (.ref l) (upd H l (.lst ys))) fListOf := by
  intro al S F H σ g xs ws Q QV R ds q k
  unfold fListOf at q
  split at q
  · obtain ⟨v, rfl, d⟩ := p1 ds
    split at q
    · rename_i ts e
      obtain ⟨a, vs, rfl, h1, h2⟩ := R.viewS d e
      refine ⟨a, vs, rfl, h1, fun p np => ?_⟩
      obtain ⟨R2, gr2, d2⟩ := R.layL np h2
      exact k _ _ _ _ _ _ R2 gr2 d2 q
    · exact q.elim
  · exact q.elim
theorem opN_listOfH {K : PySem.W.Frag} : OpN K (fun xs H Q => ∃ p ys, xs = [.ref p] ∧ (SqL K H p ys ∨ SqT K H p ys) ∧ ∀ l, H l = none → Q (.ref l) (upd H l (.lst ys))) fListOfH := by
  intro al S F H σ g xs ws Q QV R ds q k
  unfold fListOfH at q
  split at q
  · obtain ⟨v, rfl, d⟩ := p1 ds
    split at q
    · rename_i ts e
      obtain ⟨a, vs, rfl, h1, h2⟩ := R.viewS d e
      refine ⟨a, vs, rfl, h1, fun p np => ?_⟩
      obtain ⟨R2, gr2, d2⟩ := R.pushC (c := .lt ts) (o := .lst vs) np ⟨vs, rfl, h2⟩
      exact k _ _ _ _ _ _ R2 gr2 d2 q
    · exact q.elim
  · exact q.elim
/-- tuple(x), x a list -/
def fTupOf : FN := fun g ws Q => match ws with
  | [w] => (match g.lq? w with | some ts => Q (.t (.tup ts)) g | none => False)
  | _ => False
theorem opN_tupOf {K : PySem.W.Frag} : OpN K (fun xs H Q => ∃ p ys, xs = [.ref p] ∧ ((SqL K H p ys ∧ ∀ l, H l = none → Q (.ref l) (upd H l (.tup ys))) ∨ (SqT K H p ys ∧ Q (.ref p) H))) fTupOf := by
  intro al S F H σ g xs ws Q QV R ds q k
  unfold fTupOf at q
  split at q
  · obtain ⟨v, rfl, d⟩ := p1 ds
    split at q
    · rename_i ts e
      obtain ⟨a, vs, rfl, h1, h2⟩ := R.viewQ d e
      refine ⟨a, vs, rfl, .inl ⟨h1, fun p np => ?_⟩⟩
      obtain ⟨R2, gr2, d2⟩ := R.layTup np h2
      exact k _ _ _ _ _ _ R2 gr2 d2 q
    · exact q.elim
  · exact q.elim
/-- isinstance(x, T), T a built-in class -/
def G.tyN (g : G) : W → Option String
  | .t .non => some "NoneType"
  | .t (.bl _) => some "bool"
  | .t (.int _) => some "int"
  | .t (.str _) => some "str"
  | .t (.lst _) => some "list"
  | .t (.tup _) => some "tuple"
  | .t (.dk _ _) => some "dict"
  | .t (.sq _) => none
  | .t (.raw _) => none
  | .t (.exc _) => none
  | .h n => (match g.mem[n]? with
    | some (some (.lt _)) => some "list"
    | some (some (.lw _)) => some "list"
    | some (some (.dt _ _)) => some "dict"
    | some (some (.dw _ _)) => some "dict"
    | some (some (.tw _)) => some "tuple"
    | _ => none)
def fIsi : FN := fun g ws Q => match ws with
  | [w, .t (.raw (.ty c))] => (match g.tyN w with | some a => (match kitB a c with | some b => Q (.t (.bl b)) g | none => False) | none => False)
  | _ => False
theorem tyX_of {K : PySem.W.Frag} {al : List Addr} {S F H : Hp} {σ : L2.St} {g : G} (R : Rep K al S F H σ g) {w : W} {v : V} {a : String} (d : DenW K al S w v) (e : g.tyN w = some a) : TyX K H v (.type a) := by
  unfold G.tyN at e
  split at e
  · cases e; unfold DenW Den at d; subst d; exact .base .non
  · cases e; unfold DenW Den at d; subst d; exact .base (.bl _)
  · cases e; unfold DenW Den at d; subst d; exact .base (.int _)
  · cases e; unfold DenW Den at d; subst d; exact .base (.str _)
  · cases e; unfold DenW Den at d; obtain ⟨p, vs, rfl, h1, _⟩ := d; exact .base (.lst (R.same _ _ h1))
  · cases e
    unfold DenW Den at d
    obtain ⟨p, vs, rfl, h1, _⟩ := d
    rcases seqT R.same h1 with (h2 | ⟨o, h2⟩) | ⟨o, its, n, h2, h3, _⟩
    · exact .base (.tup h2)
    · exact .fTuple h2
    · exact .kTuple h2 h3
  · cases e; unfold DenW Den at d; obtain ⟨p, vs, rfl, h1, _⟩ := d; exact .base (.dK (R.same _ _ h1))
  · cases e
  · cases e
  · cases e
  · rename_i m
    split at e
    · rename_i ts em
      cases e
      obtain ⟨p, o, rfl, h1, vs, rfl, _⟩ := R.view d (c := .lt ts) (by unfold G.cell?; dsimp only; rw [em])
      exact .base (.lst h1)
    · rename_i ts em
      cases e
      obtain ⟨p, o, rfl, h1, vs, rfl, _⟩ := R.view d (c := .lw ts) (by unfold G.cell?; dsimp only; rw [em])
      exact .base (.lst h1)
    · rename_i ks ts em
      cases e
      obtain ⟨p, o, rfl, h1, vs, rfl, _⟩ := R.view d (c := .dt ks ts) (by unfold G.cell?; dsimp only; rw [em])
      exact .base (.dK h1)
    · rename_i ks ts em
      cases e
      obtain ⟨p, o, rfl, h1, vs, rfl, _⟩ := R.view d (c := .dw ks ts) (by unfold G.cell?; dsimp only; rw [em])
      exact .base (.dK h1)
    · rename_i ts em
      cases e
      obtain ⟨p, o, rfl, h1, vs, rfl, _⟩ := R.view d (c := .tw ts) (by unfold G.cell?; dsimp only; rw [em])
      exact .base (.tup h1)
    · cases e
theorem opN_isi {K : PySem.W.Frag} : OpN K (rIsi K) fIsi := by
  intro al S F H σ g xs ws Q QV R ds q k
  unfold fIsi at q
  split at q
  · rename_i w c
    obtain ⟨u, v, rfl, d1, d2⟩ := p2 ds
    split at q
    · rename_i a ea
      split at q
      · rename_i b eb
        unfold DenW Den at d2
        subst d2
        exact ⟨u, .ty c, _, _, b, rfl, .ty c, tyX_of R d1 ea, kit_ty eb, k.tr R (denB _) q⟩
      · exact q.elim
    · exact q.elim
  · exact q.elim
section
variable {p : Pos}
theorem de_len (hm : X.mg "len" = none) (ha : DA X (e :: es) τs ts) (hg : Gl X "len" := by rfl) (he : starEach (e :: es) X.env = (false, eval e X.env) :: starEach es X.env := by rfl) (hpl : (backTo pos (starEach es X.env)).any (·.1) = false := by rfl) :
    DE X (.Call (.Name "len" p) (e :: es) [] pos) (tCB (fun xs H Q => (∃ p ys, xs = [V.ref p] ∧ (SqL X.K H p ys ∨ SqT X.K H p ys) ∧ Q (.int ys.length) H) ∨ (∃ a kvs, xs = [V.ref a] ∧ H a = some (.dK kvs) ∧ Q (.int kvs.length) H)) τs) (dN fLen ts) :=
  de_cB (call_len_seq.or call_lenD) opN_len hm ha PySem.boot_len hg (by decide) (by decide) he hpl
theorem de_sum (hc : X.calm = true) (hm : X.mg "sum" = none) (ha : DA X (e :: es) τs ts) (hg : Gl X "sum" := by rfl) (he : starEach (e :: es) X.env = (false, eval e X.env) :: starEach es X.env := by rfl) (hpl : (backTo pos (starEach es X.env)).any (·.1) = false := by rfl) :
    DE X (.Call (.Name "sum" p) (e :: es) [] pos) (tCB (rSum X.K) τs) (dN fSum ts) := de_cB (cr_sum hc) opN_sum hm ha (by decide +kernel) hg (by decide) (by decide) he hpl
theorem de_min (hc : X.calm = true) (hm : X.mg "min" = none) (ha : DA X (e :: es) τs ts) (hg : Gl X "min" := by rfl) (he : starEach (e :: es) X.env = (false, eval e X.env) :: starEach es X.env := by rfl) (hpl : (backTo pos (starEach es X.env)).any (·.1) = false := by rfl) :
    DE X (.Call (.Name "min" p) (e :: es) [] pos) (tCB (fun xs H Q => rMin X.K xs H Q ∨ ∃ i j, xs = [.int i, .int j] ∧ Q (.int (if j < i then j else i)) H) τs) (dN fMin ts) := de_cB ((cr_min hc).or (call_min2 hc)) opN_min hm ha (by decide +kernel) hg (by decide) (by decide) he hpl
theorem de_max (hc : X.calm = true) (hm : X.mg "max" = none) (ha : DA X (e :: es) τs ts) (hg : Gl X "max" := by rfl) (he : starEach (e :: es) X.env = (false, eval e X.env) :: starEach es X.env := by rfl) (hpl : (backTo pos (starEach es X.env)).any (·.1) = false := by rfl) :
    DE X (.Call (.Name "max" p) (e :: es) [] pos) (tCB (fun xs H Q => rMax X.K xs H Q ∨ ∃ i j, xs = [.int i, .int j] ∧ Q (.int (if j > i then j else i)) H) τs) (dN fMax ts) := de_cB ((cr_max hc).or (call_max2 hc)) opN_max hm ha (by decide +kernel) hg (by decide) (by decide) he hpl
theorem de_all (hc : X.calm = true) (hm : X.mg "all" = none) (ha : DA X (e :: es) τs ts) (hg : Gl X "all" := by rfl) (he : starEach (e :: es) X.env = (false, eval e X.env) :: starEach es X.env := by rfl) (hpl : (backTo pos (starEach es X.env)).any (·.1) = false := by rfl) :
    DE X (.Call (.Name "all" p) (e :: es) [] pos) (tCB (rAll X.K) τs) (dN fAll ts) := de_cB (cr_all hc) opN_all hm ha (by decide +kernel) hg (by decide) (by decide) he hpl
theorem de_any (hc : X.calm = true) (hm : X.mg "any" = none) (ha : DA X (e :: es) τs ts) (hg : Gl X "any" := by rfl) (he : starEach (e :: es) X.env = (false, eval e X.env) :: starEach es X.env := by rfl) (hpl : (backTo pos (starEach es X.env)).any (·.1) = false := by rfl) :
    DE X (.Call (.Name "any" p) (e :: es) [] pos) (tCB (rAny X.K) τs) (dN fAny ts) := de_cB (cr_any hc) opN_any hm ha (by decide +kernel) hg (by decide) (by decide) he hpl
theorem de_abs (hm : X.mg "abs" = none) (ha : DA X (e :: es) τs ts) (hg : Gl X "abs" := by rfl) (he : starEach (e :: es) X.env = (false, eval e X.env) :: starEach es X.env := by rfl) (hpl : (backTo pos (starEach es X.env)).any (·.1) = false := by rfl) :
    DE X (.Call (.Name "abs" p) (e :: es) [] pos) (tCB (fun xs H Q => ∃ i, xs = [.int i] ∧ Q (.int (if i < 0 then -i else i)) H) τs) (dN fAbs ts) := de_cB call_abs opN_abs hm ha (by decide +kernel) hg (by decide) (by decide) he hpl
theorem de_isi (hm : X.mg "isinstance" = none) (ha : DA X (e :: es) τs ts) (hg : Gl X "isinstance" := by rfl) (he : starEach (e :: es) X.env = (false, eval e X.env) :: starEach es X.env := by rfl) (hpl : (backTo pos (starEach es X.env)).any (·.1) = false := by rfl) :
    DE X (.Call (.Name "isinstance" p) (e :: es) [] pos) (tCB (rIsi X.K) τs) (dN fIsi ts) := de_cB call_isi opN_isi hm ha (by decide +kernel) hg (by decide) (by decide) he hpl
theorem de_intOf (hm : X.mg "int" = none) (ha : DA X (e :: es) τs ts) (hg : Gl X "int" := by rfl) (he : starEach (e :: es) X.env = (false, eval e X.env) :: starEach es X.env := by rfl) (hpl : (backTo pos (starEach es X.env)).any (·.1) = false := by rfl) :
    DE X (.Call (.Name "int" p) (e :: es) [] pos) (tCB (fun xs H Q => (∃ i, xs = [.int i] ∧ Q (.int i) H) ∨ ∃ k, xs = [.bl k] ∧ Q (.int (if k then 1 else 0)) H) τs) (dN fInt ts) := de_cT call_int1 opN_int hm ha (by decide +kernel) hg (by decide) (by decide) he hpl
theorem de_listOf (hm : X.mg "list" = none) (ha : DA X (e :: es) τs ts) (hg : Gl X "list" := by rfl) (he : starEach (e :: es) X.env = (false, eval e X.env) :: starEach es X.env := by rfl) (hpl : (backTo pos (starEach es X.env)).any (·.1) = false := by rfl) :
    DE X (.Call (.Name "list" p) (e :: es) [] pos) (tCB (fun xs H Q => ∃ p ys, xs = [.ref p] ∧ (SqL X.K H p ys ∨ SqT X.K H p ys) ∧ ∀ l, H l = none → Q (.ref l) (upd H l (.lst ys))) τs) (dN fListOf ts) := de_cT call_list_of opN_listOf hm ha (by decide +kernel) hg (by decide) (by decide) he hpl
theorem de_listOfH (hm : X.mg "list" = none) (ha : DA X (e :: es) τs ts) (hg : Gl X "list" := by rfl) (he : starEach (e :: es) X.env = (false, eval e X.env) :: starEach es X.env := by rfl) (hpl : (backTo pos (starEach es X.env)).any (·.1) = false := by rfl) :
    DE X (.Call (.Name "list" p) (e :: es) [] pos) (tCB (fun xs H Q => ∃ p ys, xs = [.ref p] ∧ (SqL X.K H p ys ∨ SqT X.K H p ys) ∧ ∀ l, H l = none → Q (.ref l) (upd H l (.lst ys))) τs) (dN fListOfH ts) := de_cT call_list_of opN_listOfH hm ha (by decide +kernel) hg (by decide) (by decide) he hpl
theorem de_tupOf (hm : X.mg "tuple" = none) (ha : DA X (e :: es) τs ts) (hg : Gl X "tuple" := by rfl) (he : starEach (e :: es) X.env = (false, eval e X.env) :: starEach es X.env := by rfl) (hpl : (backTo pos (starEach es X.env)).any (·.1) = false := by rfl) :
    DE X (.Call (.Name "tuple" p) (e :: es) [] pos) (tCB (fun xs H Q => ∃ p ys, xs = [.ref p] ∧ ((SqL X.K H p ys ∧ ∀ l, H l = none → Q (.ref l) (upd H l (.tup ys))) ∨ (SqT X.K H p ys ∧ Q (.ref p) H))) τs) (dN fTupOf ts) := de_cT call_tuple_of opN_tupOf hm ha (by decide +kernel) hg (by decide) (by decide) he hpl
/-- list(range(..)) -/
def DRr (K : PySem.W.Frag) (τ : L2.St → Hp → (Int → Int → Hp → Prop) → Prop) (t : G → (Int → Int → G → Prop) → Prop) : Prop := ∀ (al : List Addr) (S F H : Hp) (σ : L2.St) (g : G) (Q : Int → Int → G → Prop) (QV : Int → Int → Hp → Prop), Rep K al S F H σ g → t g Q →
  (∀ al' S' H' g' i j, Rep K al' S' F H' σ g' → Grow al S al' S' → Q i j g' → QV i j H') → τ σ H QV
structure DR (X : Cx) (e : Expr) (τ : L2.St → Hp → (Int → Int → Hp → Prop) → Prop) (t : G → (Int → Int → G → Prop) → Prop) : Prop where
  pe : PRg X e τ
  r : DRr X.K τ t
def dR1 (t : Dt) : G → (Int → Int → G → Prop) → Prop := fun g Q => t g fun w g' => match w with | .t (.int n) => Q 0 n g' | _ => False
def dR2 (t u : Dt) : G → (Int → Int → G → Prop) → Prop := fun g Q => t g fun w g' => u g' fun w' g'' => match w, w' with | .t (.int n), .t (.int m) => Q n m g'' | _, _ => False
theorem dr_1 (hm : X.mg "range" = none) (ha : DE X a τa ta) (hg : Gl X "range" := by rfl) (na : starEach [a] X.env = (false, eval a X.env) :: starEach [] X.env := by rfl) : DR X (.Call (.Name "range" p) [a] [] pos) (tRg1 τa) (dR1 ta) := by
  refine ⟨prg_1 hg hm ha.pe na, fun al S F H σ g Q QV R q k => ?_⟩
  refine ha.r al S F H σ g _ _ R q fun al1 S1 H1 g1 v1 w1 R1 gr1 e1 q1 => ?_
  split at q1
  · unfold DenW Den at e1
    exact ⟨_, e1, k _ _ _ _ _ _ R1 gr1 q1⟩
  · exact q1.elim
theorem dr_2 (hm : X.mg "range" = none) (ha : DE X a τa ta) (hb : DE X b τb tb) (hg : Gl X "range" := by rfl) (na : starEach [a, b] X.env = (false, eval a X.env) :: starEach [b] X.env := by rfl) (nb : starEach [b] X.env = (false, eval b X.env) :: starEach [] X.env := by rfl) (hp : ((backTo pos (starEach [b] X.env)).any fun x => x.fst) = false := by rfl) :
    DR X (.Call (.Name "range" p) [a, b] [] pos) (tRg2 τa τb) (dR2 ta tb) := by
  refine ⟨prg_2 hg hm ha.pe hb.pe na nb (hp := hp), fun al S F H σ g Q QV R q k => ?_⟩
  refine ha.r al S F H σ g _ _ R q fun al1 S1 H1 g1 v1 w1 R1 gr1 e1 q1 => ?_
  refine hb.r al1 S1 F H1 σ g1 _ _ R1 q1 fun al2 S2 H2 g2 v2 w2 R2 gr2 e2 q2 => ?_
  split at q2
  · unfold DenW Den at e1 e2
    exact ⟨_, _, e1, e2, k _ _ _ _ _ _ R2 (gr1.trans gr2) q2⟩
  · exact q2.elim
def rgT (i j : Int) : List T := (List.range (j - i).toNat).map fun k => T.int (i + (k : Nat))
theorem rgT_den {K : PySem.W.Frag} {S : Hp} (i : Int) : ∀ ks : List Nat, Paired (Den K S) (ks.map fun k => T.int (i + (k : Nat))) (ks.map fun k => V.int (i + (k : Nat)))
  | [] => .nil
  | k :: ks => .cons (denI _) (rgT_den i ks)
def dLstRg (t : G → (Int → Int → G → Prop) → Prop) : Dt := fun g Q => t g fun i j g' => RgOk i j ∧ Q (.t (.lst (rgT i j))) g'
def dLstRgH (t : G → (Int → Int → G → Prop) → Prop) : Dt := fun g Q => t g fun i j g' => RgOk i j ∧ Q (.h g'.mem.length) (g'.push (.lt (rgT i j)))
variable {τr : L2.St → Hp → (Int → Int → Hp → Prop) → Prop} {tr : G → (Int → Int → G → Prop) → Prop}
theorem de_listRg (hc : X.calm = true) (hm : X.mg "list" = none) (he : DR X e τr tr) (hg : Gl X "list" := by rfl) (na : starEach [e] X.env = (false, eval e X.env) :: starEach [] X.env := by rfl) : DE X (.Call (.Name "list" p) [e] [] pos) (tLstRg τr) (dLstRg tr) := by
  refine ⟨pe_listRg hc hg hm he.pe na, fun al S F H σ g Q QV R q k => ?_⟩
  refine he.r al S F H σ g _ _ R q fun al1 S1 H1 g1 i j R1 gr1 q1 => ⟨q1.1, fun p np => ?_⟩
  obtain ⟨R2, gr2, d2⟩ := R1.layL np (rgT_den i _)
  exact k _ _ _ _ _ _ R2 (gr1.trans gr2) d2 q1.2
theorem de_listRgH (hc : X.calm = true) (hm : X.mg "list" = none) (he : DR X e τr tr) (hg : Gl X "list" := by rfl) (na : starEach [e] X.env = (false, eval e X.env) :: starEach [] X.env := by rfl) : DE X (.Call (.Name "list" p) [e] [] pos) (tLstRg τr) (dLstRgH tr) := by
  refine ⟨pe_listRg hc hg hm he.pe na, fun al S F H σ g Q QV R q k => ?_⟩
  refine he.r al S F H σ g _ _ R q fun al1 S1 H1 g1 i j R1 gr1 q1 => ⟨q1.1, fun p np => ?_⟩
  obtain ⟨R2, gr2, d2⟩ := R1.pushC (c := .lt (rgT i j)) (o := .lst _) np ⟨_, rfl, rgT_den i _⟩
  exact k _ _ _ _ _ _ R2 (gr1.trans gr2) d2 q1.2
end
end
end DL

namespace DL
open PySem PySem.Spec L2

/-! dicts with int and text keys -/
section
variable {α β : Type}
def look : List Key → List α → Key → Option α
  | k :: ks, x :: xs, j => if k = j then some x else look ks xs j
  | _, _, _ => none
def putAll (k : Key) (x : α) : List Key → List α → List α
  | j :: ks, y :: ys => (if j = k then x else y) :: putAll k x ks ys
  | _, _ => []
def hasK (ks : List Key) (k : Key) : Bool := ks.any fun j => decide (j = k)
def putKs (ks : List Key) (k : Key) : List Key := if hasK ks k then ks else ks ++ [k]
def putXs (ks : List Key) (xs : List α) (k : Key) (x : α) : List α := if hasK ks k then putAll k x ks xs else xs ++ [x]
theorem look_zip {F : α → V → Prop} : ∀ {ks : List Key} {xs : List α} {vs : List V} (k : Key), Paired F xs vs → match look ks xs k, valV (ks.zip vs) k with | some x, some v => F x v | none, none => True | _, _ => False
  | [], xs, vs, k, p => by cases xs <;> simp [look, valV]
  | j :: ks, _, _, k, .nil => by simp [look, valV]
  | j :: ks, x :: xs, v :: vs, k, .cons h t => by
    by_cases e : j = k
    · subst e
      rw [List.zip_cons_cons, valV_pos rfl]
      simp only [look, if_true]
      exact h
    · have ih := look_zip (ks := ks) k t
      rw [List.zip_cons_cons, valV_neg (show ¬ (j, v).1 = k from e)]
      simp only [look, if_neg e]
      exact ih
theorem look_some {F : α → V → Prop} {ks : List Key} {xs : List α} {vs : List V} {k : Key} {x : α} (p : Paired F xs vs) (h : look ks xs k = some x) : ∃ v, valV (ks.zip vs) k = some v ∧ F x v := by
  have q := look_zip (ks := ks) k p
  rw [h] at q
  cases e : valV (ks.zip vs) k with
  | none => rw [e] at q; exact q.elim
  | some v => rw [e] at q; exact ⟨v, rfl, q⟩
theorem has_zip : ∀ {ks : List Key} {vs : List V} (k : Key), ks.length = vs.length → ((ks.zip vs).any fun kv => decide (kv.1 = k)) = hasK ks k
  | [], vs, k, _ => by simp [hasK]
  | j :: ks, [], k, h => by simp at h
  | j :: ks, v :: vs, k, h => by
    rw [List.zip_cons_cons]
    unfold hasK
    rw [List.any_cons, List.any_cons, has_zip (ks := ks) k (by simpa using h)]
    rfl
theorem has_look : ∀ {ks : List Key} {xs : List α} (k : Key), ks.length = xs.length → hasK ks k = (look ks xs k).isSome
  | [], xs, k, _ => by simp [hasK, look]
  | j :: ks, [], k, h => by simp at h
  | j :: ks, v :: vs, k, h => by
    unfold hasK
    rw [List.any_cons]
    by_cases e : j = k
    · simp [look, e]
    · simp only [look, if_neg e, decide_eq_false e, Bool.false_or]
      exact has_look (ks := ks) k (by simpa using h)
theorem putAll_zip {k : Key} {v : V} : ∀ {ks : List Key} {vs : List V}, ks.length = vs.length → ((ks.zip vs).map fun kv => if kv.1 = k then (kv.1, v) else kv) = ks.zip (putAll k v ks vs)
  | [], vs, _ => by simp
  | j :: ks, [], h => by simp at h
  | j :: ks, u :: vs, h => by
    rw [List.zip_cons_cons, List.map_cons, putAll_zip (by simpa using h)]
    simp only [putAll, List.zip_cons_cons]
    by_cases e : j = k
    · simp [e]
    · simp [e]
theorem putAll_len {k : Key} {v : α} : ∀ {ks : List Key} {vs : List α}, ks.length = vs.length → (putAll k v ks vs).length = ks.length
  | [], vs, _ => by simp [putAll]
  | j :: ks, [], h => by simp at h
  | j :: ks, u :: vs, h => by simp [putAll, putAll_len (ks := ks) (vs := vs) (by simpa using h)]
theorem putAll_pair {F : α → V → Prop} {k : Key} {x : α} {v : V} (f : F x v) : ∀ {ks : List Key} {xs : List α} {vs : List V}, Paired F xs vs → Paired F (putAll k x ks xs) (putAll k v ks vs)
  | [], _, _, _ => by simp [putAll]; exact .nil
  | j :: ks, _, _, .nil => by simp [putAll]; exact .nil
  | j :: ks, y :: xs, u :: vs, .cons h t => by
    simp only [putAll]
    by_cases e : j = k
    · rw [if_pos e, if_pos e]; exact .cons f (putAll_pair f t)
    · rw [if_neg e, if_neg e]; exact .cons h (putAll_pair f t)
theorem putK_zip {ks : List Key} {vs : List V} {k : Key} {v : V} (h : ks.length = vs.length) : putK (ks.zip vs) k v = (putKs ks k).zip (putXs ks vs k v) := by
  unfold putK putKs putXs
  rw [has_zip k h]
  by_cases e : hasK ks k = true
  · rw [if_pos e, if_pos e, if_pos e, putAll_zip h]
  · rw [if_neg e, if_neg e, if_neg e, List.zip_append h]
    rfl
theorem putX_len {ks : List Key} {xs : List α} {k : Key} {x : α} (h : ks.length = xs.length) : (putKs ks k).length = (putXs ks xs k x).length := by
  unfold putKs putXs
  by_cases e : hasK ks k = true
  · rw [if_pos e, if_pos e, putAll_len h]
  · rw [if_neg e, if_neg e]; simp [h]
theorem putX_pair {F : α → V → Prop} {k : Key} {x : α} {v : V} (f : F x v) {ks : List Key} {xs : List α} {vs : List V} (p : Paired F xs vs) : Paired F (putXs ks xs k x) (putXs ks vs k v) := by
  unfold putXs
  by_cases e : hasK ks k = true
  · rw [if_pos e, if_pos e]; exact putAll_pair f p
  · rw [if_neg e, if_neg e]; exact papp p (.cons f .nil)
end
def keyT : T → Option Key
  | .int i => some (.inl i)
  | .str s => some (.inr s)
  | _ => none
theorem key_den {K : PySem.W.Frag} {S : Hp} {t : T} {k : Key} {v : V} (h : keyT t = some k) (d : Den K S t v) : v = kV k := by
  cases t with
  | int i => cases h; unfold Den at d; exact d
  | str i => cases h; unfold Den at d; exact d
  | _ => cases h
def G.dct? (g : G) (w : W) : Option (List Key × List T) := match g.cell? w with | some (.dt ks ts) => some (ks, ts) | _ => none
def G.dcw? (g : G) (w : W) : Option (List Key × List W) := match g.cell? w with | some (.dw ks ts) => some (ks, ts) | _ => none
section
variable {X : Cx} {a b e : Expr} {τa τb : TE} {ta tb : Dt} {pos : Pos} {es : List Expr} {τs : TA} {ts : DAt}
/-- d[k] -/
def fGet : F2 := fun g x y Q => match y with
  | .t t => (match keyT t with
    | some k => (match g.dct? x with
      | some (ks, ts) => (match look ks ts k with | some r => Q (.t r) g | none => False)
      | none => (match g.dcw? x with
        | some (ks, ws) => (match look ks ws k with | some r => Q r g | none => False)
        | none => False))
    | none => False)
  | _ => False
theorem Rep.viewD {K : PySem.W.Frag} {al : List Addr} {S F H : Hp} {σ : L2.St} {g : G} (R : Rep K al S F H σ g) {w : W} {v : V} {ks : List Key} {ts : List T} (d : DenW K al S w v) (e : g.dct? w = some (ks, ts)) : ∃ a vs, v = .ref a ∧ H a = some (.dK (ks.zip vs)) ∧ ks.length = ts.length ∧ Paired (Den K S) ts vs := by
  unfold G.dct? at e
  split at e
  · rename_i ks' ts' q
    cases e
    obtain ⟨a, o, h1, h2, vs, rfl, h3, h4⟩ := R.view d q
    exact ⟨a, vs, h1, h2, h3, h4⟩
  · cases e
theorem Rep.viewDw {K : PySem.W.Frag} {al : List Addr} {S F H : Hp} {σ : L2.St} {g : G} (R : Rep K al S F H σ g) {w : W} {v : V} {ks : List Key} {ts : List W} (d : DenW K al S w v) (e : g.dcw? w = some (ks, ts)) : ∃ a vs, v = .ref a ∧ H a = some (.dK (ks.zip vs)) ∧ ks.length = ts.length ∧ Paired (DenW K al S) ts vs := by
  unfold G.dcw? at e
  split at e
  · rename_i ks' ts' q
    cases e
    obtain ⟨a, o, h1, h2, vs, rfl, h3, h4⟩ := R.view d q
    exact ⟨a, vs, h1, h2, h3, h4⟩
  · cases e
theorem de_get {kk : Nat} (hr : Room kk X.A) (ha : DE X a τa ta) (hb : DE X b τb tb) (hs : NoSl b := by intro _ _; rfl) : DE X (.Subscript a b pos) (tDGet τa τb) (d2 fGet ta tb) := by
  refine ⟨pe_dget (hu_of hr) ha.pe hb.pe hs, fun al S F H σ g Q QV R q k => ?_⟩
  refine ha.r al S F H σ g _ _ R q fun al1 S1 H1 g1 v1 w1 R1 gr1 e1 q1 => ?_
  refine hb.r al1 S1 F H1 σ g1 _ _ R1 q1 fun al2 S2 H2 g2 v2 w2 R2 gr2 e2 q2 => ?_
  unfold fGet at q2
  have gr := gr1.trans gr2
  split at q2
  · rename_i t
    split at q2
    · rename_i kk ek
      have ev := key_den ek e2
      subst ev
      split at q2
      · rename_i ks ts ed
        split at q2
        · rename_i r er
          obtain ⟨p, vs, rfl, h1, h2, h3⟩ := R2.viewD (e1.grow gr2) ed
          obtain ⟨v, h4, h5⟩ := look_some h3 er
          refine ⟨p, v, rfl, ?_, k _ _ _ _ _ (.t r) R2 gr h5 q2⟩
          rw [← h4]; exact DGet.k h1
        · exact q2.elim
      · split at q2
        · rename_i ks ts ed
          split at q2
          · rename_i r er
            obtain ⟨p, vs, rfl, h1, h2, h3⟩ := R2.viewDw (e1.grow gr2) ed
            obtain ⟨v, h4, h5⟩ := look_some h3 er
            refine ⟨p, v, rfl, ?_, k _ _ _ _ _ r R2 gr h5 q2⟩
            rw [← h4]; exact DGet.k h1
          · exact q2.elim
        · exact q2.elim
    · exact q2.elim
  · exact q2.elim
/-- k in d -/
def fDin (neg : Bool) : F2 := fun g y x Q => match y with
  | .t t => (match keyT t with
    | some k => (match g.dct? x with
      | some (ks, ts) => Q (.t (.bl (if neg then !(look ks ts k).isSome else (look ks ts k).isSome))) g
      | none => False)
    | none => False)
  | _ => False
theorem look_valV {K : PySem.W.Frag} {S : Hp} {ks : List Key} {ts : List T} {vs : List V} (k : Key) (p : Paired (Den K S) ts vs) : (valV (ks.zip vs) k).isSome = (look ks ts k).isSome := by
  have q := look_zip (ks := ks) k p
  cases e : valV (ks.zip vs) k <;> cases e2 : look ks ts k <;> rw [e, e2] at q <;> first | rfl | exact q.elim
theorem de_din {kk : Nat} (hr : Room kk X.A) (ha : DE X a τa ta) (hb : DE X b τb tb) (h1 : behindInMarks .In b = false := by rfl) : DE X (.Compare a [.In] [b] pos) (tDIn τa τb) (d2 (fDin false) ta tb) := by
  refine ⟨pe_cmp (pc_din (hu_of hr) ha.pe hb.pe) h1, fun al S F H σ g Q QV R q k => ?_⟩
  refine ha.r al S F H σ g _ _ R q fun al1 S1 H1 g1 v1 w1 R1 gr1 e1 q1 => ?_
  refine hb.r al1 S1 F H1 σ g1 _ _ R1 q1 fun al2 S2 H2 g2 v2 w2 R2 gr2 e2 q2 => ?_
  unfold fDin at q2
  split at q2
  · split at q2
    · rename_i kk ek
      have ev := key_den ek e1
      subst ev
      split at q2
      · rename_i ks ts ed
        obtain ⟨p, vs, rfl, h1, h2, h3⟩ := R2.viewD e2 ed
        refine ⟨p, _, rfl, DGet.k h1, k _ _ _ _ _ (.t (.bl _)) R2 (gr1.trans gr2) (by unfold DenW Den; rfl) ?_⟩
        rw [look_valV kk h3]
        simpa using q2
      · exact q2.elim
    · exact q2.elim
  · exact q2.elim
theorem de_dnotin {kk : Nat} (hr : Room kk X.A) (ha : DE X a τa ta) (hb : DE X b τb tb) (h1 : behindInMarks .NotIn b = false := by rfl) : DE X (.Compare a [.NotIn] [b] pos) (tDNotIn τa τb) (d2 (fDin true) ta tb) := by
  refine ⟨pe_cmp (pc_dnotin (hu_of hr) ha.pe hb.pe) h1, fun al S F H σ g Q QV R q k => ?_⟩
  refine ha.r al S F H σ g _ _ R q fun al1 S1 H1 g1 v1 w1 R1 gr1 e1 q1 => ?_
  refine hb.r al1 S1 F H1 σ g1 _ _ R1 q1 fun al2 S2 H2 g2 v2 w2 R2 gr2 e2 q2 => ?_
  unfold fDin at q2
  split at q2
  · split at q2
    · rename_i kk ek
      have ev := key_den ek e1
      subst ev
      split at q2
      · rename_i ks ts ed
        obtain ⟨p, vs, rfl, h1, h2, h3⟩ := R2.viewD e2 ed
        refine ⟨p, _, rfl, DGet.k h1, k _ _ _ _ _ (.t (.bl _)) R2 (gr1.trans gr2) (by unfold DenW Den; rfl) ?_⟩
        rw [look_valV kk h3]
        simpa using q2
      · exact q2.elim
    · exact q2.elim
  · exact q2.elim
/-- {} as a cell of trees -/
def dNewD : Dt := fun g Q => Q (.h g.mem.length) (g.push (.dt [] []))
theorem de_newD : DE X (.Dict [] [] pos) tDNewK dNewD := by
  refine ⟨pe_dnewK, fun al S F H σ g Q QV R q k => fun p np => ?_⟩
  obtain ⟨R2, gr2, d2⟩ := R.pushC (c := .dt [] []) (o := .dK []) np ⟨[], rfl, rfl, .nil⟩
  exact k _ _ _ _ _ _ R2 gr2 d2 q
def dNewDw : Dt := fun g Q => Q (.h g.mem.length) (g.push (.dw [] []))
theorem de_newDw : DE X (.Dict [] [] pos) tDNewK dNewDw := by
  refine ⟨pe_dnewK, fun al S F H σ g Q QV R q k => fun p np => ?_⟩
  obtain ⟨R2, gr2, d2⟩ := R.pushC (c := .dw [] []) (o := .dK []) np ⟨[], rfl, rfl, .nil⟩
  exact k _ _ _ _ _ _ R2 gr2 d2 q

/-! methods of built-in types -/
abbrev FM := G → W → List W → (W → G → Prop) → Prop
def OpM (K : PySem.W.Frag) (r : V → List V → Hp → VK → Prop) (f : FM) : Prop := ∀ (al : List Addr) (S F H : Hp) (σ : L2.St) (g : G) (x : V) (xs : List V) (wx : W) (ws : List W) (Q : W → G → Prop) (QV : VK), Rep K al S F H σ g → DenW K al S wx x → Paired (DenW K al S) ws xs → f g wx ws Q → Ct K al S F σ Q QV → r x xs H QV
def isL (g : G) (w : W) : Prop := match g.lq? w, g.wseq? w with | some _, _ => True | _, some _ => True | _, _ => False
theorem tyL {K : PySem.W.Frag} {al : List Addr} {S F H : Hp} {σ : L2.St} {g : G} (R : Rep K al S F H σ g) {w : W} {v : V} (d : DenW K al S w v) (h : isL g w) : tyV K "list" v H := by
  unfold isL at h
  split at h
  · rename_i ts e
    obtain ⟨a, vs, rfl, h1, _⟩ := R.viewQ d e
    exact .inl ⟨rfl, _, h1⟩
  · rename_i ts e _h0
    obtain ⟨a, vs, rfl, h1, _⟩ := R.viewW d e
    exact .inl ⟨rfl, _, .inl (.inl h1)⟩
  · exact h.elim
def dM0 (f : FM) (to : Dt) : Dt := fun g Q => to g fun x g1 => isL g1 x ∧ f g1 x [] Q
def dM (f : FM) (to : Dt) (t : DAt) : Dt := fun g Q => to g fun x g1 => isL g1 x ∧ t g1 fun ws g2 => f g2 x ws Q
variable {o : Expr} {τo : TE} {to : Dt} {name : Str} {apos cpos : Pos} {id : String} {r : V → List V → Hp → VK → Prop} {f : FM}
theorem de_m0 (slot : Slot "list" name id) (hty : typeOf (.builtin id) = pure (.type "method_descriptor")) (hm : MtR X id r) (h : OpM X.K r f) (ho : DE X o τo to)
    (hbase : attributeBase o name X.env (eval o X.env) = eval o X.env := by rfl) (hline : (apos.endLine == cpos.line) = true := by rfl) : DE X (.Call (.Attribute o name apos) [] [] cpos) (tBM0 X.K "list" r τo) (dM0 f to) := by
  refine ⟨pe_bm0 PySem.F.plainAttrs_list slot hty hm ho.pe hbase hline, fun al S F H σ g Q QV R q k => ?_⟩
  refine ho.r al S F H σ g _ _ R q fun al1 S1 H1 g1 v1 w1 R1 gr1 e1 q1 => ⟨tyL R1 e1 q1.1, ?_⟩
  exact h al1 S1 F H1 σ g1 v1 [] w1 [] Q QV R1 e1 .nil q1.2 (k.grow gr1)
theorem de_m (slot : Slot "list" name id) (hty : typeOf (.builtin id) = pure (.type "method_descriptor")) (hm : MtR X id r) (h : OpM X.K r f) (ho : DE X o τo to) (ha : DA X (e :: es) τs ts)
    (hbase : attributeBase o name X.env (eval o X.env) = eval o X.env := by rfl)
    (hfew : ((backTo cpos (starEach (e :: es) X.env)).all (fun x => !x.1) && (backToKw cpos (keywordEach [] X.env)).all (fun x => x.1.isSome)
      && decide ((e :: es).length + ([] : List Keyword).length + (if ([] : List Keyword).isEmpty then 0 else 1) < 30)) = true := by rfl)
    (hline : (apos.endLine == cpos.line) = true := by rfl) (hs : starEach (e :: es) X.env = (false, eval e X.env) :: starEach es X.env := by rfl) (hplain : (backTo cpos (starEach es X.env)).any (·.1) = false := by rfl) :
    DE X (.Call (.Attribute o name apos) (e :: es) [] cpos) (tBM X.K "list" r τo τs) (dM f to ts) := by
  refine ⟨pe_bm PySem.F.plainAttrs_list slot hty hm ho.pe ha.pe hbase hfew hline hs hplain, fun al S F H σ g Q QV R q k => ?_⟩
  refine ho.r al S F H σ g _ _ R q fun al1 S1 H1 g1 v1 w1 R1 gr1 e1 q1 => ⟨tyL R1 e1 q1.1, ?_⟩
  refine ha.r al1 S1 F H1 σ g1 _ _ R1 q1.2 fun al2 S2 H2 g2 vs2 ws2 R2 gr2 e2 q2 => ?_
  exact h al2 S2 F H2 σ g2 v1 vs2 w1 ws2 Q QV R2 (e1.grow gr2) e2 q2 (k.grow (gr1.trans gr2))
/-- a list's cell at a handle -/
theorem Rep.cellH {K : PySem.W.Frag} {al : List Addr} {S F H : Hp} {σ : L2.St} {g : G} (R : Rep K al S F H σ g) {n : Nat} {v : V} {c : Cell} (d : DenW K al S (.h n) v) (e : g.mem[n]? = some (some c)) : ∃ a o, v = .ref a ∧ al[n]? = some a ∧ H a = some o ∧ CellOk K al S c o := by
  obtain ⟨a, ea, rfl⟩ := d
  obtain ⟨a', o, h1, h2, h3, h4, h5⟩ := R.cell n c e
  rw [ea] at h1; cases h1
  exact ⟨a, o, rfl, ea, h4, h5⟩
theorem Rep.putC {K : PySem.W.Frag} {al : List Addr} {S F H : Hp} {σ : L2.St} {g : G} (R : Rep K al S F H σ g) {n : Nat} {c0 c : Cell} {a : Addr} {o : HO} (e : g.mem[n]? = some (some c0)) (ea : al[n]? = some a) (ok : CellOk K al S c o) : Rep K al S F (upd H a o) σ (g.put n c) :=
  R.withM (Grow.refl _ _) (R.toRepM.put e ea ok)
def fAppend : FM := fun g x ws Q => match x, ws with
  | .h n, [w] => (match g.mem[n]? with
    | some (some (.lt ts)) => (match w with | .t t => ts.length < sizeLine ∧ Q (.t .non) (g.put n (.lt (ts ++ [t]))) | _ => False)
    | some (some (.lw us)) => us.length < sizeLine ∧ Q (.t .non) (g.put n (.lw (us ++ [w])))
    | _ => False)
  | _, _ => False
theorem opM_append {K : PySem.W.Frag} : OpM K rAppend fAppend := by
  intro al S F H σ g x xs wx ws Q QV R d ds q k
  unfold fAppend at q
  split at q
  · rename_i n w
    obtain ⟨v, rfl, dw⟩ := p1 ds
    split at q
    · rename_i ts e
      split at q
      · rename_i t
        obtain ⟨a, o, rfl, ea, h1, vs, rfl, h2⟩ := R.cellH d e
        refine ⟨a, vs, v, rfl, rfl, h1, by rw [← h2.length]; exact q.1, ?_⟩
        have R2 := R.putC (c := .lt (ts ++ [t])) (o := .lst (vs ++ [v])) e ea ⟨_, rfl, papp h2 (.cons dw .nil)⟩
        exact k _ _ _ _ _ (.t .non) R2 (Grow.refl _ _) (by unfold DenW Den; rfl) q.2
      · exact q.elim
    · rename_i ts e
      obtain ⟨a, o, rfl, ea, h1, vs, rfl, h2⟩ := R.cellH d e
      refine ⟨a, vs, v, rfl, rfl, h1, by rw [← h2.length]; exact q.1, ?_⟩
      have R2 := R.putC (c := .lw (ts ++ [w])) (o := .lst (vs ++ [v])) e ea ⟨_, rfl, papp h2 (.cons dw .nil)⟩
      exact k _ _ _ _ _ (.t .non) R2 (Grow.refl _ _) (by unfold DenW Den; rfl) q.2
    · exact q.elim
  · exact q.elim
theorem de_append (ho : DE X o τo to) (ha : DA X (e :: es) τs ts)
    (hbase : attributeBase o "append" X.env (eval o X.env) = eval o X.env := by rfl)
    (hfew : ((backTo cpos (starEach (e :: es) X.env)).all (fun x => !x.1) && (backToKw cpos (keywordEach [] X.env)).all (fun x => x.1.isSome)
      && decide ((e :: es).length + ([] : List Keyword).length + (if ([] : List Keyword).isEmpty then 0 else 1) < 30)) = true := by rfl)
    (hline : (apos.endLine == cpos.line) = true := by rfl) (hs : starEach (e :: es) X.env = (false, eval e X.env) :: starEach es X.env := by rfl) (hplain : (backTo cpos (starEach es X.env)).any (·.1) = false := by rfl) :
    DE X (.Call (.Attribute o "append" apos) (e :: es) [] cpos) (tBM X.K "list" rAppend τo τs) (dM fAppend to ts) := de_m PySem.F.slot_list_append PySem.F.type_list_append mt_append opM_append ho ha hbase hfew hline hs hplain
/-- xs.pop() -/
def fPop : FM := fun g x ws Q => match x, ws with
  | .h n, [] => (match g.mem[n]? with
    | some (some (.lt ts)) => ∃ t, ts[ts.length - 1]? = some t ∧ Q (.t t) (g.put n (.lt ts.dropLast))
    | some (some (.lw us)) => ∃ u, us[us.length - 1]? = some u ∧ Q u (g.put n (.lw us.dropLast))
    | _ => False)
  | _, _ => False
theorem pdl {α β : Type} {F : α → β → Prop} {xs : List α} {ys : List β} (h : Paired F xs ys) : Paired F xs.dropLast ys.dropLast := by
  rw [List.dropLast_eq_take, List.dropLast_eq_take, h.length]
  exact ptake _ h
theorem opM_pop {K : PySem.W.Frag} : OpM K rPop fPop := by
  intro al S F H σ g x xs wx ws Q QV R d ds q k
  unfold fPop at q
  split at q
  · rename_i n
    cases ds
    split at q
    · rename_i ts e
      obtain ⟨t, et, q⟩ := q
      obtain ⟨a, o, rfl, ea, h1, vs, rfl, h2⟩ := R.cellH d e
      obtain ⟨v, ev, dv⟩ := pget h2 et
      refine ⟨a, vs, v, rfl, rfl, h1, by rw [← h2.length]; exact ev, ?_⟩
      have R2 := R.putC (c := .lt ts.dropLast) (o := .lst vs.dropLast) e ea ⟨_, rfl, pdl h2⟩
      exact k _ _ _ _ _ (.t t) R2 (Grow.refl _ _) dv q
    · rename_i ts e
      obtain ⟨t, et, q⟩ := q
      obtain ⟨a, o, rfl, ea, h1, vs, rfl, h2⟩ := R.cellH d e
      obtain ⟨v, ev, dv⟩ := pget h2 et
      refine ⟨a, vs, v, rfl, rfl, h1, by rw [← h2.length]; exact ev, ?_⟩
      have R2 := R.putC (c := .lw ts.dropLast) (o := .lst vs.dropLast) e ea ⟨_, rfl, pdl h2⟩
      exact k _ _ _ _ _ t R2 (Grow.refl _ _) dv q
    · exact q.elim
  · exact q.elim
theorem de_pop (ho : DE X o τo to) (hbase : attributeBase o "pop" X.env (eval o X.env) = eval o X.env := by rfl) (hline : (apos.endLine == cpos.line) = true := by rfl) : DE X (.Call (.Attribute o "pop" apos) [] [] cpos) (tBM0 X.K "list" rPop τo) (dM0 fPop to) :=
  de_m0 PySem.F.slot_list_pop PySem.F.type_list_pop mt_pop opM_pop ho hbase hline
/-- xs.pop(i) -/
def fPopAt : FM := fun g x ws Q => match x, ws with
  | .h n, [.t (.int i)] => (match g.mem[n]? with
    | some (some (.lt ts)) => ∃ k t, -(2 ^ 63) ≤ i ∧ i < 2 ^ 63 ∧ seqIndex? i ts.length = some k ∧ ts[k]? = some t ∧ Q (.t t) (g.put n (.lt (ts.eraseIdx k)))
    | some (some (.lw ts)) => ∃ k t, -(2 ^ 63) ≤ i ∧ i < 2 ^ 63 ∧ seqIndex? i ts.length = some k ∧ ts[k]? = some t ∧ Q t (g.put n (.lw (ts.eraseIdx k)))
    | _ => False)
  | _, _ => False
theorem opM_popAt {K : PySem.W.Frag} : OpM K rPopAt fPopAt := by
  intro al S F H σ g x xs wx ws Q QV R d ds q k
  unfold fPopAt at q
  split at q
  · rename_i n i
    obtain ⟨vi, rfl, di⟩ := p1 ds
    unfold DenW Den at di
    subst di
    split at q
    · rename_i ts e
      obtain ⟨j, t, b1, b2, b3, et, q⟩ := q
      obtain ⟨a, o, rfl, ea, h1, vs, rfl, h2⟩ := R.cellH d e
      obtain ⟨v, ev, dv⟩ := pget h2 et
      refine ⟨a, vs, i, j, v, rfl, rfl, h1, b1, b2, by rw [← h2.length]; exact b3, ev, ?_⟩
      have R2 := R.putC (c := .lt (ts.eraseIdx j)) (o := .lst (vs.eraseIdx j)) e ea ⟨_, rfl, perase j h2⟩
      exact k _ _ _ _ _ (.t t) R2 (Grow.refl _ _) dv q
    · rename_i ts e
      obtain ⟨j, t, b1, b2, b3, et, q⟩ := q
      obtain ⟨a, o, rfl, ea, h1, vs, rfl, h2⟩ := R.cellH d e
      obtain ⟨v, ev, dv⟩ := pget h2 et
      refine ⟨a, vs, i, j, v, rfl, rfl, h1, b1, b2, by rw [← h2.length]; exact b3, ev, ?_⟩
      have R2 := R.putC (c := .lw (ts.eraseIdx j)) (o := .lst (vs.eraseIdx j)) e ea ⟨_, rfl, perase j h2⟩
      exact k _ _ _ _ _ t R2 (Grow.refl _ _) dv q
    · exact q.elim
  · exact q.elim
theorem de_popAt (ho : DE X o τo to) (ha : DA X (e :: es) τs ts)
    (hbase : attributeBase o "pop" X.env (eval o X.env) = eval o X.env := by rfl)
    (hfew : ((backTo cpos (starEach (e :: es) X.env)).all (fun x => !x.1) && (backToKw cpos (keywordEach [] X.env)).all (fun x => x.1.isSome)
      && decide ((e :: es).length + ([] : List Keyword).length + (if ([] : List Keyword).isEmpty then 0 else 1) < 30)) = true := by rfl)
    (hline : (apos.endLine == cpos.line) = true := by rfl) (hs : starEach (e :: es) X.env = (false, eval e X.env) :: starEach es X.env := by rfl) (hplain : (backTo cpos (starEach es X.env)).any (·.1) = false := by rfl) :
    DE X (.Call (.Attribute o "pop" apos) (e :: es) [] cpos) (tBM X.K "list" rPopAt τo τs) (dM fPopAt to ts) := de_m PySem.F.slot_list_pop PySem.F.type_list_pop mt_popAt opM_popAt ho ha hbase hfew hline hs hplain
/-- xs.insert(i, y) -/
abbrev rInsert : V → List V → Hp → VK → Prop := fun x vs H Q => ∃ (l : Addr) (xs : List V) (i : Int) (y : V), x = .ref l ∧ vs = [.int i, y] ∧ H l = some (.lst xs) ∧ xs.length < sizeLine ∧ 0 ≤ i ∧ i < 2 ^ 63 ∧
    Q .non (upd H l (.lst (xs.take i.toNat ++ [y] ++ xs.drop i.toNat)))
def fInsert : FM := fun g x ws Q => match x, ws with
  | .h n, [.t (.int i), w] => (match g.mem[n]? with
    | some (some (.lt ts)) => (match w with | .t t => ts.length < sizeLine ∧ 0 ≤ i ∧ i < 2 ^ 63 ∧ Q (.t .non) (g.put n (.lt (ts.take i.toNat ++ [t] ++ ts.drop i.toNat))) | _ => False)
    | some (some (.lw ts)) => ts.length < sizeLine ∧ 0 ≤ i ∧ i < 2 ^ 63 ∧ Q (.t .non) (g.put n (.lw (ts.take i.toNat ++ [w] ++ ts.drop i.toNat)))
    | _ => False)
  | _, _ => False
theorem opM_insert {K : PySem.W.Frag} : OpM K rInsert fInsert := by
  intro al S F H σ g x xs wx ws Q QV R d ds q k
  unfold fInsert at q
  split at q
  · rename_i n i w
    obtain ⟨vi, v, rfl, di, dv⟩ := p2 ds
    unfold DenW Den at di
    subst di
    split at q
    · rename_i ts e
      split at q
      · rename_i t
        obtain ⟨b1, b2, b3, q⟩ := q
        obtain ⟨a, o, rfl, ea, h1, vs, rfl, h2⟩ := R.cellH d e
        refine ⟨a, vs, i, v, rfl, rfl, h1, by rw [← h2.length]; exact b1, b2, b3, ?_⟩
        have R2 := R.putC (c := .lt (ts.take i.toNat ++ [t] ++ ts.drop i.toNat)) (o := .lst (vs.take i.toNat ++ [v] ++ vs.drop i.toNat)) e ea ⟨_, rfl, papp (papp (ptake _ h2) (.cons dv .nil)) (pdrop _ h2)⟩
        exact k _ _ _ _ _ (.t .non) R2 (Grow.refl _ _) (by unfold DenW Den; rfl) q
      · exact q.elim
    · rename_i ts e
      obtain ⟨b1, b2, b3, q⟩ := q
      obtain ⟨a, o, rfl, ea, h1, vs, rfl, h2⟩ := R.cellH d e
      refine ⟨a, vs, i, v, rfl, rfl, h1, by rw [← h2.length]; exact b1, b2, b3, ?_⟩
      have R2 := R.putC (c := .lw (ts.take i.toNat ++ [w] ++ ts.drop i.toNat)) (o := .lst (vs.take i.toNat ++ [v] ++ vs.drop i.toNat)) e ea ⟨_, rfl, papp (papp (ptake _ h2) (.cons dv .nil)) (pdrop _ h2)⟩
      exact k _ _ _ _ _ (.t .non) R2 (Grow.refl _ _) (by unfold DenW Den; rfl) q
    · exact q.elim
  · exact q.elim
theorem de_insert (ho : DE X o τo to) (ha : DA X (e :: es) τs ts)
    (hbase : attributeBase o "insert" X.env (eval o X.env) = eval o X.env := by rfl)
    (hfew : ((backTo cpos (starEach (e :: es) X.env)).all (fun x => !x.1) && (backToKw cpos (keywordEach [] X.env)).all (fun x => x.1.isSome)
      && decide ((e :: es).length + ([] : List Keyword).length + (if ([] : List Keyword).isEmpty then 0 else 1) < 30)) = true := by rfl)
    (hline : (apos.endLine == cpos.line) = true := by rfl) (hs : starEach (e :: es) X.env = (false, eval e X.env) :: starEach es X.env := by rfl) (hplain : (backTo cpos (starEach es X.env)).any (·.1) = false := by rfl) :
    DE X (.Call (.Attribute o "insert" apos) (e :: es) [] cpos) (tBM X.K "list" rInsert τo τs) (dM fInsert to ts) := de_m PySem.F.slot_list_insert PySem.F.type_list_insert mt_insert opM_insert ho ha hbase hfew hline hs hplain
/-- xs.clear() -/
def fClear : FM := fun g x ws Q => match x, ws with
  | .h n, [] => (match g.mem[n]? with
    | some (some (.lt ts)) => Q (.t .non) (g.put n (.lt []))
    | some (some (.lw us)) => Q (.t .non) (g.put n (.lw []))
    | _ => False)
  | _, _ => False
theorem opM_clear {K : PySem.W.Frag} : OpM K rClear fClear := by
  intro al S F H σ g x xs wx ws Q QV R d ds q k
  unfold fClear at q
  split at q
  · rename_i n
    cases ds
    split at q
    · rename_i ts e
      obtain ⟨a, o, rfl, ea, h1, vs, rfl, h2⟩ := R.cellH d e
      refine ⟨a, vs, rfl, rfl, h1, ?_⟩
      have R2 := R.putC (c := .lt []) (o := .lst []) e ea ⟨_, rfl, .nil⟩
      exact k _ _ _ _ _ (.t .non) R2 (Grow.refl _ _) (by unfold DenW Den; rfl) q
    · rename_i ts e
      obtain ⟨a, o, rfl, ea, h1, vs, rfl, h2⟩ := R.cellH d e
      refine ⟨a, vs, rfl, rfl, h1, ?_⟩
      have R2 := R.putC (c := .lw []) (o := .lst []) e ea ⟨_, rfl, .nil⟩
      exact k _ _ _ _ _ (.t .non) R2 (Grow.refl _ _) (by unfold DenW Den; rfl) q
    · exact q.elim
  · exact q.elim
theorem de_clear (ho : DE X o τo to) (hbase : attributeBase o "clear" X.env (eval o X.env) = eval o X.env := by rfl) (hline : (apos.endLine == cpos.line) = true := by rfl) : DE X (.Call (.Attribute o "clear" apos) [] [] cpos) (tBM0 X.K "list" rClear τo) (dM0 fClear to) :=
  de_m0 PySem.F.slot_list_clear PySem.F.type_list_clear mt_clear opM_clear ho hbase hline
/-- xs.remove(k), ints -/
def fRemove : FM := fun g x ws Q => match x, ws with
  | .h n, [.t (.int k)] => (match g.mem[n]? with
    | some (some (.lt ts)) => ∃ (ns : List Int) (j : Nat), ts = ns.map T.int ∧ ns[j]? = some k ∧ (∀ m : Nat, m < j → ns[m]? ≠ some k) ∧ Q (.t .non) (g.put n (.lt ((ns.eraseIdx j).map T.int)))
    | _ => False)
  | _, _ => False
theorem den_ints {K : PySem.W.Frag} {S : Hp} : ∀ ns : List Int, Paired (Den K S) (ns.map T.int) (ns.map V.int)
  | [] => .nil
  | n :: ns => .cons (denI n) (den_ints ns)
theorem opM_remove {K : PySem.W.Frag} : OpM K rRemI fRemove := by
  intro al S F H σ g x xs wx ws Q QV R d ds q k
  unfold fRemove at q
  split at q
  · rename_i n i
    obtain ⟨vi, rfl, di⟩ := p1 ds
    unfold DenW Den at di
    subst di
    split at q
    · rename_i ts e
      obtain ⟨ns, j, rfl, b1, b2, q⟩ := q
      obtain ⟨a, o, rfl, ea, h1, vs, rfl, h2⟩ := R.cellH d e
      rw [vals_of_denI h2] at h1
      refine ⟨a, ns, i, j, rfl, rfl, h1, b1, b2, ?_⟩
      have R2 := R.putC (c := .lt ((ns.eraseIdx j).map T.int)) (o := .lst ((ns.eraseIdx j).map V.int)) e ea ⟨_, rfl, den_ints _⟩
      exact k _ _ _ _ _ (.t .non) R2 (Grow.refl _ _) (by unfold DenW Den; rfl) q
    · exact q.elim
  · exact q.elim
theorem de_remove (ho : DE X o τo to) (ha : DA X (e :: es) τs ts)
    (hbase : attributeBase o "remove" X.env (eval o X.env) = eval o X.env := by rfl)
    (hfew : ((backTo cpos (starEach (e :: es) X.env)).all (fun x => !x.1) && (backToKw cpos (keywordEach [] X.env)).all (fun x => x.1.isSome)
      && decide ((e :: es).length + ([] : List Keyword).length + (if ([] : List Keyword).isEmpty then 0 else 1) < 30)) = true := by rfl)
    (hline : (apos.endLine == cpos.line) = true := by rfl) (hs : starEach (e :: es) X.env = (false, eval e X.env) :: starEach es X.env := by rfl) (hplain : (backTo cpos (starEach es X.env)).any (·.1) = false := by rfl) :
    DE X (.Call (.Attribute o "remove" apos) (e :: es) [] cpos) (tBM X.K "list" rRemI τo τs) (dM fRemove to ts) := de_m PySem.F.slot_list_remove PySem.F.type_list_remove mt_remove opM_remove ho ha hbase hfew hline hs hplain
/-- xs.count(k), ints -/
def fCount : FM := fun g x ws Q => match ws with
  | [.t (.int k)] => ∃ ns : List Int, g.lq? x = some (ns.map T.int) ∧ Q (.t (.int (ns.count k : Nat))) g
  | _ => False
theorem opM_count {K : PySem.W.Frag} : OpM K (rCntI K) fCount := by
  intro al S F H σ g x xs wx ws Q QV R d ds q k
  unfold fCount at q
  split at q
  · rename_i i
    obtain ⟨vi, rfl, di⟩ := p1 ds
    unfold DenW Den at di
    subst di
    obtain ⟨ns, e, q⟩ := q
    obtain ⟨a, rfl, h⟩ := R.viewI d e
    exact ⟨a, ns, i, rfl, rfl, h, k.tr R (denI _) q⟩
  · exact q.elim
theorem de_count (ho : DE X o τo to) (ha : DA X (e :: es) τs ts)
    (hbase : attributeBase o "count" X.env (eval o X.env) = eval o X.env := by rfl)
    (hfew : ((backTo cpos (starEach (e :: es) X.env)).all (fun x => !x.1) && (backToKw cpos (keywordEach [] X.env)).all (fun x => x.1.isSome)
      && decide ((e :: es).length + ([] : List Keyword).length + (if ([] : List Keyword).isEmpty then 0 else 1) < 30)) = true := by rfl)
    (hline : (apos.endLine == cpos.line) = true := by rfl) (hs : starEach (e :: es) X.env = (false, eval e X.env) :: starEach es X.env := by rfl) (hplain : (backTo cpos (starEach es X.env)).any (·.1) = false := by rfl) :
    DE X (.Call (.Attribute o "count" apos) (e :: es) [] cpos) (tBM X.K "list" (rCntI X.K) τo τs) (dM fCount to ts) := de_m PySem.F.slot_list_count PySem.F.type_list_count mt_lcount opM_count ho ha hbase hfew hline hs hplain
/-- xs.index(k), ints -/
def fIndex : FM := fun g x ws Q => match ws with
  | [.t (.int k)] => ∃ (ns : List Int) (j : Nat), g.lq? x = some (ns.map T.int) ∧ ns[j]? = some k ∧ (∀ m : Nat, m < j → ns[m]? ≠ some k) ∧ Q (.t (.int j)) g
  | _ => False
theorem opM_index {K : PySem.W.Frag} : OpM K (rIndex K) fIndex := by
  intro al S F H σ g x xs wx ws Q QV R d ds q k
  unfold fIndex at q
  split at q
  · rename_i i
    obtain ⟨vi, rfl, di⟩ := p1 ds
    unfold DenW Den at di
    subst di
    obtain ⟨ns, j, e, b1, b2, q⟩ := q
    obtain ⟨a, rfl, h⟩ := R.viewI d e
    refine ⟨a, ns.map V.int, .int i, j, .int i, rfl, rfl, h, rfl, ?_, by rw [List.getElem?_map, b1]; rfl, by simp [eqV], ?_⟩
    · rw [List.all_eq_true]
      intro v hv
      obtain ⟨n, _, rfl⟩ := List.mem_map.mp hv
      rfl
    · refine ⟨fun m z' hm hz => ?_, k.tr R (denI _) q⟩
      rw [List.getElem?_map] at hz
      cases e2 : ns[m]? with
      | none => rw [e2] at hz; cases hz
      | some n =>
        rw [e2] at hz
        cases hz
        have := b2 m hm
        rw [e2] at this
        simp only [eqV]
        exact beq_eq_false_iff_ne.mpr fun z => this (by rw [z])
  · exact q.elim
theorem de_index (ho : DE X o τo to) (ha : DA X (e :: es) τs ts)
    (hbase : attributeBase o "index" X.env (eval o X.env) = eval o X.env := by rfl)
    (hfew : ((backTo cpos (starEach (e :: es) X.env)).all (fun x => !x.1) && (backToKw cpos (keywordEach [] X.env)).all (fun x => x.1.isSome)
      && decide ((e :: es).length + ([] : List Keyword).length + (if ([] : List Keyword).isEmpty then 0 else 1) < 30)) = true := by rfl)
    (hline : (apos.endLine == cpos.line) = true := by rfl) (hs : starEach (e :: es) X.env = (false, eval e X.env) :: starEach es X.env := by rfl) (hplain : (backTo cpos (starEach es X.env)).any (·.1) = false := by rfl) :
    DE X (.Call (.Attribute o "index" apos) (e :: es) [] cpos) (tBM X.K "list" (rIndex X.K) τo τs) (dM fIndex to ts) := de_m PySem.F.slot_list_index PySem.F.type_list_index mt_index opM_index ho ha hbase hfew hline hs hplain
end
end DL

namespace DL
open PySem PySem.Spec L2

section
variable {X : Cx} {a b c e : Expr} {τa τb : TE} {ta tb : Dt} {pos : Pos} {es rest : List Expr} {τs : TA} {ts : DAt} {τt τu : TT} {tt tu : DTt}
/-! tests -/
def dB (t : Dt) : DTt := fun g Q => t g fun w g' => match w with | .t (.bl b) => Q b g' | _ => False
theorem dt_val (h : DE X e τa ta) (he : ∀ whole, isTrue e X.env whole = (do let v ← whole; standAt e.pos; holding [v] (truthy v)) := by intro _; rfl) : DT X e (L2.tB τa) (dB ta) := by
  refine ⟨pt_val h.pe he, fun al S F H σ g Q QV R q k => ?_⟩
  refine h.r al S F H σ g _ _ R q fun al1 S1 H1 g1 v1 w1 R1 gr1 e1 q1 => ?_
  split at q1
  · rename_i bb
    unfold DenW Den at e1
    exact ⟨bb, e1, k _ _ _ _ _ R1 gr1 q1⟩
  · exact q1.elim
def dNot (t : DTt) : DTt := fun g Q => t g fun c g' => Q (!c) g'
theorem dt_not (h : DT X a τt tt) : DT X (.UnaryOp .Not a pos) (tNot τt) (dNot tt) :=
  ⟨pt_not h.pe, fun al S F H σ g Q QV R q k => h.r al S F H σ g _ _ R q fun al1 S1 H1 g1 b1 R1 gr1 q1 => k _ _ _ _ _ R1 gr1 q1⟩
theorem dt_w (h : DW X a τt tt) : DT X a τt tt := ⟨h.pe.pt, h.r⟩
theorem dw_and1 (h : DT X a τt tt) : DW X (.BoolOp .And [a] pos) τt tt := ⟨pw_and1 h.pe, h.r⟩
theorem dw_or1 (h : DT X a τt tt) : DW X (.BoolOp .Or [a] pos) τt tt := ⟨pw_or1 h.pe, h.r⟩
def dAnd (t u : DTt) : DTt := fun g Q => t g fun c g1 => if c = true then u g1 Q else Q false g1
def dOr (t u : DTt) : DTt := fun g Q => t g fun c g1 => if c = true then Q true g1 else u g1 Q
theorem dw_and (ha : DT X a τt tt) (hb : DW X (.BoolOp .And (b :: rest) pos) τu tu) : DW X (.BoolOp .And (a :: b :: rest) pos) (tAnd τt τu) (dAnd tt tu) := by
  refine ⟨pw_and ha.pe hb.pe, fun al S F H σ g Q QV R q k => ?_⟩
  refine ha.r al S F H σ g _ _ R q fun al1 S1 H1 g1 b1 R1 gr1 q1 => ?_
  cases b1 with
  | true =>
    simp only [if_true] at q1 ⊢
    exact hb.r al1 S1 F H1 σ g1 _ _ R1 q1 fun al2 S2 H2 g2 b2 R2 gr2 q2 => k _ _ _ _ _ R2 (gr1.trans gr2) q2
  | false =>
    simp only [Bool.false_eq_true, if_false] at q1 ⊢
    exact k _ _ _ _ _ R1 gr1 q1
theorem dw_or (ha : DT X a τt tt) (hb : DW X (.BoolOp .Or (b :: rest) pos) τu tu) : DW X (.BoolOp .Or (a :: b :: rest) pos) (tOr τt τu) (dOr tt tu) := by
  refine ⟨pw_or ha.pe hb.pe, fun al S F H σ g Q QV R q k => ?_⟩
  refine ha.r al S F H σ g _ _ R q fun al1 S1 H1 g1 b1 R1 gr1 q1 => ?_
  cases b1 with
  | true =>
    simp only [if_true] at q1 ⊢
    exact k _ _ _ _ _ R1 gr1 q1
  | false =>
    simp only [Bool.false_eq_true, if_false] at q1 ⊢
    exact hb.r al1 S1 F H1 σ g1 _ _ R1 q1 fun al2 S2 H2 g2 b2 R2 gr2 q2 => k _ _ _ _ _ R2 (gr1.trans gr2) q2
def dAndV (ta tb : Dt) : Dt := fun g Q => ta g fun w g1 => match w with | .t (.bl c) => if c = true then tb g1 Q else Q (.t (.bl false)) g1 | _ => False
def dOrV (ta tb : Dt) : Dt := fun g Q => ta g fun w g1 => match w with | .t (.bl c) => if c = true then Q (.t (.bl true)) g1 else tb g1 Q | _ => False
def dNotV (ta : Dt) : Dt := fun g Q => ta g fun w g1 => match w with | .t (.bl c) => Q (.t (.bl (!c))) g1 | _ => False
theorem de_one {op} (h : DE X a τa ta) : DE X (.BoolOp op [a] pos) τa ta := ⟨pe_one h.pe, h.r⟩
theorem de_and (ha : DE X a τa ta) (hb : DE X (.BoolOp .And (b :: rest) pos) τb tb) : DE X (.BoolOp .And (a :: b :: rest) pos) (tAndV τa τb) (dAndV ta tb) := by
  refine ⟨pe_and ha.pe hb.pe, fun al S F H σ g Q QV R q k => ?_⟩
  refine ha.r al S F H σ g _ _ R q fun al1 S1 H1 g1 v1 w1 R1 gr1 e1 q1 => ?_
  split at q1
  · rename_i c
    unfold DenW Den at e1
    refine ⟨c, e1, ?_⟩
    cases c with
    | true =>
      simp only [if_true] at q1 ⊢
      exact hb.r al1 S1 F H1 σ g1 _ _ R1 q1 (k.grow gr1)
    | false =>
      simp only [Bool.false_eq_true, if_false] at q1 ⊢
      exact k _ _ _ _ _ (.t (.bl false)) R1 gr1 (by unfold DenW Den; rfl) q1
  · exact q1.elim
theorem de_or (ha : DE X a τa ta) (hb : DE X (.BoolOp .Or (b :: rest) pos) τb tb) : DE X (.BoolOp .Or (a :: b :: rest) pos) (tOrV τa τb) (dOrV ta tb) := by
  refine ⟨pe_or ha.pe hb.pe, fun al S F H σ g Q QV R q k => ?_⟩
  refine ha.r al S F H σ g _ _ R q fun al1 S1 H1 g1 v1 w1 R1 gr1 e1 q1 => ?_
  split at q1
  · rename_i c
    unfold DenW Den at e1
    refine ⟨c, e1, ?_⟩
    cases c with
    | true =>
      simp only [if_true] at q1 ⊢
      exact k _ _ _ _ _ (.t (.bl true)) R1 gr1 (by unfold DenW Den; rfl) q1
    | false =>
      simp only [Bool.false_eq_true, if_false] at q1 ⊢
      exact hb.r al1 S1 F H1 σ g1 _ _ R1 q1 (k.grow gr1)
  · exact q1.elim
theorem de_not (ha : DE X a τa ta) : DE X (.UnaryOp .Not a pos) (tNotV τa) (dNotV ta) := by
  refine ⟨pe_not ha.pe, fun al S F H σ g Q QV R q k => ?_⟩
  refine ha.r al S F H σ g _ _ R q fun al1 S1 H1 g1 v1 w1 R1 gr1 e1 q1 => ?_
  split at q1
  · rename_i c
    unfold DenW Den at e1
    exact ⟨c, e1, k _ _ _ _ _ (.t (.bl _)) R1 gr1 (by unfold DenW Den; rfl) q1⟩
  · exact q1.elim
def dIf (t : DTt) (ta tb : Dt) : Dt := fun g Q => t g fun c g1 => if c = true then ta g1 Q else tb g1 Q
theorem de_ifExp (hc : DT X c τt tt) (ha : DE X a τa ta) (hb : DE X b τb tb) : DE X (.IfExp c a b pos) (tIf τt τa τb) (dIf tt ta tb) := by
  refine ⟨pe_ifExp hc.pe ha.pe hb.pe, fun al S F H σ g Q QV R q k => ?_⟩
  refine hc.r al S F H σ g _ _ R q fun al1 S1 H1 g1 b1 R1 gr1 q1 => ?_
  cases b1 with
  | true =>
    simp only [if_true] at q1 ⊢
    exact ha.r al1 S1 F H1 σ g1 _ _ R1 q1 (k.grow gr1)
  | false =>
    simp only [Bool.false_eq_true, if_false] at q1 ⊢
    exact hb.r al1 S1 F H1 σ g1 _ _ R1 q1 (k.grow gr1)

/-! calls of defs -/
abbrev Ctr := List W → Sto → (W → Sto → Prop) → Prop
def dsp (K : PySem.W.Frag) (C : Ctr) : Sp := fun vs H Q _ => ∃ (al : List Addr) (S F : Hp) (m : Sto) (ws : List W) (QC : W → Sto → Prop), RepM K al S F H m ∧ Paired (DenW K al S) ws vs ∧ C ws m QC ∧
  ∀ al' S' H' m' v w, RepM K al' S' F H' m' → Grow al S al' S' → DenW K al' S' w v → QC w m' → Q v H'
def dCall (C : Ctr) (t : DAt) : Dt := fun g Q => t g fun ws g1 => C ws g1.mem fun w m' => Q w ⟨g1.sl, m'⟩
theorem der_call {K : PySem.W.Frag} {C : Ctr} {E : XK} (h : DAr K τs ts) : DEr K (tCall (dsp K C) [] E τs) (dCall C ts) := by
  intro al S F H σ g Q QV R q k
  refine h al S F H σ g _ _ R q fun al1 S1 H1 g1 vs ws R1 gr1 e1 q1 => ?_
  rw [List.append_nil]
  refine ⟨al1, S1, F, g1.mem, ws, _, R1.toRepM, e1, q1, fun al2 S2 H2 m2 v w M gr2 d q2 => ?_⟩
  exact k _ _ _ _ _ _ (R1.withM gr2 M) (gr1.trans gr2) d q2
theorem de_call {k : Nat} {f : Addr} {fd : FuncData} {ps : List Str} {C : Ctr} {x : Str} {p : Pos} (F : FnOk X.prog X.w X.K X.mg X.base CX0 k f fd ps (dsp X.K C)) (hr : Room k X.A) (hm : X.mg x = some (.ref f)) (hk : PySem.W.keepIn X.K (.ref f) = true) (hb : Binds X.K fd ps [])
    (ha : DA X (e :: es) τs ts) (hg : Gl X x := by rfl) (hdb : (x == ("__debug__" : Str)) = false := by decide) (he : starEach (e :: es) X.env = (false, eval e X.env) :: starEach es X.env := by rfl) (hpl : (backTo pos (starEach es X.env)).any (·.1) = false := by rfl) :
    DE X (.Call (.Name x p) (e :: es) [] pos) (tCall (dsp X.K C) [] E0 τs) (dCall C ts) :=
  ⟨pe_call F hr hg hm hk hb .nil pass0 ha.pe hdb he hpl, der_call ha.r⟩
end

/-! statements -/
structure De where
  nx : G → Prop
  rt : W → G → Prop
  bk : G → Prop
  ct : G → Prop
abbrev DSt := De → G → Prop
structure Lk (K : PySem.W.Frag) (al : List Addr) (S F : Hp) (D : De) (DV : Ends) : Prop where
  nx : ∀ al' S' H' σ' g', Rep K al' S' F H' σ' g' → Grow al S al' S' → D.nx g' → DV.nx σ' H'
  rt : ∀ al' S' H' σ' g' v w, Rep K al' S' F H' σ' g' → Grow al S al' S' → DenW K al' S' w v → D.rt w g' → DV.rt v H'
  bk : ∀ al' S' H' σ' g', Rep K al' S' F H' σ' g' → Grow al S al' S' → D.bk g' → DV.bk σ' H'
  ct : ∀ al' S' H' σ' g', Rep K al' S' F H' σ' g' → Grow al S al' S' → D.ct g' → DV.ct σ' H'
theorem Lk.grow {K : PySem.W.Frag} {al al1 : List Addr} {S S1 F : Hp} {D : De} {DV : Ends} (k : Lk K al S F D DV) (gr : Grow al S al1 S1) : Lk K al1 S1 F D DV :=
  ⟨fun a s h σ g R g2 q => k.nx a s h σ g R (gr.trans g2) q, fun a s h σ g v w R g2 d q => k.rt a s h σ g v w R (gr.trans g2) d q, fun a s h σ g R g2 q => k.bk a s h σ g R (gr.trans g2) q, fun a s h σ g R g2 q => k.ct a s h σ g R (gr.trans g2) q⟩
def DSr (K : PySem.W.Frag) (τ : TS) (t : DSt) : Prop := ∀ (al : List Addr) (S F H : Hp) (σ : L2.St) (g : G) (D : De) (DV : Ends), Rep K al S F H σ g → t D g → Lk K al S F D DV → τ DV σ H
structure DS (X : Cx) (st : Stmt) (τ : TS) (t : DSt) : Prop where
  pe : PS X st τ
  r : DSr X.K τ t
structure DSs (X : Cx) (st : List Stmt) (τ : TS) (t : DSt) : Prop where
  pe : PSs X st τ
  r : DSr X.K τ t
section
variable {X : Cx} {st : Stmt} {rest : List Stmt} {τ τ' : TS} {t u : DSt} {e : Expr} {τe : TE} {te : Dt} {pos : Pos}
def dNext : DSt := fun D g => D.nx g
theorem r_next {K : PySem.W.Frag} : DSr K tNext dNext := fun al S F H σ g D DV R q k => k.nx _ _ _ _ _ R (Grow.refl _ _) q
theorem dss_nil : DSs X [] tNext dNext := ⟨pss_nil, r_next⟩
def dSeq (t u : DSt) : DSt := fun D g => t { D with nx := u D } g
theorem dss_cons (h1 : DS X st τ t) (h2 : DSs X rest τ' u) : DSs X (st :: rest) (tSeq τ τ') (dSeq t u) := by
  refine ⟨pss_cons h1.pe h2.pe, fun al S F H σ g D DV R q k => ?_⟩
  refine h1.r al S F H σ g { D with nx := u D } { DV with nx := τ' DV } R q ⟨fun al1 S1 H1 σ1 g1 R1 gr1 q1 => ?_, k.rt, k.bk, k.ct⟩
  exact h2.r al1 S1 F H1 σ1 g1 D DV R1 q1 (k.grow gr1)
theorem dss_one (h : DS X st τ t) : DSs X [st] τ t := ⟨pss_one h.pe, h.r⟩
theorem ds_pass : DS X (.Pass pos) tNext dNext := ⟨ps_pass, r_next⟩
def dBreak : DSt := fun D g => D.bk g
def dCont : DSt := fun D g => D.ct g
theorem ds_break : DS X (.Break pos) tBreak dBreak := ⟨ps_break, fun al S F H σ g D DV R q k => k.bk _ _ _ _ _ R (Grow.refl _ _) q⟩
theorem ds_continue : DS X (.Continue pos) tCont dCont := ⟨ps_continue, fun al S F H σ g D DV R q k => k.ct _ _ _ _ _ R (Grow.refl _ _) q⟩
def dNever : DSt := fun _ _ => False
theorem ds_never : DS X st tNever dNever := ⟨ps_never, fun al S F H σ g D DV R q k => q⟩
def dDrop (t : Dt) : DSt := fun D g => t g fun _ g1 => D.nx g1
theorem ds_expr (h : DE X e τe te) (hs : swapsWith e none pos.line X.env = pure false := by rfl) : DS X (.Expr e pos) (tDrop τe) (dDrop te) :=
  ⟨ps_expr h.pe hs, fun al S F H σ g D DV R q k => h.r al S F H σ g _ _ R q fun al1 S1 H1 g1 v1 w1 R1 gr1 e1 q1 => k.nx _ _ _ _ _ R1 gr1 q1⟩
def dRet (t : Dt) : DSt := fun D g => t g D.rt
theorem ds_ret (h : DE X e τe te) : DS X (.Return (some e) pos) (tRet τe) (dRet te) :=
  ⟨ps_ret h.pe, fun al S F H σ g D DV R q k => h.r al S F H σ g _ _ R q fun al1 S1 H1 g1 v1 w1 R1 gr1 e1 q1 => k.rt _ _ _ _ _ _ _ R1 gr1 e1 q1⟩
def dRetN : DSt := fun D g => D.rt (.t .non) g
theorem ds_retN : DS X (.Return none pos) tRetN dRetN := ⟨ps_retN, fun al S F H σ g D DV R q k => k.rt _ _ _ _ _ _ _ R (Grow.refl _ _) (by unfold DenW Den; rfl) q⟩
def dIfS (c : DTt) (t u : DSt) : DSt := fun D g => c g fun b g1 => if b = true then t D g1 else u D g1
theorem ds_if {c : Expr} {A B : List Stmt} {τc : TT} {tc : DTt} (hc : DT X c τc tc) (ha : DSs X A τ t) (hb : DSs X B τ' u) : DS X (.If c A B pos) (tIfS τc τ τ') (dIfS tc t u) := by
  refine ⟨ps_if hc.pe ha.pe hb.pe, fun al S F H σ g D DV R q k => ?_⟩
  refine hc.r al S F H σ g _ _ R q fun al1 S1 H1 g1 b1 R1 gr1 q1 => ?_
  cases b1 with
  | true =>
    simp only [if_true] at q1 ⊢
    exact ha.r al1 S1 F H1 σ g1 _ _ R1 q1 (k.grow gr1)
  | false =>
    simp only [Bool.false_eq_true, if_false] at q1 ⊢
    exact hb.r al1 S1 F H1 σ g1 _ _ R1 q1 (k.grow gr1)
/-! targets -/
abbrev DGt := W → G → (G → Prop) → Prop
def DGr (K : PySem.W.Frag) (τ : TG) (t : DGt) : Prop := ∀ (al : List Addr) (S F H : Hp) (σ : L2.St) (g : G) (v : V) (w : W) (Q : G → Prop) (QV : L2.St → Hp → Prop), Rep K al S F H σ g → DenW K al S w v → t w g Q →
  (∀ al' S' H' σ' g', Rep K al' S' F H' σ' g' → Grow al S al' S' → Q g' → QV σ' H') → τ v σ H QV
structure DG (X : Cx) (tg : Expr) (τ : TG) (t : DGt) : Prop where
  pe : PG X tg τ
  r : DGr X.K τ t
abbrev DGst := List T → G → (G → Prop) → Prop
structure DGs (X : Cx) (tg : List Expr) (τ : TGs) (t : DGst) : Prop where
  pe : PGs X tg τ
  r : ∀ (al : List Addr) (S F H : Hp) (σ : L2.St) (g : G) (vs : List V) (ws : List T) (Q : G → Prop) (QV : L2.St → Hp → Prop), Rep X.K al S F H σ g → Paired (Den X.K S) ws vs → t ws g Q →
    (∀ al' S' H' σ' g', Rep X.K al' S' F H' σ' g' → Grow al S al' S' → Q g' → QV σ' H') → τ vs σ H QV
def dgN (i : Nat) : DGt := fun w g Q => Q (g.set i w)
theorem dg_name (i : Nat) {x : Str} {ps : Pos} (hN : X.N.Nodup) (hi : X.N[i]? = some x := by rfl) (hx : Loc X.env.scope x := by first | exact Or.inl rfl | exact Or.inr rfl) (hf : X.fn x = true ∨ X.env.scope.names.lookup x = some .local := by first | exact .inl rfl | exact .inr rfl | assumption) : DG X (.Name x ps) (gName i) (dgN i) :=
  ⟨pg_name hN hi hx hf, fun al S F H σ g v w Q QV R d q k => k _ _ _ _ _ (R.setSlot d) (Grow.refl _ _) q⟩
def dgNil : DGst := fun ws g Q => match ws with | [] => Q g | _ => False
def dgCons (t : DGt) (u : DGst) : DGst := fun ws g Q => match ws with | w :: r => t (.t w) g fun g1 => u r g1 Q | _ => False
theorem dgs_nil : DGs X [] gNil dgNil := by
  refine ⟨pgs_nil, fun al S F H σ g vs ws Q QV R d q k => ?_⟩
  cases d with
  | nil => exact ⟨rfl, k _ _ _ _ _ R (Grow.refl _ _) q⟩
  | cons _ _ => exact q.elim
theorem dgs_cons {e : Expr} {es : List Expr} {τ1 : TG} {t1 : DGt} {τ2 : TGs} {t2 : DGst} (h1 : DG X e τ1 t1) (h2 : DGs X es τ2 t2)
    (hs : (assignEach (e :: es) X.env).map (·.2) = assign e X.env :: (assignEach es X.env).map (·.2) := by rfl) : DGs X (e :: es) (gCons τ1 τ2) (dgCons t1 t2) := by
  refine ⟨pgs_cons h1.pe h2.pe hs, fun al S F H σ g vs ws Q QV R d q k => ?_⟩
  cases d with
  | nil => exact q.elim
  | cons d1 d2 =>
    refine ⟨_, _, rfl, ?_⟩
    refine h1.r al S F H σ g _ (.t _) _ _ R d1 q fun al1 S1 H1 σ1 g1 R1 gr1 q1 => ?_
    exact h2.r al1 S1 F H1 σ1 g1 _ _ Q QV R1 (Denp.grow gr1.s d2) q1 fun al2 S2 H2 σ2 g2 R2 gr2 q2 => k _ _ _ _ _ R2 (gr1.trans gr2) q2
def dgTup (n : Nat) (t : DGst) : DGt := fun w g Q => match w with | .t (.tup ts) => ts.length = n ∧ t ts g Q | _ => False
theorem dg_tup {es : List Expr} {kk : Nat} {ps : Pos} {τ1 : TGs} {t1 : DGst} {n : Nat} (hc : X.calm = true) (h : DGs X es τ1 t1)
    (hn : (assignEach es X.env).length = n := by rfl) (hst : (assignEach es X.env).findIdx? (·.1) = none := by rfl) : DG X (.Tuple es kk ps) (gTup X.K n τ1) (dgTup n t1) := by
  refine ⟨pg_tup hc h.pe hn hst, fun al S F H σ g v w Q QV R d q k => ?_⟩
  unfold dgTup at q
  split at q
  · rename_i ts
    unfold DenW Den at d
    obtain ⟨p, vs, rfl, h1, h2⟩ := d
    have h2' := Dens.iff.mp h2
    exact ⟨p, vs, rfl, seqT R.same h1, by rw [← h2'.length]; exact q.1, h.r al S F H σ g vs ts Q QV R h2' q.2 k⟩
  · exact q.elim
/-- x[i] = v, x a list's cell -/
def dgSub (to ti : Dt) : DGt := fun w g Q => to g fun o g1 => ti g1 fun i g2 => match o, i with
  | .h n, .t (.int z) => (match g2.mem[n]? with
    | some (some (.lt ts)) => (match w with | .t tw => ∃ j, ixN ts.length z = some j ∧ Q (g2.put n (.lt (ts.set j tw))) | _ => False)
    | some (some (.lw us)) => ∃ j, ixN us.length z = some j ∧ Q (g2.put n (.lw (us.set j w)))
    | _ => False)
  | _, _ => False
theorem dg_sub {o i : Expr} {τo τi : TE} {to ti : Dt} {ps : Pos} (ho : DE X o τo to) (hi : DE X i τi ti)
    (ha : ∀ v, assign (.Subscript o i ps) X.env v = (do
      let ov ← holding [v] (eval o X.env)
      let iv ← holding [v, ov] (eval i X.env)
      standAt ps
      holding [v, ov, iv] (setItem ov iv v)
      release [v, ov, iv] []) := by intro _; rfl) : DG X (.Subscript o i ps) (gSub τo τi rSetL) (dgSub to ti) := by
  refine ⟨pg_sub ho.pe hi.pe set_list ha, fun al S F H σ g v w Q QV R d q k => ?_⟩
  refine ho.r al S F H σ g _ _ R q fun al1 S1 H1 g1 v1 w1 R1 gr1 e1 q1 => ?_
  refine hi.r al1 S1 F H1 σ g1 _ _ R1 q1 fun al2 S2 H2 g2 v2 w2 R2 gr2 e2 q2 => ?_
  have gr := gr1.trans gr2
  split at q2
  · rename_i n z
    unfold DenW Den at e2
    subst e2
    split at q2
    · rename_i ts em
      split at q2
      · rename_i tw
        obtain ⟨j, hj, q2⟩ := q2
        obtain ⟨p, o, rfl, ea, h1, vs, rfl, h2⟩ := R2.cellH (e1.grow gr2) em
        refine ⟨p, vs, z, j, rfl, rfl, h1, by rw [← h2.length]; exact hj, ?_⟩
        have dt : Den X.K S2 tw v := d.grow gr
        exact k _ _ _ _ _ (R2.putC (c := .lt (ts.set j tw)) (o := .lst (vs.set j v)) em ea ⟨_, rfl, pset dt j h2⟩) gr q2
      · exact q2.elim
    · rename_i us em
      obtain ⟨j, hj, q2⟩ := q2
      obtain ⟨p, o, rfl, ea, h1, vs, rfl, h2⟩ := R2.cellH (e1.grow gr2) em
      refine ⟨p, vs, z, j, rfl, rfl, h1, by rw [← h2.length]; exact hj, ?_⟩
      exact k _ _ _ _ _ (R2.putC (c := .lw (us.set j w)) (o := .lst (vs.set j v)) em ea ⟨_, rfl, pset (d.grow gr) j h2⟩) gr q2
    · exact q2.elim
  · exact q2.elim
def dAsg (te : Dt) (t : DGt) : DSt := fun D g => te g fun w g1 => t w g1 D.nx
theorem ds_asg {tg : Expr} {τg : TG} {tg' : DGt} (he : DE X e τe te) (hg : DG X tg τg tg') (hs : swapsWithSole [tg] e pos.line X.env = pure false := by rfl) (hw : swappedStores [tg] e X.env = pure none := by rfl)
    (h1 : (assignEach [tg] X.env).map (·.2) = [assign tg X.env] := by rfl) : DS X (.Assign [tg] e pos) (tAsg τe τg) (dAsg te tg') := by
  refine ⟨ps_asg he.pe hg.pe hs hw h1, fun al S F H σ g D DV R q k => ?_⟩
  refine he.r al S F H σ g _ _ R q fun al1 S1 H1 g1 v1 w1 R1 gr1 e1 q1 => ?_
  exact hg.r al1 S1 F H1 σ g1 v1 w1 _ _ R1 e1 q1 fun al2 S2 H2 σ2 g2 R2 gr2 q2 => k.nx _ _ _ _ _ R2 (gr1.trans gr2) q2
theorem ds_set (i : Nat) {x : Str} {ps : Pos} (hN : X.N.Nodup) (he : DE X e τe te) (hi : X.N[i]? = some x := by rfl) (hx : Loc X.env.scope x := by first | exact Or.inl rfl | exact Or.inr rfl) (hs : swapsWith e (some (.Name x ps)) pos.line X.env = pure false := by rfl) (hf : X.fn x = true ∨ X.env.scope.names.lookup x = some .local := by first | exact .inl rfl | exact .inr rfl | assumption) :
    DS X (.Assign [.Name x ps] e pos) (tAsg τe (gName i)) (dAsg te (dgN i)) := by
  refine ⟨ps_set hN hi hx he.pe hs hf, fun al S F H σ g D DV R q k => ?_⟩
  refine he.r al S F H σ g _ _ R q fun al1 S1 H1 g1 v1 w1 R1 gr1 e1 q1 => ?_
  exact k.nx _ _ _ _ _ (R1.setSlot e1) gr1 q1
/-- x += e, x -= e: ints -/
def dAug (i : Nat) (f : Int → Int → Int) (te : Dt) : DSt := fun D g => match g.sl[i]? with
  | some (some (.t (.int a))) => te g fun w g1 => (match w with | .t (.int b) => D.nx (g1.set i (.t (.int (f a b)))) | _ => False)
  | _ => False
theorem ds_aug (i : Nat) {f : Int → Int → Int} {op : Operator} {x : Str} {ps : Pos} (hop : PIp X op (ipI f)) (hN : X.N.Nodup) (he : DE X e τe te) (hi : X.N[i]? = some x := by rfl) (hx : Loc X.env.scope x := by first | exact Or.inl rfl | exact Or.inr rfl) (hf : X.fn x = true ∨ X.env.scope.names.lookup x = some .local := by first | exact .inl rfl | exact .inr rfl | assumption) :
    DS X (.AugAssign (.Name x ps) op e pos) (tAug i τe (ipI f)) (dAug i f te) := by
  refine ⟨ps_aug hN hi hx he.pe hop hf, fun al S F H σ g D DV R q k => ?_⟩
  unfold dAug at q
  split at q
  · rename_i z ez
    obtain ⟨v, hv, dv⟩ := R.slot i _ ez
    refine ⟨v, hv, ?_⟩
    refine he.r al S F H σ g _ _ R q fun al1 S1 H1 g1 v1 w1 R1 gr1 e1 q1 => ?_
    split at q1
    · rename_i y
      unfold DenW Den at e1 dv
      exact ⟨z, y, dv, e1, k.nx _ _ _ _ _ (R1.setSlot (w := .t (.int (f z y))) (by unfold DenW Den; rfl)) gr1 q1⟩
    · exact q1.elim
  · exact q.elim
/-- d[k] = v, d a dict's cell -/
def dDput (td ty tv : Dt) : DSt := fun D g => tv g fun w g1 => td g1 fun o g2 => ty g2 fun y g3 => match o, y with
  | .h n, .t ky => (match keyT ky with
    | some k => (match g3.mem[n]? with
      | some (some (.dt ks ts)) => (match w with | .t tw => ks.length < sizeLine ∧ D.nx (g3.put n (.dt (putKs ks k) (putXs ks ts k tw))) | _ => False)
      | some (some (.dw ks us)) => ks.length < sizeLine ∧ D.nx (g3.put n (.dw (putKs ks k) (putXs ks us k w)))
      | _ => False)
    | none => False)
  | _, _ => False
theorem ds_dput {o i : Expr} {τd τy : TE} {td ty : Dt} {ps : Pos} {kk : Nat} (hr : Room kk X.A) (ho : DE X o τd td) (hi : DE X i τy ty) (hv : DE X e τe te) (hs : swapsWith e (some (.Subscript o i ps)) pos.line X.env = pure false := by rfl) :
    DS X (.Assign [.Subscript o i ps] e pos) (sDPut τd τy τe) (dDput td ty te) := by
  refine ⟨ps_dput (hu_of hr) ho.pe hi.pe hv.pe hs, fun al S F H σ g D DV R q k => ?_⟩
  refine hv.r al S F H σ g _ _ R q fun al1 S1 H1 g1 v1 w1 R1 gr1 e1 q1 => ?_
  refine ho.r al1 S1 F H1 σ g1 _ _ R1 q1 fun al2 S2 H2 g2 v2 w2 R2 gr2 e2 q2 => ?_
  refine hi.r al2 S2 F H2 σ g2 _ _ R2 q2 fun al3 S3 H3 g3 v3 w3 R3 gr3 e3 q3 => ?_
  have gr := gr1.trans (gr2.trans gr3)
  split at q3
  · rename_i n ky
    split at q3
    · rename_i key ek
      have ev := key_den ek e3
      subst ev
      split at q3
      · rename_i ks ts em
        split at q3
        · rename_i tw
          obtain ⟨p, o, rfl, ea, h1, vs, rfl, h2, h3⟩ := R3.cellH (e2.grow gr3) em
          have hl : ks.length = vs.length := by rw [h2, h3.length]
          have dt : Den X.K S3 tw v1 := e1.grow (gr2.trans gr3)
          have hz : (ks.zip vs).length < sizeLine := by rw [List.length_zip, ← hl, Nat.min_self]; exact q3.1
          refine ⟨p, _, rfl, DPut.k h1 hz, ?_⟩
          rw [putK_zip hl]
          refine k.nx _ _ _ _ _ (R3.putC (c := .dt (putKs ks key) (putXs ks ts key tw)) em ea ⟨_, rfl, putX_len h2, putX_pair dt h3⟩) gr q3.2
        · exact q3.elim
      · rename_i ks ts em
        obtain ⟨p, o, rfl, ea, h1, vs, rfl, h2, h3⟩ := R3.cellH (e2.grow gr3) em
        have hl : ks.length = vs.length := by rw [h2, h3.length]
        have dt := e1.grow (gr2.trans gr3)
        have hz : (ks.zip vs).length < sizeLine := by rw [List.length_zip, ← hl, Nat.min_self]; exact q3.1
        refine ⟨p, _, rfl, DPut.k h1 hz, ?_⟩
        rw [putK_zip hl]
        refine k.nx _ _ _ _ _ (R3.putC (c := .dw (putKs ks key) (putXs ks ts key w1)) em ea ⟨_, rfl, putX_len h2, putX_pair dt h3⟩) gr q3.2
      · exact q3.elim
    · exact q3.elim
  · exact q3.elim
/-! while -/
def dWhile (c : DTt) (tb : DSt) : DSt := fun D g => ∃ I : Nat → G → Prop, (∃ m, I m g) ∧ ∀ m g', I m g' → c g' fun b g1 => if b = true then tb { D with nx := fun g2 => ∃ m', m' < m ∧ I m' g2, ct := fun g2 => ∃ m', m' < m ∧ I m' g2, bk := D.nx } g1 else D.nx g1
theorem ds_while {c : Expr} {body : List Stmt} {τc : TT} {tc : DTt} (hc : DT X c τc tc) (hb : DSs X body τ t) (hp : PassesOwn (model X.prog X.w) X.A X.env X.xe := by exact PassesOwn.never) : DS X (.While c body [] pos) (tWhile τc τ) (dWhile tc t) := by
  refine ⟨ps_while hp hc.pe hb.pe, fun al S F H σ g D DV R q k => ?_⟩
  obtain ⟨I, ⟨m0, i0⟩, turn⟩ := q
  refine ⟨fun m σ' H' => ∃ al' S' g', Rep X.K al' S' F H' σ' g' ∧ Grow al S al' S' ∧ I m g', ⟨m0, al, S, g, R, Grow.refl _ _, i0⟩, ?_⟩
  rintro m σ1 H1 ⟨al1, S1, g1, R1, gr1, i1⟩
  refine hc.r al1 S1 F H1 σ1 g1 _ _ R1 (turn m g1 i1) fun al2 S2 H2 g2 b2 R2 gr2 q2 => ?_
  have gr := gr1.trans gr2
  cases b2 with
  | true =>
    simp only [if_true] at q2 ⊢
    refine ⟨fun σ' H' => ∃ m' al' S' g', m' < m ∧ Rep X.K al' S' F H' σ' g' ∧ Grow al S al' S' ∧ I m' g', fun σ' H' ⟨m', al', S', g', hm, R', gr', i'⟩ => ⟨m', hm, al', S', g', R', gr', i'⟩, ?_⟩
    refine hb.r al2 S2 F H2 σ1 g2 _ _ R2 q2 ⟨fun al' S' H' σ' g' R' gr' ⟨m', hm, i'⟩ => ⟨m', al', S', g', hm, R', gr.trans gr', i'⟩, fun al' S' H' σ' g' v w R' gr' d' q' => k.rt _ _ _ _ _ _ _ R' (gr.trans gr') d' q', fun al' S' H' σ' g' R' gr' q' => k.nx _ _ _ _ _ R' (gr.trans gr') q', fun al' S' H' σ' g' R' gr' ⟨m', hm, i'⟩ => ⟨m', al', S', g', hm, R', gr.trans gr', i'⟩⟩
  | false =>
    simp only [Bool.false_eq_true, if_false] at q2 ⊢
    exact k.nx _ _ _ _ _ R2 gr q2
/-! what is walked -/
def IterOk (K : PySem.W.Frag) (J : It) (ws : List W) (St : G → Prop) (al : List Addr) (S : Hp) : Prop := ∀ (al' : List Addr) (S' F' H' : Hp) (σ' : L2.St) (g' : G) (i : Nat), Rep K al' S' F' H' σ' g' → Grow al S al' S' → St g' →
  (∀ w, ws[i]? = some w → J.go i H' ∧ ∀ x H'', J.yld i H' x H'' → ∃ al'' S'', Rep K al'' S'' F' H'' σ' g' ∧ Grow al' S' al'' S'' ∧ DenW K al'' S'' w x) ∧ (ws.length ≤ i → J.stop i H')
abbrev DIt := G → (List W → (G → Prop) → G → Prop) → Prop
structure DI (X : Cx) (tg iter : Expr) (wi : TI) (t : DIt) : Prop where
  pe : PI X tg iter wi
  r : ∀ (al : List Addr) (S F H : Hp) (σ : L2.St) (g : G) (Q : List W → (G → Prop) → G → Prop) (QV : It → Hp → Prop), Rep X.K al S F H σ g → t g Q →
    (∀ al' S' H' g' J ws St, Rep X.K al' S' F H' σ g' → Grow al S al' S' → IterOk X.K J ws St al' S' → Q ws St g' → QV J H') → wi σ H QV
def diL (t : Dt) : DIt := fun g Q => t g fun w g1 => match g1.lq? w with
  | some ts => Q (ts.map W.t) (fun g' => g'.lq? w = some ts) g1
  | none => (match g1.wseq? w with | some ws => Q ws (fun g' => g'.wseq? w = some ws) g1 | none => False)
variable {tg iter : Expr}
theorem di_list (h : DE X iter τe te) : DI X tg iter (iList X.K τe) (diL te) := by
  refine ⟨pi_list h.pe, fun al S F H σ g Q QV R q k => ?_⟩
  refine h.r al S F H σ g _ _ R q fun al1 S1 H1 g1 v1 w1 R1 gr1 e1 q1 => ?_
  split at q1
  · rename_i ts e
    obtain ⟨a, vs, rfl, h1, h2⟩ := R1.viewQ e1 e
    refine ⟨a, rfl, ⟨vs, h1⟩, k _ _ _ _ _ _ _ R1 gr1 ?_ q1⟩
    intro al' S' F' H' σ' g' i R' gr' st
    obtain ⟨a', vs', ea, h3, h4⟩ := R'.viewQ (e1.grow gr') st
    cases ea
    refine ⟨fun w hw => ?_, fun hi => ?_⟩
    · rw [List.getElem?_map] at hw
      cases et : ts[i]? with
      | none => rw [et] at hw; cases hw
      | some t =>
        rw [et] at hw; cases hw
        obtain ⟨v, ev, dv⟩ := pget h4 et
        refine ⟨⟨vs', v, h3, ev⟩, fun x H'' ⟨eH, hx⟩ => ?_⟩
        subst eH
        have := hx vs' h3
        rw [ev] at this; cases this
        exact ⟨al', S', R', Grow.refl _ _, dv⟩
    · refine ⟨vs', h3, ?_⟩
      rw [List.length_map, h4.length] at hi
      exact hi
  · split at q1
    · rename_i ws e
      obtain ⟨a, vs, rfl, h1, h2⟩ := R1.viewW e1 e
      refine ⟨a, rfl, ⟨vs, .inl (.inl h1)⟩, k _ _ _ _ _ _ _ R1 gr1 ?_ q1⟩
      intro al' S' F' H' σ' g' i R' gr' st
      obtain ⟨a', vs', ea, h3, h4⟩ := R'.viewW (e1.grow gr') st
      cases ea
      refine ⟨fun w hw => ?_, fun hi => ?_⟩
      · obtain ⟨v, ev, dv⟩ := pget h4 hw
        refine ⟨⟨vs', v, .inl (.inl h3), ev⟩, fun x H'' ⟨eH, hx⟩ => ?_⟩
        subst eH
        have := hx vs' (.inl (.inl h3))
        rw [ev] at this; cases this
        exact ⟨al', S', R', Grow.refl _ _, dv⟩
      · refine ⟨vs', .inl (.inl h3), ?_⟩
        rw [h4.length] at hi
        exact hi
    · exact q1.elim
def diT (t : Dt) : DIt := fun g Q => t g fun w g1 => match w with | .t (.tup ts) => Q (ts.map W.t) (fun _ => True) g1 | _ => False
theorem di_tup (h : DE X iter τe te) : DI X tg iter (iTup X.K τe) (diT te) := by
  refine ⟨pi_tup h.pe, fun al S F H σ g Q QV R q k => ?_⟩
  refine h.r al S F H σ g _ _ R q fun al1 S1 H1 g1 v1 w1 R1 gr1 e1 q1 => ?_
  split at q1
  · rename_i ts
    have e0 := e1
    unfold DenW Den at e1
    obtain ⟨a, vs, rfl, h1, h2⟩ := e1
    refine ⟨a, rfl, ⟨vs, seqT R1.same h1⟩, k _ _ _ _ _ _ _ R1 gr1 ?_ q1⟩
    intro al' S' F' H' σ' g' i R' gr' _
    have h3 := seqT R'.same (seqT gr'.s h1)
    have h4 := Denp.grow gr'.s (Dens.iff.mp h2)
    refine ⟨fun w hw => ?_, fun hi => ?_⟩
    · rw [List.getElem?_map] at hw
      cases et : ts[i]? with
      | none => rw [et] at hw; cases hw
      | some t =>
        rw [et] at hw; cases hw
        obtain ⟨v, ev, dv⟩ := pget h4 et
        refine ⟨⟨vs, v, h3, ev⟩, fun x H'' ⟨eH, hx⟩ => ?_⟩
        subst eH
        have := hx vs h3
        rw [ev] at this; cases this
        exact ⟨al', S', R', Grow.refl _ _, dv⟩
    · refine ⟨vs, h3, ?_⟩
      rw [List.length_map, h4.length] at hi
      exact hi
  · exact q1.elim
def rgW (lo : Int) (n : Nat) : List W := (List.range n).map fun k => W.t (.int (lo + (k : Nat)))
theorem iter_range {K : PySem.W.Frag} {al : List Addr} {S : Hp} (lo : Int) (n : Nat) : IterOk K (Itr lo n) (rgW lo n) (fun _ => True) al S := by
  intro al' S' F' H' σ' g' i R' gr' _
  unfold rgW
  refine ⟨fun w hw => ?_, fun hi => ?_⟩
  · rw [List.getElem?_map] at hw
    by_cases hi : i < n
    · rw [List.getElem?_range hi] at hw
      cases hw
      refine ⟨hi, fun x H'' ⟨eH, ex⟩ => ?_⟩
      subst eH ex
      exact ⟨al', S', R', Grow.refl _ _, by unfold DenW Den; rfl⟩
    · rw [List.getElem?_eq_none (by simpa using hi)] at hw; cases hw
  · rw [List.length_map, List.length_range] at hi
    exact hi
def diR1 (t : DAt) : DIt := fun g Q => t g fun ws g1 => match ws with | [.t (.int j)] => (-(2 ^ 62) ≤ j ∧ j < 2 ^ 62) ∧ Q (rgW 0 j.toNat) (fun _ => True) g1 | _ => False
def diR2 (t : DAt) : DIt := fun g Q => t g fun ws g1 => match ws with | [.t (.int i), .t (.int j)] => (-(2 ^ 62) ≤ i ∧ i < 2 ^ 62 ∧ -(2 ^ 62) ≤ j ∧ j < 2 ^ 62) ∧ Q (rgW i (j - i).toNat) (fun _ => True) g1 | _ => False
theorem di_range1 {a : Expr} {τs : TA} {ts : DAt} {p : Pos} (hm : X.mg "range" = none) (ha : DA X [a] τs ts) (hg : Gl X "range" := by rfl) (hs : starEach [a] X.env = [(false, eval a X.env)] := by rfl) : DI X tg (.Call (.Name "range" p) [a] [] pos) (iRng1 τs) (diR1 ts) := by
  refine ⟨pi_range1 hg hm ha.pe hs, fun al S F H σ g Q QV R q k => ?_⟩
  refine ha.r al S F H σ g _ _ R q fun al1 S1 H1 g1 vs ws R1 gr1 e1 q1 => ?_
  split at q1
  · obtain ⟨v, rfl, d⟩ := p1 e1
    unfold DenW Den at d
    subst d
    exact ⟨_, rfl, q1.1.1, q1.1.2, k _ _ _ _ _ _ _ R1 gr1 (iter_range _ _) q1.2⟩
  · exact q1.elim
theorem di_range2 {a b : Expr} {τs : TA} {ts : DAt} {p : Pos} (hm : X.mg "range" = none) (ha : DA X [a, b] τs ts) (hg : Gl X "range" := by rfl) (hs : starEach [a, b] X.env = [(false, eval a X.env), (false, eval b X.env)] := by rfl) (hs2 : starEach [b] X.env = [(false, eval b X.env)] := by rfl) : DI X tg (.Call (.Name "range" p) [a, b] [] pos) (iRng2 τs) (diR2 ts) := by
  refine ⟨pi_range2 hg hm ha.pe hs hs2, fun al S F H σ g Q QV R q k => ?_⟩
  refine ha.r al S F H σ g _ _ R q fun al1 S1 H1 g1 vs ws R1 gr1 e1 q1 => ?_
  split at q1
  · obtain ⟨u, v, rfl, d1, d2⟩ := p2 e1
    unfold DenW Den at d1 d2
    subst d1 d2
    exact ⟨_, _, rfl, q1.1, k _ _ _ _ _ _ _ R1 gr1 (iter_range _ _) q1.2⟩
  · exact q1.elim
/-! for -/
def dFor (it : DIt) (gt : DGt) (tb : DSt) : DSt := fun D g => it g fun ws St g1 => ∃ I : Nat → G → Prop, I 0 g1 ∧ (∀ i g', I i g' → St g') ∧
  (∀ i w g', ws[i]? = some w → I i g' → gt w g' fun g2 => tb { D with nx := I (i + 1), ct := I (i + 1), bk := D.nx } g2) ∧ (∀ g', I ws.length g' → D.nx g')
theorem ds_for {body : List Stmt} {wi : TI} {it : DIt} {τg : TG} {gt : DGt} (hc : X.calm = true) (hi : DI X tg iter wi it) (hg : DG X tg τg gt) (hb : DSs X body τ t) (hp : PassesOwn (model X.prog X.w) X.A X.env X.xe := by exact PassesOwn.never)
    (hs : ∀ x, foldedSetIterable iter X.env x = pure x := by intro _; rfl) : DS X (.For tg iter body [] pos) (tFor wi τg τ) (dFor it gt t) := by
  refine ⟨ps_for hp hc hi.pe hg.pe hb.pe hs, fun al S F H σ g D DV R q k => ?_⟩
  refine hi.r al S F H σ g _ _ R q fun al1 S1 H1 g1 J ws St R1 gr1 ok q1 => ?_
  obtain ⟨I, i0, hst, turn, done⟩ := q1
  refine ⟨fun i m σ' H' => ∃ al' S' g', Rep X.K al' S' F H' σ' g' ∧ Grow al1 S1 al' S' ∧ I i g' ∧ i + m = ws.length, ⟨ws.length, al1, S1, g1, R1, Grow.refl _ _, i0, by omega⟩, ?_⟩
  rintro i m σ2 H2 ⟨al2, S2, g2, R2, gr2, i2, em⟩
  obtain ⟨hgo, hstop⟩ := ok al2 S2 F H2 σ2 g2 i R2 gr2 (hst i g2 i2)
  by_cases hi : i < ws.length
  · have hw : ws[i]? = some ws[i] := List.getElem?_eq_getElem hi
    obtain ⟨go, hy⟩ := hgo _ hw
    refine .inr ⟨go, fun σ' H' => ∃ al' S' g', Rep X.K al' S' F H' σ' g' ∧ Grow al1 S1 al' S' ∧ I (i + 1) g', fun σ' H' ⟨al', S', g', R', gr', i'⟩ => ⟨m - 1, by omega, al', S', g', R', gr', i', by omega⟩, fun x H' y => ?_⟩
    obtain ⟨al3, S3, R3, gr3, d3⟩ := hy x H' y
    refine hg.r al3 S3 F H' σ2 g2 x _ _ _ R3 d3 (turn i _ g2 hw i2) fun al4 S4 H4 σ4 g4 R4 gr4 q4 => ?_
    have gr := gr2.trans (gr3.trans gr4)
    exact hb.r al4 S4 F H4 σ4 g4 _ _ R4 q4 ⟨fun al' S' H' σ' g' R' gr' i' => ⟨al', S', g', R', gr.trans gr', i'⟩, fun al' S' H' σ' g' v w R' gr' d' q' => k.rt _ _ _ _ _ _ _ R' (gr1.trans (gr.trans gr')) d' q', fun al' S' H' σ' g' R' gr' q' => k.nx _ _ _ _ _ R' (gr1.trans (gr.trans gr')) q', fun al' S' H' σ' g' R' gr' i' => ⟨al', S', g', R', gr.trans gr', i'⟩⟩
  · refine .inl ⟨hstop (by omega), ?_⟩
    have e : i = ws.length := by omega
    subst e
    exact k.nx _ _ _ _ _ R2 (gr1.trans gr2) (done g2 i2)
end
end DL

namespace DL
open PySem PySem.Spec L2

/-! the frame: cells that nobody here touches -/
section
variable {K : PySem.W.Frag} {al : List Addr} {S F H : Hp} {m : Sto} {σ : L2.St} {g : G}
theorem upd_at {F : Hp} {D b : Addr} {o : HO} : upd F D o b = if b = D then some o else F b := rfl
theorem RepM.frNew (R : RepM K al S F H m) {D : Addr} {o : HO} (nD : H D = none) : RepM K al S (upd F D o) (upd H D o) m := by
  refine ⟨fun b u e => ?_, fun b u e => ?_, fun b u e => ?_, R.len, fun n c e => ?_, R.inj⟩
  · rw [upd_ne (ne_of_none (R.same _ _ e) nD)]; exact R.same b u e
  · by_cases hb : b = D
    · subst hb; rw [upd_same] at e ⊢; exact e
    · rw [upd_ne hb] at e ⊢; exact R.fr b u e
  · rw [upd_ne (ne_of_none (R.same _ _ e) nD)]; exact R.dis b u e
  · obtain ⟨a, o', h1, h2, h3, h4, h5⟩ := R.cell n c e
    have na : a ≠ D := ne_of_none h4 nD
    exact ⟨a, o', h1, h2, by rw [upd_ne na]; exact h3, by rw [upd_ne na]; exact h4, h5⟩
theorem RepM.frPut {D : Addr} {o o' : HO} (R : RepM K al S (upd F D o) H m) : RepM K al S (upd F D o') (upd H D o') m := by
  have hS : ∀ b u, S b = some u → b ≠ D := fun b u e z => by subst z; have := R.dis b u e; rw [upd_same] at this; cases this
  refine ⟨fun b u e => ?_, fun b u e => ?_, fun b u e => ?_, R.len, fun n c e => ?_, R.inj⟩
  · rw [upd_ne (hS b u e)]; exact R.same b u e
  · by_cases hb : b = D
    · subst hb; rw [upd_same] at e ⊢; exact e
    · rw [upd_ne hb] at e ⊢; exact R.fr b u (by rw [upd_ne hb]; exact e)
  · have := R.dis b u e
    rw [upd_ne (hS b u e)] at this ⊢; exact this
  · obtain ⟨a, o2, h1, h2, h3, h4, h5⟩ := R.cell n c e
    have na : a ≠ D := fun z => by subst z; rw [upd_same] at h3; cases h3
    exact ⟨a, o2, h1, h2, by rw [upd_ne na] at h3 ⊢; exact h3, by rw [upd_ne na]; exact h4, h5⟩
/-- the framed thing becomes stable -/
theorem RepM.frS {D : Addr} {o : HO} (R : RepM K al S (upd F D o) H m) (nF : F D = none) : RepM K al (upd S D o) F H m ∧ Grow al S al (upd S D o) := by
  have hS : ∀ b u, S b = some u → b ≠ D := fun b u e z => by subst z; have := R.dis b u e; rw [upd_same] at this; cases this
  have gr : Grow al S al (upd S D o) := ⟨⟨[], by simp⟩, fun b u e => by rw [upd_ne (hS b u e)]; exact e⟩
  refine ⟨⟨fun b u e => ?_, fun b u e => ?_, fun b u e => ?_, R.len, fun n c e => ?_, R.inj⟩, gr⟩
  · by_cases hb : b = D
    · subst hb; rw [upd_same] at e; cases e; exact R.fr _ _ upd_same
    · rw [upd_ne hb] at e; exact R.same b u e
  · exact R.fr b u (by rw [upd_ne (ne_of_none e nF)]; exact e)
  · by_cases hb : b = D
    · subst hb; exact nF
    · rw [upd_ne hb] at e
      have := R.dis b u e
      rw [upd_ne hb] at this; exact this
  · obtain ⟨a, o2, h1, h2, h3, h4, h5⟩ := R.cell n c e
    have na : a ≠ D := fun z => by subst z; rw [upd_same] at h3; cases h3
    exact ⟨a, o2, h1, by rw [upd_ne na]; exact h2, by rw [upd_ne na] at h3; exact h3, h4, h5.grow gr⟩
/-- the framed thing becomes a cell -/
theorem RepM.frC {D : Addr} {o : HO} {c : Cell} (R : RepM K al S (upd F D o) H m) (nF : F D = none) (ok : CellOk K (al ++ [D]) S c o) : RepM K (al ++ [D]) S F H (m ++ [some c]) ∧ Grow al S (al ++ [D]) S := by
  have hS : ∀ b u, S b = some u → b ≠ D := fun b u e z => by subst z; have := R.dis b u e; rw [upd_same] at this; cases this
  have nS : S D = none := by
    cases e : S D with
    | none => rfl
    | some u => exact absurd rfl (hS D u e)
  have gr : Grow al S (al ++ [D]) S := ⟨⟨[D], rfl⟩, Same.refl S⟩
  have hold : ∀ (n : Nat) (c' : Cell), (m ++ [some c])[n]? = some (some c') → (n < m.length ∧ m[n]? = some (some c')) ∨ (n = m.length ∧ c' = c) := fun n c' e => by
    rcases Nat.lt_or_ge n m.length with q | q
    · rw [List.getElem?_append_left q] at e; exact .inl ⟨q, e⟩
    · rw [List.getElem?_append_right q] at e
      rcases Nat.eq_or_lt_of_le q with q' | q'
      · subst q'; simp at e; exact .inr ⟨rfl, e.symm⟩
      · rw [List.getElem?_eq_none (by simp; omega)] at e; cases e
  have atE : (al ++ [D])[m.length]? = some D := by rw [List.getElem?_append_right (by rw [R.len]; exact Nat.le_refl _), R.len]; simp
  have atN : ∀ (n : Nat), n < m.length → (al ++ [D])[n]? = al[n]? := fun n hn => List.getElem?_append_left (by rw [R.len]; exact hn)
  have notD : ∀ (n : Nat) (c' : Cell), m[n]? = some (some c') → al[n]? ≠ some D := fun n c' e z => by
    obtain ⟨a, o2, h1, h2, h3, h4, h5⟩ := R.cell n c' e
    rw [z] at h1; cases h1; rw [upd_same] at h3; cases h3
  refine ⟨⟨R.same, fun b u e => R.fr b u (by rw [upd_ne (ne_of_none e nF)]; exact e), fun b u e => ?_, by simp [R.len], fun n c' e => ?_, fun n k c1 c2 a e1 e2 e3 e4 => ?_⟩, gr⟩
  · have := R.dis b u e
    rw [upd_ne (hS b u e)] at this; exact this
  · rcases hold n c' e with ⟨hn, e'⟩ | ⟨rfl, rfl⟩
    · obtain ⟨a, o2, h1, h2, h3, h4, h5⟩ := R.cell n c' e'
      have na : a ≠ D := fun z => by subst z; rw [upd_same] at h3; cases h3
      exact ⟨a, o2, by rw [atN n hn]; exact h1, h2, by rw [upd_ne na] at h3; exact h3, h4, h5.grow gr⟩
    · exact ⟨D, o, atE, nS, nF, R.fr _ _ upd_same, ok⟩
  · rcases hold n c1 e1 with ⟨hn, e1'⟩ | ⟨rfl, rfl⟩
    · rcases hold k c2 e2 with ⟨hk, e2'⟩ | ⟨rfl, rfl⟩
      · rw [atN n hn] at e3; rw [atN k hk] at e4
        exact R.inj n k c1 c2 a e1' e2' e3 e4
      · rw [atN n hn] at e3; rw [atE] at e4; cases e4
        exact absurd e3 (notD n c1 e1')
    · rcases hold k c2 e2 with ⟨hk, e2'⟩ | ⟨rfl, rfl⟩
      · rw [atN k hk] at e4; rw [atE] at e3; cases e3
        exact absurd e4 (notD k c2 e2')
      · rfl
end
/-! slots of a block -/
theorem wipe_get {σ : L2.St} {j : Nat} : ∀ {vs : List Nat}, j < σ.length → (wipe σ vs)[j]? = if j ∈ vs then some none else σ[j]?
  | [], _ => by simp [wipe]
  | v :: vs, h => by
    have ih := wipe_get (vs := vs) h
    unfold wipe
    by_cases e : v = j
    · subst e
      rw [List.getElem?_set_self (by rw [wipe_length]; exact h)]
      simp
    · rw [List.getElem?_set_ne e, ih]
      by_cases m : j ∈ vs
      · simp [m]
      · have : j ∉ v :: vs := by simp [m, Ne.symm e]
        simp only [m, this, if_false]
theorem wipe_eq {σ σ' : L2.St} {vs : List Nat} (hl : σ'.length = σ.length) (h : ∀ j, j ∉ vs → σ'[j]? = σ[j]?) : wipe σ' vs = wipe σ vs := by
  refine List.ext_getElem? fun j => ?_
  by_cases hj : j < σ.length
  · rw [wipe_get hj, wipe_get (by omega)]
    by_cases m : j ∈ vs
    · simp [m]
    · simp [m, h j m]
  · rw [List.getElem?_eq_none (by rw [wipe_length]; omega), List.getElem?_eq_none (by rw [wipe_length]; omega)]
theorem wipeW_len (sl : List (Option W)) : ∀ vs : List Nat, (wipeW sl vs).length = sl.length
  | [] => rfl
  | v :: vs => by unfold wipeW; rw [List.length_set, wipeW_len sl vs]
theorem wipeW_some {sl : List (Option W)} {i : Nat} {x : W} : ∀ {vs : List Nat}, (wipeW sl vs)[i]? = some (some x) → sl[i]? = some (some x) ∧ i ∉ vs
  | [], h => ⟨h, by simp⟩
  | v :: vs, h => by
    unfold wipeW at h
    by_cases hi : v = i
    · subst hi
      by_cases hv : v < (wipeW sl vs).length
      · rw [List.getElem?_set_self hv] at h; cases h
      · rw [List.getElem?_eq_none (by simpa using hv)] at h; cases h
    · rw [List.getElem?_set_ne hi] at h
      obtain ⟨h1, h2⟩ := wipeW_some h
      exact ⟨h1, by simp only [List.mem_cons, not_or]; exact ⟨fun e => hi e.symm, h2⟩⟩
/-- the block's names get back what they held -/
def rsW (orig cur : List (Option W)) : List Nat → List (Option W)
  | [] => cur
  | v :: vs => (rsW orig cur vs).set v (orig.getD v none)
theorem rsW_len (orig cur : List (Option W)) : ∀ vs : List Nat, (rsW orig cur vs).length = cur.length
  | [] => rfl
  | v :: vs => by unfold rsW; rw [List.length_set, rsW_len orig cur vs]
theorem rsW_some {orig cur : List (Option W)} {i : Nat} {x : W} : ∀ {vs : List Nat}, (rsW orig cur vs)[i]? = some (some x) → (i ∈ vs ∧ orig[i]? = some (some x)) ∨ (i ∉ vs ∧ cur[i]? = some (some x))
  | [], h => .inr ⟨by simp, h⟩
  | v :: vs, h => by
    unfold rsW at h
    by_cases hi : v = i
    · subst hi
      by_cases hv : v < (rsW orig cur vs).length
      · rw [List.getElem?_set_self hv] at h
        refine .inl ⟨by simp, ?_⟩
        rw [List.getD_eq_getElem?_getD] at h
        cases e : orig[v]? with
        | none => rw [e] at h; cases h
        | some o => rw [e] at h; exact h
      · rw [List.getElem?_eq_none (by simpa using hv)] at h; cases h
    · rw [List.getElem?_set_ne hi] at h
      rcases rsW_some h with ⟨h1, h2⟩ | ⟨h1, h2⟩
      · exact .inl ⟨by simp [h1], h2⟩
      · exact .inr ⟨by simp only [List.mem_cons, not_or]; exact ⟨fun e => hi e.symm, h1⟩, h2⟩
def G.rs (g g0 : G) (vs : List Nat) : G := ⟨rsW g0.sl g.sl vs, g.mem⟩
section
variable {K : PySem.W.Frag} {al al' : List Addr} {S S' F H H' : Hp} {σ : L2.St} {g g' : G} {vs : List Nat}
theorem Rep.wiped (R : Rep K al S F H σ g) : Rep K al S F H (wipe σ vs) (g.wipe vs) := by
  refine ⟨R.toRepM, by rw [wipe_length]; show (wipeW g.sl vs).length = _; rw [wipeW_len]; exact R.slen, fun i w e => ?_⟩
  obtain ⟨h1, h2⟩ := wipeW_some e
  obtain ⟨v, hv, d⟩ := R.slot i w h1
  refine ⟨v, ?_, d⟩
  rw [wipe_get (by
    rcases Nat.lt_or_ge i σ.length with q | q
    · exact q
    · rw [List.getElem?_eq_none q] at hv; cases hv), if_neg h2]
  exact hv
theorem Rep.restored {F' : Hp} (R : Rep K al S F H σ g) (gr : Grow al S al' S') (R' : Rep K al' S' F' H' (wipe σ vs) g') : Rep K al' S' F' H' σ (g'.rs g vs) := by
  refine ⟨R'.toRepM, by show (rsW g.sl g'.sl vs).length = _; rw [rsW_len, R'.slen, wipe_length], fun i w e => ?_⟩
  rcases rsW_some e with ⟨h1, h2⟩ | ⟨h1, h2⟩
  · obtain ⟨v, hv, d⟩ := R.slot i w h2
    exact ⟨v, hv, d.grow gr⟩
  · obtain ⟨v, hv, d⟩ := R'.slot i w h2
    exact ⟨v, (wipe_some hv).1, d⟩
end
/-! list comprehensions -/
structure CG (X : Cx) (tg : Expr) (τ : TG) (t : DGt) (vs : List Nat) : Prop where
  pe : PG X tg τ
  r : ∀ (al : List Addr) (S F H : Hp) (σ : L2.St) (g : G) (v : V) (w : W) (Q : G → Prop) (QV : L2.St → Hp → Prop), Rep X.K al S F H σ g → DenW X.K al S w v → t w g Q →
    (∀ al' S' H' σ' g', Rep X.K al' S' F H' σ' g' → Grow al S al' S' → (σ'.length = σ.length ∧ ∀ j, j ∉ vs → σ'[j]? = σ[j]?) → Q g' → QV σ' H') → τ v σ H QV
structure CGs (X : Cx) (tg : List Expr) (τ : TGs) (t : DGst) (vs : List Nat) : Prop where
  pe : PGs X tg τ
  r : ∀ (al : List Addr) (S F H : Hp) (σ : L2.St) (g : G) (vs' : List V) (ws : List T) (Q : G → Prop) (QV : L2.St → Hp → Prop), Rep X.K al S F H σ g → Paired (Den X.K S) ws vs' → t ws g Q →
    (∀ al' S' H' σ' g', Rep X.K al' S' F H' σ' g' → Grow al S al' S' → (σ'.length = σ.length ∧ ∀ j, j ∉ vs → σ'[j]? = σ[j]?) → Q g' → QV σ' H') → τ vs' σ H QV
structure DTs (X : Cx) (ifs : List Expr) (τ : TT) (t : DTt) : Prop where
  pe : PTs X ifs τ
  r : DTr X.K τ t
section
variable {X : Cx} {e : Expr} {τe : TE} {te : Dt} {pos : Pos} {tg iter : Expr} {vs : List Nat}
theorem cg_name (i : Nat) {x : Str} {ps : Pos} (hN : X.N.Nodup) (hi : X.N[i]? = some x := by rfl) (hv : i ∈ vs := by decide) (hx : Loc X.env.scope x := by first | exact Or.inl rfl | exact Or.inr rfl) (hf : X.fn x = true ∨ X.env.scope.names.lookup x = some .local := by first | exact .inl rfl | exact .inr rfl | assumption) : CG X (.Name x ps) (gName i) (dgN i) vs :=
  ⟨pg_name hN hi hx hf, fun al S F H σ g v w Q QV R d q k => k _ _ _ _ _ (R.setSlot d) (Grow.refl _ _) ⟨by simp, fun j hj => List.getElem?_set_ne (fun z => hj (by subst z; exact hv))⟩ q⟩
theorem cgs_nil : CGs X [] gNil dgNil vs := by
  refine ⟨pgs_nil, fun al S F H σ g vs ws Q QV R d q k => ?_⟩
  cases d with
  | nil => exact ⟨rfl, k _ _ _ _ _ R (Grow.refl _ _) ⟨rfl, fun _ _ => rfl⟩ q⟩
  | cons _ _ => exact q.elim
theorem cgs_cons {e : Expr} {es : List Expr} {τ1 : TG} {t1 : DGt} {τ2 : TGs} {t2 : DGst} (h1 : CG X e τ1 t1 vs) (h2 : CGs X es τ2 t2 vs)
    (hs : (assignEach (e :: es) X.env).map (·.2) = assign e X.env :: (assignEach es X.env).map (·.2) := by rfl) : CGs X (e :: es) (gCons τ1 τ2) (dgCons t1 t2) vs := by
  refine ⟨pgs_cons h1.pe h2.pe hs, fun al S F H σ g vs ws Q QV R d q k => ?_⟩
  cases d with
  | nil => exact q.elim
  | cons d1 d2 =>
    refine ⟨_, _, rfl, ?_⟩
    refine h1.r al S F H σ g _ (.t _) _ _ R d1 q fun al1 S1 H1 σ1 g1 R1 gr1 s1 q1 => ?_
    exact h2.r al1 S1 F H1 σ1 g1 _ _ Q QV R1 (Denp.grow gr1.s d2) q1 fun al2 S2 H2 σ2 g2 R2 gr2 s2 q2 => k _ _ _ _ _ R2 (gr1.trans gr2) ⟨s2.1.trans s1.1, fun j hj => (s2.2 j hj).trans (s1.2 j hj)⟩ q2
theorem cg_tup {es : List Expr} {kk : Nat} {ps : Pos} {τ1 : TGs} {t1 : DGst} {n : Nat} (hc : X.calm = true) (h : CGs X es τ1 t1 vs)
    (hn : (assignEach es X.env).length = n := by rfl) (hst : (assignEach es X.env).findIdx? (·.1) = none := by rfl) : CG X (.Tuple es kk ps) (gTup X.K n τ1) (dgTup n t1) vs := by
  refine ⟨pg_tup hc h.pe hn hst, fun al S F H σ g v w Q QV R d q k => ?_⟩
  unfold dgTup at q
  split at q
  · rename_i ts
    unfold DenW Den at d
    obtain ⟨p, vs, rfl, h1, h2⟩ := d
    have h2' := Dens.iff.mp h2
    exact ⟨p, vs, rfl, seqT R.same h1, by rw [← h2'.length]; exact q.1, h.r al S F H σ g vs ts Q QV R h2' q.2 k⟩
  · exact q.elim
def dYes : DTt := fun g Q => Q true g
theorem dts_nil : DTs X [] tYes dYes := ⟨pts_nil, fun al S F H σ g Q QV R q k => k _ _ _ _ _ R (Grow.refl _ _) q⟩
theorem dts_one {c : Expr} {τ : TT} {t : DTt} (h : DT X c τ t) : DTs X [c] τ t := ⟨pts_one h.pe, h.r⟩
theorem Rep.withM2 {K : PySem.W.Frag} {al al' : List Addr} {S S' F F' H H' : Hp} {σ : L2.St} {g : G} (R : Rep K al S F H σ g) {m' : Sto} (gr : Grow al S al' S') (M : RepM K al' S' F' H' m') : Rep K al' S' F' H' σ ⟨g.sl, m'⟩ :=
  ⟨M, R.slen, fun i w e => let ⟨v, h1, h2⟩ := R.slot i w e; ⟨v, h1, h2.grow gr⟩⟩
abbrev Fin3 := List W → G → (W → G → Prop) → Prop
def FinOk (K : PySem.W.Frag) (fin : Fin3) : Prop := ∀ (al : List Addr) (S F H : Hp) (σ : L2.St) (g : G) (acc : List W) (accV : List V) (D : Addr) (Q : W → G → Prop), Rep K al S (upd F D (.lst accV)) H σ g → F D = none → Paired (DenW K al S) acc accV → fin acc g Q →
  ∃ al' S' w g', Rep K al' S' F H σ g' ∧ Grow al S al' S' ∧ DenW K al' S' w (.ref D) ∧ Q w g'
def finT : Fin3 := fun acc g Q => ∃ ts : List T, acc = ts.map W.t ∧ Q (.t (.lst ts)) g
def finH : Fin3 := fun acc g Q => ∃ ts : List T, acc = ts.map W.t ∧ Q (.h g.mem.length) (g.push (.lt ts))
def finW : Fin3 := fun acc g Q => Q (.h g.mem.length) (g.push (.lw acc))
theorem denT_map {K : PySem.W.Frag} {al : List Addr} {S : Hp} {ts : List T} {vs : List V} (h : Paired (DenW K al S) (ts.map W.t) vs) : Paired (Den K S) ts vs := (pmapL W.t).mp h
theorem fin_T {K : PySem.W.Frag} : FinOk K finT := by
  intro al S F H σ g acc accV D Q R nF d q
  obtain ⟨ts, rfl, q⟩ := q
  obtain ⟨M, gr⟩ := R.toRepM.frS nF
  refine ⟨al, _, .t (.lst ts), g, R.withM2 gr M, gr, ?_, q⟩
  unfold DenW Den
  exact ⟨D, accV, rfl, upd_same, Dens.iff.mpr (Denp.grow gr.s (denT_map d))⟩
theorem fin_H {K : PySem.W.Frag} : FinOk K finH := by
  intro al S F H σ g acc accV D Q R nF d q
  obtain ⟨ts, rfl, q⟩ := q
  obtain ⟨M, gr⟩ := R.toRepM.frC (c := .lt ts) nF ⟨accV, rfl, denT_map d⟩
  refine ⟨_, S, .h g.mem.length, _, R.withM2 gr M, gr, ⟨D, ?_, rfl⟩, q⟩
  rw [List.getElem?_append_right (by rw [R.len]; exact Nat.le_refl _), R.len]; simp
theorem fin_W {K : PySem.W.Frag} : FinOk K finW := by
  intro al S F H σ g acc accV D Q R nF d q
  obtain ⟨M, gr⟩ := R.toRepM.frC (c := .lw acc) nF ⟨accV, rfl, DenWs.grow ⟨⟨[D], rfl⟩, Same.refl _⟩ d⟩
  refine ⟨_, S, .h g.mem.length, _, R.withM2 gr M, gr, ⟨D, ?_, rfl⟩, q⟩
  rw [List.getElem?_append_right (by rw [R.len]; exact Nat.le_refl _), R.len]; simp
def dLc (fin : Fin3) (it : DIt) (gt : DGt) (tt : DTt) (te : Dt) (vs : List Nat) : Dt := fun g Q => it g fun ws St g1 => ∃ I : Nat → List W → G → Prop, I 0 [] (g1.wipe vs) ∧ (∀ i acc g', I i acc g' → St g' ∧ acc.length ≤ i) ∧
  (∀ i acc w g', ws[i]? = some w → I i acc g' → gt w g' fun g2 => tt g2 fun b g3 => if b = true then te g3 fun y g4 => I (i + 1) (acc ++ [y]) (g4.wipe vs) else I (i + 1) acc (g3.wipe vs)) ∧
  ws.length ≤ sizeLine ∧ (∀ acc g', I ws.length acc g' → fin acc (g'.rs g1 vs) Q)
theorem der_lc {K : PySem.W.Frag} {fin : Fin3} {wi : TI} {it : DIt} {τg : TG} {gt : DGt} {τt : TT} {tt : DTt} {τe : TE} {te : Dt} {vs : List Nat} (hf : FinOk K fin)
    (hi : ∀ (al : List Addr) (S F H : Hp) (σ : L2.St) (g : G) (Q : List W → (G → Prop) → G → Prop) (QV : It → Hp → Prop), Rep K al S F H σ g → it g Q →
      (∀ al' S' H' g' J ws St, Rep K al' S' F H' σ g' → Grow al S al' S' → IterOk K J ws St al' S' → Q ws St g' → QV J H') → wi σ H QV)
    (hg : ∀ (al : List Addr) (S F H : Hp) (σ : L2.St) (g : G) (v : V) (w : W) (Q : G → Prop) (QV : L2.St → Hp → Prop), Rep K al S F H σ g → DenW K al S w v → gt w g Q →
      (∀ al' S' H' σ' g', Rep K al' S' F H' σ' g' → Grow al S al' S' → (σ'.length = σ.length ∧ ∀ j, j ∉ vs → σ'[j]? = σ[j]?) → Q g' → QV σ' H') → τg v σ H QV)
    (ht : DTr K τt tt) (he : DEr K τe te) : DEr K (tLc wi τg τt τe vs) (dLc fin it gt tt te vs) := by
  intro al S F H σ g Q QV R q k
  refine hi al S F H σ g _ _ R q fun al1 S1 H1 g1 J ws St R1 gr1 ok q1 => fun D nD => ?_
  obtain ⟨I, i0, hst, turn, hz, done⟩ := q1
  have nF : F D = none := R1.fr.free nD
  have R1w : Rep K al1 S1 (upd F D (.lst [])) (upd H1 D (.lst [])) (wipe σ vs) (g1.wipe vs) :=
    let R2 := R1.wiped (vs := vs)
    ⟨R2.toRepM.frNew nD, R2.slen, R2.slot⟩
  refine ⟨fun i m H' => ∃ al' S' g' acc accV, Rep K al' S' (upd F D (.lst accV)) H' (wipe σ vs) g' ∧ Grow al1 S1 al' S' ∧ Paired (DenW K al' S') acc accV ∧ I i acc g' ∧ i + m = ws.length,
    ⟨ws.length, al1, S1, _, [], [], R1w, Grow.refl _ _, .nil, i0, by omega⟩, ?_⟩
  rintro i m H2 ⟨al2, S2, g2, acc, accV, R2, gr2, d2, i2, em⟩
  obtain ⟨st2, hl2⟩ := hst i acc g2 i2
  obtain ⟨hgo, hstop⟩ := ok al2 S2 _ H2 _ g2 i R2 gr2 st2
  by_cases hi : i < ws.length
  · have hw : ws[i]? = some ws[i] := List.getElem?_eq_getElem hi
    obtain ⟨go, hy⟩ := hgo _ hw
    refine .inr ⟨go, fun H' => ∃ al' S' g' acc accV, Rep K al' S' (upd F D (.lst accV)) H' (wipe σ vs) g' ∧ Grow al1 S1 al' S' ∧ Paired (DenW K al' S') acc accV ∧ I (i + 1) acc g', fun H' ⟨al', S', g', acc, accV, R', gr', d', i'⟩ => ⟨m - 1, by omega, al', S', g', acc, accV, R', gr', d', i', by omega⟩, fun x H' y => ?_⟩
    obtain ⟨al3, S3, R3, gr3, d3⟩ := hy x H' y
    refine hg al3 S3 _ H' _ g2 x _ _ _ R3 d3 (turn i acc _ g2 hw i2) fun al4 S4 H4 σ4 g4 R4 gr4 s4 q4 => ?_
    have hwp : wipe σ4 vs = wipe σ vs := by
      have h1 : wipe σ4 vs = wipe (wipe σ vs) vs := wipe_eq s4.1 s4.2
      rw [h1]
      refine wipe_eq (wipe_length _ _) fun j hj => ?_
      by_cases hl : j < σ.length
      · rw [wipe_get hl, if_neg hj]
      · rw [List.getElem?_eq_none (by rw [wipe_length]; omega), List.getElem?_eq_none (by omega)]
    refine ⟨hwp, ?_⟩
    refine ht al4 S4 _ H4 σ4 g4 _ _ R4 q4 fun al5 S5 H5 g5 b R5 gr5 q5 => ?_
    have gr := gr2.trans (gr3.trans (gr4.trans gr5))
    have grd := gr3.trans (gr4.trans gr5)
    cases b with
    | false =>
      simp only [Bool.false_eq_true, if_false] at q5 ⊢
      have R5' := R5.wiped (vs := vs)
      rw [hwp] at R5'
      exact ⟨al5, S5, _, acc, accV, R5', gr, DenWs.grow grd d2, q5⟩
    | true =>
      simp only [if_true] at q5 ⊢
      refine he al5 S5 _ H5 σ4 g5 _ _ R5 q5 fun al6 S6 H6 g6 v w R6 gr6 d6 q6 => ?_
      have eD : H6 D = some (.lst accV) := R6.fr _ _ upd_same
      refine ⟨accV, eD, ?_, ?_⟩
      · rw [← d2.length]; omega
      · have R6' := R6.wiped (vs := vs)
        rw [hwp] at R6'
        exact ⟨al6, S6, _, acc ++ [w], accV ++ [v], ⟨R6'.toRepM.frPut, R6'.slen, R6'.slot⟩, gr.trans gr6, papp (DenWs.grow (grd.trans gr6) d2) (.cons d6 .nil), q6⟩
  · refine .inl ⟨hstop (by omega), ?_⟩
    have e : i = ws.length := by omega
    subst e
    have R3 := R1.restored gr2 R2
    obtain ⟨al4, S4, w, g4, R4, gr4, d4, q4⟩ := hf al2 S2 F H2 σ _ acc accV D Q R3 nF d2 (done acc g2 i2)
    exact k _ _ _ _ _ _ R4 (gr1.trans (gr2.trans gr4)) d4 q4
variable {elt : Expr} {ifs : List Expr} {scope : Scope} {own : List (Str × Nat)} {wi : TI} {it : DIt} {τg : TG} {gt : DGt} {τt : TT} {tt : DTt} {fin : Fin3}
theorem de_lc (hf : FinOk X.K fin) (hc : X.calm = true) (hN : X.N.Nodup) (hi : DI X tg iter wi it) (ok : BlkOk X.N X.env.scope scope own)
    (hg : ∀ (s : Shared) (H : Hp) (C : Addr) (cl : List (Str × Addr)) (fp : List Addr), CG (X.blk s H scope (compEnvC scope cl C X.env) fp) tg τg gt (own.map (·.2))) (ht : ∀ (s : Shared) (H : Hp) (C : Addr) (cl : List (Str × Addr)) (fp : List Addr), DTs (X.blk s H scope (compEnvC scope cl C X.env) fp) ifs τt tt)
    (he : ∀ (s : Shared) (H : Hp) (C : Addr) (cl : List (Str × Addr)) (fp : List Addr), DE (X.blk s H scope (compEnvC scope cl C X.env) fp) elt τe te) (s0 : Shared) (hs : ∀ x, foldedSetIterable iter X.env x = pure x := by intro _; rfl) :
    DE X (.ListComp elt [⟨tg, iter, ifs, 0⟩] scope pos) (tLc wi τg τt τe (own.map (·.2))) (dLc fin it gt tt te (own.map (·.2))) :=
  ⟨pe_lc hc hN hi.pe ok (fun s H C cl fp => (hg s H C cl fp).pe) (fun s H C cl fp => (ht s H C cl fp).pe) (fun s H C cl fp => (he s H C cl fp).pe) hs,
    der_lc hf hi.r (hg s0 (fun _ => none) 0 [] []).r (ht s0 (fun _ => none) 0 [] []).r (he s0 (fun _ => none) 0 [] []).r⟩
theorem ds_setLc (i : Nat) {y : Str} {py spos : Pos} (hf : FinOk X.K fin) (hc : X.calm = true) (hN : X.N.Nodup) (hi : DI X tg iter wi it) (ok : BlkOk X.N X.env.scope scope own)
    (hg : ∀ (s : Shared) (H : Hp) (C : Addr) (cl : List (Str × Addr)) (fp : List Addr), CG (X.blk s H scope (compEnvC scope cl C X.env) fp) tg τg gt (own.map (·.2))) (ht : ∀ (s : Shared) (H : Hp) (C : Addr) (cl : List (Str × Addr)) (fp : List Addr), DTs (X.blk s H scope (compEnvC scope cl C X.env) fp) ifs τt tt)
    (he : ∀ (s : Shared) (H : Hp) (C : Addr) (cl : List (Str × Addr)) (fp : List Addr), DE (X.blk s H scope (compEnvC scope cl C X.env) fp) elt τe te) (s0 : Shared) (hy : X.N[i]? = some y := by rfl) (hyl : X.env.scope.names.lookup y = some .local := by rfl)
    (hsw : swapsWith (.ListComp elt [⟨tg, iter, ifs, 0⟩] scope pos) (some (.Name y py)) spos.line X.env = pure true := by exact sw_true rfl rfl rfl (by decide +kernel)) (hs : ∀ x, foldedSetIterable iter X.env x = pure x := by intro _; rfl) :
    DS X (.Assign [.Name y py] (.ListComp elt [⟨tg, iter, ifs, 0⟩] scope pos) spos) (tAsg (tLc wi τg τt τe (own.map (·.2))) (gName i)) (dAsg (dLc fin it gt tt te (own.map (·.2))) (dgN i)) := by
  refine ⟨ps_setLc hc hN hy hyl hsw hi.pe ok (fun s H C cl fp => (hg s H C cl fp).pe) (fun s H C cl fp => (ht s H C cl fp).pe) (fun s H C cl fp => (he s H C cl fp).pe) hs, fun al S F H σ g D DV R q k => ?_⟩
  refine der_lc hf hi.r (hg s0 (fun _ => none) 0 [] []).r (ht s0 (fun _ => none) 0 [] []).r (he s0 (fun _ => none) 0 [] []).r al S F H σ g _ _ R q fun al1 S1 H1 g1 v1 w1 R1 gr1 e1 q1 => ?_
  exact k.nx _ _ _ _ _ (R1.setSlot e1) gr1 q1
end
end DL

namespace DL
open PySem PySem.Spec L2

/-! renaming of handles -/
def W.up (r : List Nat) : W → Option W
  | .t x => some (.t x)
  | .h n => match r[n]? with | some j => some (.h j) | none => none
def ups (r : List Nat) : List W → Option (List W)
  | [] => some []
  | w :: ws => match w.up r, ups r ws with | some w', some ws' => some (w' :: ws') | _, _ => none
def Cell.up (r : List Nat) : Cell → Option Cell
  | .lt ts => some (.lt ts)
  | .dt ks ts => some (.dt ks ts)
  | .lw ws => match ups r ws with | some ws' => some (.lw ws') | none => none
  | .dw ks ws => match ups r ws with | some ws' => some (.dw ks ws') | none => none
  | .tw ws => match ups r ws with | some ws' => some (.tw ws') | none => none
def cups (r : List Nat) : List Cell → Option (List Cell)
  | [] => some []
  | w :: ws => match w.up r, cups r ws with | some w', some ws' => some (w' :: ws') | _, _ => none
theorem cups_get {r : List Nat} : ∀ {cs cs' : List Cell} {i : Nat} {c : Cell}, cups r cs = some cs' → cs[i]? = some c → ∃ c', cs'[i]? = some c' ∧ c.up r = some c'
  | [], _, _, _, _, h => by simp at h
  | d :: cs, cs', i, c, e, h => by
    unfold cups at e
    split at e
    · rename_i d' ds' e1 e2
      cases e
      cases i with
      | zero => simp at h; subst h; exact ⟨d', by simp, e1⟩
      | succ i =>
        obtain ⟨c', h1, h2⟩ := cups_get e2 (by simpa using h)
        exact ⟨c', by simpa using h1, h2⟩
    · cases e
theorem cups_len {r : List Nat} : ∀ {cs cs' : List Cell}, cups r cs = some cs' → cs'.length = cs.length
  | [], _, e => by cases e; rfl
  | d :: cs, cs', e => by
    unfold cups at e
    split at e
    · rename_i d' ds' e1 e2
      cases e
      simp [cups_len e2]
    · cases e
def alOf (al : List Addr) (r : List Nat) : List Addr := r.map fun j => al.getD j 0
section
variable {K : PySem.W.Frag} {al al' : List Addr} {S S' F H H' : Hp} {m : Sto} {r : List Nat}
/-- al1 at i is al at r i -/
def Emb (al1 al : List Addr) (r : List Nat) : Prop := ∀ (i j : Nat), r[i]? = some j → al1[i]? = al[j]?
theorem emb_of (hr : ∀ j ∈ r, j < al.length) : Emb (alOf al r) al r := by
  intro i j e
  have hj := hr j (List.mem_of_getElem? e)
  unfold alOf
  rw [List.getElem?_map, e, Option.map_some, List.getD_eq_getElem?_getD, List.getElem?_eq_getElem hj]
  rfl
theorem denW_dn {al1 : List Addr} (em : Emb al1 al r) : ∀ {w' w : W} {v : V}, w'.up r = some w → (DenW K al1 S w' v ↔ DenW K al S w v)
  | .t x, w, v, e => by cases e; exact Iff.rfl
  | .h n, w, v, e => by
    unfold W.up at e
    dsimp only at e
    split at e
    · rename_i j ej
      cases e
      unfold DenW
      dsimp only
      rw [em n j ej]
    · cases e
theorem denWs_dn {al1 : List Addr} (em : Emb al1 al r) : ∀ {ws' ws : List W} {vs : List V}, ups r ws' = some ws → (Paired (DenW K al1 S) ws' vs ↔ Paired (DenW K al S) ws vs)
  | [], ws, vs, e => by
    cases e
    constructor
    · intro h; cases h; exact .nil
    · intro h; cases h; exact .nil
  | w' :: ws', ws, vs, e => by
    unfold ups at e
    split at e
    · rename_i w ws2 e1 e2
      cases e
      constructor
      · intro h
        cases h with
        | cons h1 h2 => exact .cons ((denW_dn em e1).mp h1) ((denWs_dn em e2).mp h2)
      · intro h
        cases h with
        | cons h1 h2 => exact .cons ((denW_dn em e1).mpr h1) ((denWs_dn em e2).mpr h2)
    · cases e
theorem cell_dn {al1 : List Addr} (em : Emb al1 al r) {c' c : Cell} {o : HO} (e : c'.up r = some c) : CellOk K al1 S c' o ↔ CellOk K al S c o := by
  cases c' with
  | lt ts => cases e; exact Iff.rfl
  | dt ks ts => cases e; exact Iff.rfl
  | lw ws =>
    unfold Cell.up at e
    dsimp only at e
    split at e
    · rename_i ws2 e2
      cases e
      exact ⟨fun ⟨vs, h, p⟩ => ⟨vs, h, (denWs_dn em e2).mp p⟩, fun ⟨vs, h, p⟩ => ⟨vs, h, (denWs_dn em e2).mpr p⟩⟩
    · cases e
  | tw ws =>
    unfold Cell.up at e
    dsimp only at e
    split at e
    · rename_i ws2 e2
      cases e
      exact ⟨fun ⟨vs, h, p⟩ => ⟨vs, h, (denWs_dn em e2).mp p⟩, fun ⟨vs, h, p⟩ => ⟨vs, h, (denWs_dn em e2).mpr p⟩⟩
    · cases e
  | dw ks ws =>
    unfold Cell.up at e
    dsimp only at e
    split at e
    · rename_i ws2 e2
      cases e
      have hl : ∀ {ws' ws : List W}, ups r ws' = some ws → ws'.length = ws.length := by
        intro ws'
        induction ws' with
        | nil => intro ws e; cases e; rfl
        | cons w' ws' ih =>
          intro ws e
          unfold ups at e
          split at e
          · rename_i w ws2 e1 e2
            cases e
            simp [ih e2]
          · cases e
      exact ⟨fun ⟨vs, h, l, p⟩ => ⟨vs, h, by rw [l, hl e2], (denWs_dn em e2).mp p⟩, fun ⟨vs, h, l, p⟩ => ⟨vs, h, by rw [l, hl e2], (denWs_dn em e2).mpr p⟩⟩
    · cases e
theorem nodup_get {r : List Nat} (h : r.Nodup) {i k j : Nat} (a : r[i]? = some j) (b : r[k]? = some j) : i = k := by
  obtain ⟨h1, e1⟩ := List.getElem?_eq_some_iff.mp a
  obtain ⟨h2, e2⟩ := List.getElem?_eq_some_iff.mp b
  exact (List.getElem_inj h).mp (e1.trans e2.symm)
/-- a part of the store by itself -/
theorem RepM.sub (R : RepM K al S F H m) {m2 : List Cell} (nd : r.Nodup) (hr : ∀ j ∈ r, j < m.length) (hl : r.length = m2.length)
    (hc : ∀ (i : Nat) (c' : Cell), m2[i]? = some c' → ∃ j c, r[i]? = some j ∧ c'.up r = some c ∧ m[j]? = some (some c)) : RepM K (alOf al r) S F H (m2.map some) := by
  have em : Emb (alOf al r) al r := emb_of fun j hj => by rw [R.len]; exact hr j hj
  have at2 : ∀ (n : Nat) (c : Cell), (m2.map some)[n]? = some (some c) → m2[n]? = some c := fun n c e => by
    rw [List.getElem?_map] at e
    cases q : m2[n]? with
    | none => rw [q] at e; cases e
    | some d => rw [q] at e; cases e; rfl
  refine ⟨R.same, R.fr, R.dis, by unfold alOf; simp [hl], fun n c e => ?_, fun n k c d a e1 e2 e3 e4 => ?_⟩
  · obtain ⟨j, c2, h1, h2, h3⟩ := hc n c (at2 n c e)
    obtain ⟨a, o, g1, g2, g3, g4, g5⟩ := R.cell j c2 h3
    exact ⟨a, o, by rw [em n j h1]; exact g1, g2, g3, g4, (cell_dn em h2).mpr g5⟩
  · obtain ⟨j, c2, h1, h2, h3⟩ := hc n c (at2 n c e1)
    obtain ⟨j', c3, h4, h5, h6⟩ := hc k d (at2 k d e2)
    rw [em n j h1] at e3
    rw [em k j' h4] at e4
    have := R.inj j j' c2 c3 a h3 h6 e3 e4
    subst this
    exact nodup_get nd h1 h4
end
/-! a def's contract: what is handed in (trees, and handles of the cells handed in), the cells; what is handed back, the cells behind, new cells -/
abbrev SC := List W → List Cell → (W → List Cell → List Cell → Prop) → Prop
def sps (K : PySem.W.Frag) (C : SC) : Sp := fun vs H Q _ => ∃ (al : List Addr) (S F : Hp) (m0 : List Cell) (ws : List W) (QC : W → List Cell → List Cell → Prop), RepM K al S F H (m0.map some) ∧ Paired (DenW K al S) ws vs ∧ C ws m0 QC ∧
  ∀ al2 S' H' m1 cs v w, RepM K (al ++ al2) S' F H' ((m1 ++ cs).map some) → m1.length = m0.length → Same S S' → DenW K (al ++ al2) S' w v → QC w m1 cs → Q v H'
/-- what the body hands back, as the contract tells it -/
def FinS (n0 : Nat) (QC : W → List Cell → List Cell → Prop) (w : W) (g : G) : Prop := ∃ (ks : List Nat) (m1 cs : List Cell) (w' : W), (List.range n0 ++ ks).Nodup ∧ (∀ j ∈ List.range n0 ++ ks, j < g.mem.length) ∧ w'.up (List.range n0 ++ ks) = some w ∧ m1.length = n0 ∧ cs.length = ks.length ∧
  (∀ (i : Nat) (c' : Cell), (m1 ++ cs)[i]? = some c' → ∃ j c, (List.range n0 ++ ks)[i]? = some j ∧ c'.up (List.range n0 ++ ks) = some c ∧ g.mem[j]? = some (some c)) ∧ QC w' m1 cs
theorem alOf_range {al al1 more : List Addr} {n0 : Nat} (h : al1 = al ++ more) (hl : al.length = n0) (ks : List Nat) : alOf al1 (List.range n0 ++ ks) = al ++ alOf al1 ks := by
  unfold alOf
  rw [List.map_append]
  congr 1
  refine List.ext_getElem? fun i => ?_
  rw [List.getElem?_map]
  by_cases hi : i < n0
  · rw [List.getElem?_range hi, Option.map_some, List.getD_eq_getElem?_getD, h, List.getElem?_append_left (by omega), List.getElem?_eq_getElem (by omega)]
    rfl
  · rw [List.getElem?_eq_none (by simpa using hi), List.getElem?_eq_none (by omega)]
    rfl
section
variable {P : Program} {w : World} {K : PySem.W.Frag} {mg : Str → Option Value} {base : Heap}
theorem sps_fin {al alF : List Addr} {S S' F H' : Hp} {g : G} {m0 : List Cell} {QC : W → List Cell → List Cell → Prop} {σ : L2.St} {u : W} {v : V} {Q : VK} (R : Rep K alF S' F H' σ g) (gr : Grow al S alF S') (hl : al.length = m0.length) (d : DenW K alF S' u v) (q : FinS m0.length QC u g)
    (k : ∀ al2 S' H' m1 cs v w, RepM K (al ++ al2) S' F H' ((m1 ++ cs).map some) → m1.length = m0.length → Same S S' → DenW K (al ++ al2) S' w v → QC w m1 cs → Q v H') : Q v H' := by
  obtain ⟨ks, m1, cs, u', nd, lt, hu, l1, l2, hc, q⟩ := q
  obtain ⟨⟨more, ea⟩, sS⟩ := gr
  have M := R.toRepM.sub (m2 := m1 ++ cs) nd lt (by simp [l1, l2]) hc
  have em : Emb (alOf alF (List.range m0.length ++ ks)) alF (List.range m0.length ++ ks) := emb_of fun j hj => by rw [R.len]; exact lt j hj
  have d' := (denW_dn (K := K) (S := S') (v := v) em hu).mpr d
  rw [alOf_range ea hl ks] at M d'
  exact k _ _ _ m1 cs v u' M l1 sS d' q
theorem start_rep {al : List Addr} {S F H : Hp} {m0 : Sto} {ws : List W} {vs : List V} {N : List Str} (M : RepM K al S F H m0) (d : Paired (DenW K al S) ws vs) : Rep K al S F H (L2.start N vs) ⟨ws.map some ++ List.replicate (N.length - ws.length) none, m0⟩ := by
  refine ⟨M, by unfold L2.start; simp [d.length], fun i u e => ?_⟩
  dsimp only at e
  rcases Nat.lt_or_ge i ws.length with hi | hi
  · rw [List.getElem?_append_left (by simpa using hi), List.getElem?_map] at e
    cases eu : ws[i]? with
    | none => rw [eu] at e; cases e
    | some u' =>
      rw [eu] at e; cases e
      obtain ⟨v, hv, dv⟩ := pget d eu
      refine ⟨v, ?_, dv⟩
      unfold L2.start
      rw [List.getElem?_append_left (by rw [List.length_map, ← d.length]; exact hi), List.getElem?_map, hv]
      rfl
  · rw [List.getElem?_append_right (by simpa using hi), List.getElem?_replicate] at e
    split at e <;> cases e
/-- THE RULE for a def's body -/
theorem dfn_ok {x qual : Str} {st : Stmt} {f : Addr} {fd : FuncData} {N ps : List Str} {k : Nat} {C : SC} (Fn : Fun K x qual st f fd) (Sc : FnScope N ps (defScope st)) (hlen : ∀ ws m Q, C ws m Q → ws.length = ps.length)
    (hb : ∀ (cdv : Value) (A : Around) (outer : List Env) (s : Shared) (H : Hp) (E : XK), Room k (A.deeper (PyProof.Rows.envOfC qual (defScope st) s.heap.objs.size f cdv)) →
      ∃ τ t, DSs (cxOf CX0 P w K mg base N qual (defScope st) f cdv A outer s H E).nox (defBody st) τ t ∧ ∀ ws m QC, C ws m QC → t ⟨FinS m.length QC (.t .non), FinS m.length QC, fun _ => False, fun _ => False⟩ ⟨ws.map some ++ List.replicate (N.length - ws.length) none, m.map some⟩) :
    FnOk P w K mg base CX0 (k + 1) f fd ps (sps K C) := by
  refine Fn.ok Sc (fun vs H Q E h => ?_) fun cdv A outer s H vs Q E hr h => ?_
  · obtain ⟨al, S, F, m0, ws, QC, _, d, c, _⟩ := h
    rw [← d.length]; exact hlen _ _ _ c
  · obtain ⟨al, S, F, m0, ws, QC, M, d, c, q⟩ := h
    obtain ⟨τ, t, D, ht⟩ := hb cdv A outer s H E hr
    refine ⟨τ, D.pe, ?_⟩
    have hl : al.length = m0.length := by rw [M.len, List.length_map]
    have R := start_rep (N := N) M d
    refine D.r al S F H _ _ _ _ R (ht ws m0 QC c) ⟨fun al' S' H' σ' g' R' gr' q' => ?_, fun al' S' H' σ' g' v u R' gr' d' q' => ?_, fun _ _ _ _ _ _ _ z => z.elim, fun _ _ _ _ _ _ _ z => z.elim⟩
    · exact sps_fin R' gr' hl (by unfold DenW Den; rfl) q' q
    · exact sps_fin R' gr' hl d' q' q
end
/-! the caller -/
def setAll (m : Sto) : List Nat → List Cell → Sto
  | j :: r, c :: cs => (setAll m r cs).set j (some c)
  | _, _ => m
theorem setAll_len (m : Sto) : ∀ (r : List Nat) (cs : List Cell), (setAll m r cs).length = m.length
  | [], _ => by unfold setAll; rfl
  | _ :: _, [] => by unfold setAll; rfl
  | j :: r, c :: cs => by unfold setAll; rw [List.length_set, setAll_len m r cs]
theorem setAll_out (m : Sto) {n : Nat} : ∀ (r : List Nat) (cs : List Cell), n ∉ r → (setAll m r cs)[n]? = m[n]?
  | [], _, _ => by unfold setAll; rfl
  | _ :: _, [], _ => by unfold setAll; rfl
  | j :: r, c :: cs, h => by
    unfold setAll
    rw [List.getElem?_set_ne (fun z => h (by subst z; simp)), setAll_out m r cs fun z => h (by simp [z])]
theorem setAll_in (m : Sto) : ∀ (r : List Nat) (cs : List Cell) {i j : Nat}, r.Nodup → (∀ j ∈ r, j < m.length) → r.length = cs.length → r[i]? = some j → ∃ c, cs[i]? = some c ∧ (setAll m r cs)[j]? = some (some c)
  | [], cs, i, j, _, _, _, h => by simp at h
  | _ :: _, [], i, j, _, _, hl, h => by simp at hl
  | j0 :: r, c :: cs, i, j, nd, lt, hl, h => by
    unfold setAll
    obtain ⟨n1, n2⟩ := List.nodup_cons.mp nd
    cases i with
    | zero =>
      simp at h
      subst h
      exact ⟨c, by simp, List.getElem?_set_self (by rw [setAll_len]; exact lt j0 (by simp))⟩
    | succ i =>
      obtain ⟨c', h1, h2⟩ := setAll_in m r cs (i := i) (j := j) n2 (fun j hj => lt j (by simp [hj])) (by simpa using hl) (by simpa using h)
      refine ⟨c', by simpa using h1, ?_⟩
      rw [List.getElem?_set_ne]
      · exact h2
      · intro z
        subst z
        exact n1 (List.mem_of_getElem? (by simpa using h))
/-- the general call: r tells which cells are handed in -/
def dCallS (C : SC) (t : DAt) : Dt := fun g Q => t g fun ws g1 => ∃ (r : List Nat) (m0 : List Cell) (ws0 : List W), r.Nodup ∧ r.length = m0.length ∧ ups r ws0 = some ws ∧
  (∀ (i : Nat) (c : Cell), m0[i]? = some c → ∃ j c', r[i]? = some j ∧ c.up r = some c' ∧ g1.mem[j]? = some (some c')) ∧
  C ws0 m0 fun w m1 cs => ∃ w' m1' cs', w.up (r ++ (List.range cs.length).map (g1.mem.length + ·)) = some w' ∧ cups (r ++ (List.range cs.length).map (g1.mem.length + ·)) m1 = some m1' ∧ cups (r ++ (List.range cs.length).map (g1.mem.length + ·)) cs = some cs' ∧
    Q w' ⟨g1.sl, setAll g1.mem r m1' ++ cs'.map some⟩
section
variable {K : PySem.W.Frag} {τs : TA} {ts : DAt}
open Classical in
/-- the cells that are not handed in lie still -/
noncomputable def frOf (al : List Addr) (F H : Hp) (m : Sto) (r : List Nat) : Hp := fun a => if (F a).isSome = true ∨ ∃ (n : Nat) (c : Cell), m[n]? = some (some c) ∧ n ∉ r ∧ al[n]? = some a then H a else none
theorem der_callS {C : SC} {E : XK} (h : DAr K τs ts) : DEr K (tCall (sps K C) [] E τs) (dCallS C ts) := by
  intro al S F H σ g Q QV R q k
  refine h al S F H σ g _ _ R q fun al1 S1 H1 g1 vs ws R1 gr1 e1 q1 => ?_
  rw [List.append_nil]
  obtain ⟨r, m0, ws0, nd, hl, hu, hc, q1⟩ := q1
  have lt : ∀ j ∈ r, j < g1.mem.length := fun j hj => by
    obtain ⟨i, hi⟩ := List.getElem?_of_mem hj
    have him : i < m0.length := by
      rw [← hl]
      exact (List.getElem?_eq_some_iff.mp hi).1
    obtain ⟨j', c', h1, h2, h3⟩ := hc i _ (List.getElem?_eq_getElem him)
    rw [hi] at h1; cases h1
    exact (List.getElem?_eq_some_iff.mp h3).1
  have em : Emb (alOf al1 r) al1 r := emb_of fun j hj => by rw [R1.len]; exact lt j hj
  have M0 := R1.toRepM.sub (m2 := m0) nd lt hl hc
  have hF : ∀ a u, F a = some u → frOf al1 F H1 g1.mem r a = some u := fun a u e => by
    unfold frOf
    rw [if_pos (.inl (by rw [e]; rfl))]
    exact R1.fr a u e
  have hN : ∀ a, frOf al1 F H1 g1.mem r a = none → F a = none := fun a e => by
    cases q : F a with
    | none => rfl
    | some u => rw [hF a u q] at e; cases e
  have M1 : RepM K (alOf al1 r) S1 (frOf al1 F H1 g1.mem r) H1 (m0.map some) := by
    refine ⟨M0.same, fun a u e => ?_, fun a u e => ?_, M0.len, fun n c e => ?_, M0.inj⟩
    · unfold frOf at e
      split at e
      · exact e
      · cases e
    · unfold frOf
      rw [if_neg]
      rintro (z | ⟨n, c, z1, z2, z3⟩)
      · rw [R1.dis a u e] at z; cases z
      · obtain ⟨a', o, g1', g2, g3, g4, g5⟩ := R1.cell n c z1
        rw [z3] at g1'; cases g1'
        rw [e] at g2; cases g2
    · obtain ⟨a, o, h1, h2, h3, h4, h5⟩ := M0.cell n c e
      refine ⟨a, o, h1, h2, ?_, h4, h5⟩
      unfold frOf
      rw [if_neg]
      rintro (z | ⟨n', c', z1, z2, z3⟩)
      · rw [h3] at z; cases z
      · have e' : m0[n]? = some c := by
          rw [List.getElem?_map] at e
          cases q : m0[n]? with
          | none => rw [q] at e; cases e
          | some d => rw [q] at e; cases e; rfl
        obtain ⟨j, c2, y1, y2, y3⟩ := hc n c e'
        rw [em n j y1] at h1
        have := R1.inj n' j c' c2 a z1 y3 z3 h1
        subst this
        exact z2 (List.mem_of_getElem? y1)
  refine ⟨alOf al1 r, S1, frOf al1 F H1 g1.mem r, m0, ws0, _, M1, (denWs_dn em hu).mpr e1, q1, fun al2 S2 H2 m1 cs v w M2 l2 sS d2 q2 => ?_⟩
  obtain ⟨w', m1', cs', hw, hm1, hcs, q2⟩ := q2
  have lA : (alOf al1 r).length = r.length := by unfold alOf; simp
  have l3 : al2.length = cs.length := by
    have := M2.len
    rw [List.length_append, lA, List.length_map, List.length_append, l2, hl] at this
    omega
  have em2 : Emb (alOf al1 r ++ al2) (al1 ++ al2) (r ++ (List.range cs.length).map (g1.mem.length + ·)) := by
    intro i j e
    rcases Nat.lt_or_ge i r.length with hi | hi
    · rw [List.getElem?_append_left hi] at e
      rw [List.getElem?_append_left (by rw [lA]; exact hi), em i j e, List.getElem?_append_left (by rw [R1.len]; exact lt j (List.mem_of_getElem? e))]
    · rw [List.getElem?_append_right hi, List.getElem?_map] at e
      cases q : (List.range cs.length)[i - r.length]? with
      | none => rw [q] at e; cases e
      | some z =>
        rw [q] at e
        have hz : i - r.length < cs.length := by
          have := (List.getElem?_eq_some_iff.mp q).1
          simpa using this
        rw [List.getElem?_range hz] at q
        cases q
        have e : g1.mem.length + (i - r.length) = j := Option.some.inj e
        subst e
        rw [List.getElem?_append_right (by rw [lA]; exact hi), List.getElem?_append_right (by rw [R1.len]; omega), lA, R1.len]
        congr 1
        omega
  have gr2 : Grow al1 S1 (al1 ++ al2) S2 := ⟨⟨al2, rfl⟩, sS⟩
  have lm : (setAll g1.mem r m1').length = g1.mem.length := setAll_len _ _ _
  have lm1 : r.length = m1'.length := by rw [cups_len hm1, l2, hl]
  have lcs : cs'.length = cs.length := cups_len hcs
  -- where a cell of the new store stands
  have whr : ∀ (n : Nat) (c : Cell), (setAll g1.mem r m1' ++ cs'.map some)[n]? = some (some c) → (n < g1.mem.length ∧ n ∉ r ∧ g1.mem[n]? = some (some c)) ∨ ∃ (i : Nat) (c0 : Cell), (m1 ++ cs)[i]? = some c0 ∧ c0.up (r ++ (List.range cs.length).map (g1.mem.length + ·)) = some c ∧ (r ++ (List.range cs.length).map (g1.mem.length + ·))[i]? = some n := fun n c e => by
    rcases Nat.lt_or_ge n g1.mem.length with hn | hn
    · rw [List.getElem?_append_left (by rw [lm]; exact hn)] at e
      by_cases hr : n ∈ r
      · obtain ⟨i, hi⟩ := List.getElem?_of_mem hr
        obtain ⟨c2, h1, h2⟩ := setAll_in g1.mem r m1' nd lt lm1 hi
        rw [e] at h2; cases h2
        have him : i < m1.length := by
          rw [l2, ← hl]
          exact (List.getElem?_eq_some_iff.mp hi).1
        obtain ⟨c3, h3, h4⟩ := cups_get hm1 (List.getElem?_eq_getElem him)
        rw [h1] at h3; cases h3
        refine .inr ⟨i, _, by rw [List.getElem?_append_left him]; exact List.getElem?_eq_getElem him, h4, ?_⟩
        rw [List.getElem?_append_left (List.getElem?_eq_some_iff.mp hi).1]
        exact hi
      · rw [setAll_out _ _ _ hr] at e
        exact .inl ⟨hn, hr, e⟩
    · rw [List.getElem?_append_right (by rw [lm]; exact hn), lm, List.getElem?_map] at e
      cases q : cs'[n - g1.mem.length]? with
      | none => rw [q] at e; cases e
      | some d =>
        rw [q] at e; cases e
        have hi : n - g1.mem.length < cs.length := by
          rw [← lcs]
          exact (List.getElem?_eq_some_iff.mp q).1
        obtain ⟨c3, h3, h4⟩ := cups_get hcs (List.getElem?_eq_getElem hi)
        rw [q] at h3; cases h3
        refine .inr ⟨r.length + (n - g1.mem.length), _, ?_, h4, ?_⟩
        · rw [List.getElem?_append_right (by rw [l2, ← hl]; omega), show r.length + (n - g1.mem.length) - m1.length = n - g1.mem.length by rw [l2, ← hl]; omega]
          exact List.getElem?_eq_getElem hi
        · rw [List.getElem?_append_right (by omega), show r.length + (n - g1.mem.length) - r.length = n - g1.mem.length by omega, List.getElem?_map, List.getElem?_range hi, Option.map_some]
          congr 1
          omega
  have at2 : ∀ (i : Nat) (c0 : Cell), (m1 ++ cs)[i]? = some c0 → ((m1 ++ cs).map some)[i]? = some (some c0) := fun i c0 e => by rw [List.getElem?_map, e]; rfl
  have frz : ∀ (n : Nat) (c : Cell) (a : Addr) , n ∉ r → g1.mem[n]? = some (some c) → al1[n]? = some a → ∃ o, H1 a = some o ∧ frOf al1 F H1 g1.mem r a = some o ∧ S1 a = none ∧ F a = none ∧ CellOk K al1 S1 c o := fun n c a hn e ea => by
    obtain ⟨a', o, g1', g2, g3, g4, g5⟩ := R1.cell n c e
    rw [ea] at g1'; cases g1'
    refine ⟨o, g4, ?_, g2, g3, g5⟩
    unfold frOf
    rw [if_pos (.inr ⟨n, c, e, hn, ea⟩)]
    exact g4
  have M3 : RepM K (al1 ++ al2) S2 F H2 (setAll g1.mem r m1' ++ cs'.map some) := by
    refine ⟨M2.same, fun a u e => M2.fr a u (hF a u e), fun a u e => hN a (M2.dis a u e), ?_, fun n c e => ?_, fun n n' c c' a e1 e2 e3 e4 => ?_⟩
    · rw [List.length_append, List.length_append, lm, List.length_map, lcs, R1.len, l3]
    · rcases whr n c e with ⟨hn, hr, e'⟩ | ⟨i, c0, h1, h2, h3⟩
      · have ha : ∃ a, al1[n]? = some a := ⟨_, List.getElem?_eq_getElem (by rw [R1.len]; exact hn)⟩
        obtain ⟨a, ea⟩ := ha
        obtain ⟨o, y1, y2, y3, y4, y5⟩ := frz n c a hr e' ea
        refine ⟨a, o, gr2.get ea, ?_, y4, M2.fr a o y2, y5.grow gr2⟩
        cases q : S2 a with
        | none => rfl
        | some u => have := M2.dis a u q; rw [y2] at this; cases this
      · obtain ⟨a, o, y1, y2, y3, y4, y5⟩ := M2.cell i c0 (at2 i c0 h1)
        exact ⟨a, o, by rw [← em2 i n h3]; exact y1, y2, hN a y3, y4, (cell_dn em2 h2).mp y5⟩
    · rcases whr n c e1 with ⟨hn, hr, e'⟩ | ⟨i, c0, h1, h2, h3⟩
      · have ea1 : al1[n]? = some a := by rw [List.getElem?_append_left (by rw [R1.len]; exact hn)] at e3; exact e3
        rcases whr n' c' e2 with ⟨hn', hr', e''⟩ | ⟨i, c0, h1, h2, h3⟩
        · have ea2 : al1[n']? = some a := by rw [List.getElem?_append_left (by rw [R1.len]; exact hn')] at e4; exact e4
          exact R1.inj n n' c c' a e' e'' ea1 ea2
        · obtain ⟨o, y1, y2, y3, y4, y5⟩ := frz n c a hr e' ea1
          obtain ⟨a', o', z1, z2, z3, z4, z5⟩ := M2.cell i c0 (at2 i c0 h1)
          rw [em2 i n' h3, e4] at z1; cases z1
          rw [y2] at z3; cases z3
      · rcases whr n' c' e2 with ⟨hn', hr', e''⟩ | ⟨i', c0', h1', h2', h3'⟩
        · have ea2 : al1[n']? = some a := by rw [List.getElem?_append_left (by rw [R1.len]; exact hn')] at e4; exact e4
          obtain ⟨o, y1, y2, y3, y4, y5⟩ := frz n' c' a hr' e'' ea2
          obtain ⟨a', o', z1, z2, z3, z4, z5⟩ := M2.cell i c0 (at2 i c0 h1)
          rw [em2 i n h3, e3] at z1; cases z1
          rw [y2] at z3; cases z3
        · have := M2.inj i i' c0 c0' a (at2 i c0 h1) (at2 i' c0' h1') (by rw [em2 i n h3]; exact e3) (by rw [em2 i' n' h3']; exact e4)
          subst this
          rw [h3] at h3'
          exact Option.some.inj h3'
  exact k _ _ _ _ _ w' (R1.withM2 gr2 M3) (gr1.trans gr2) ((denW_dn em2 hw).mp d2) q2
/-! pure defs: trees in, a tree or a fresh cell out -/
inductive R0 where
  | t (x : T) | f (c : Cell)
abbrev PC := List T → (R0 → Prop) → Prop
def PC.s (C : PC) : SC := fun ws m QC => ∃ ts, treesW ws = some ts ∧ m = [] ∧ C ts fun r => match r with
  | .t t => QC (.t t) [] []
  | .f c => QC (.h 0) [] [c]
def Cell.plain : Cell → Bool
  | .lt _ => true
  | .dt _ _ => true
  | _ => false
theorem up_plain {c : Cell} (h : c.plain = true) (r : List Nat) : c.up r = some c := by
  cases c <;> first | rfl | cases h
/-- a fresh cell handed back is taken as a tree -/
def dCallT (C : PC) (t : DAt) : Dt := fun g Q => t g fun ws g1 => match treesW ws with
  | some ts => C ts fun r => match r with
    | .t t => Q (.t t) g1
    | .f c => (match c.tree with | some t => Q (.t t) g1 | none => False)
  | none => False
/-- .. as a cell -/
def dCallH (C : PC) (t : DAt) : Dt := fun g Q => t g fun ws g1 => match treesW ws with
  | some ts => C ts fun r => match r with
    | .t t => Q (.t t) g1
    | .f c => c.plain = true ∧ Q (.h g1.mem.length) (g1.push c)
  | none => False
theorem ups_trees : ∀ {ws : List W} {ts : List T}, treesW ws = some ts → ups [] ws = some ws
  | [], _, _ => rfl
  | .t x :: ws, ts, e => by
    unfold treesW at e
    cases q : treesW ws with
    | none => rw [q] at e; cases e
    | some us =>
      unfold ups
      rw [ups_trees q]
      rfl
  | .h n :: ws, ts, e => by cases e
/-- the caller's own part behind a call that was handed no cell -/
theorem RepM.back {al : List Addr} {S S' F H H' : Hp} {m : Sto} (R : RepM K al S F H m) (sS : Same S S') (h1 : Same S' H') (h2 : Same (frOf al F H m []) H') (h3 : ∀ a o, S' a = some o → frOf al F H m [] a = none) : RepM K al S' F H' m := by
  have hF : ∀ a u, F a = some u → frOf al F H m [] a = some u := fun a u e => by
    unfold frOf
    rw [if_pos (.inl (by rw [e]; rfl))]
    exact R.fr a u e
  refine ⟨h1, fun a u e => h2 a u (hF a u e), fun a u e => ?_, R.len, fun n c e => ?_, R.inj⟩
  · cases q : F a with
    | none => rfl
    | some v => have := h3 a u e; rw [hF a v q] at this; cases this
  · obtain ⟨a, o, g1, g2, g3, g4, g5⟩ := R.cell n c e
    have q : frOf al F H m [] a = some o := by
      unfold frOf
      rw [if_pos (.inr ⟨n, c, e, by simp, g1⟩)]
      exact g4
    refine ⟨a, o, g1, ?_, g3, h2 a o q, g5.grow ⟨⟨[], by simp⟩, sS⟩⟩
    cases q2 : S' a with
    | none => rfl
    | some u => have := h3 a u q2; rw [q] at this; cases this
theorem RepM.none0 {al : List Addr} {S F H : Hp} {m : Sto} (R : RepM K al S F H m) : RepM K [] S (frOf al F H m []) H (([] : List Cell).map some) := by
  refine ⟨R.same, fun a u e => ?_, fun a u e => ?_, rfl, fun n c e => by simp at e, fun n k c d a e => by simp at e⟩
  · unfold frOf at e
    split at e
    · exact e
    · cases e
  · unfold frOf
    rw [if_neg]
    rintro (z | ⟨n, c, z1, z2, z3⟩)
    · rw [R.dis a u e] at z; cases z
    · obtain ⟨a', o, g1', g2, g3, g4, g5⟩ := R.cell n c z1
      rw [z3] at g1'; cases g1'
      rw [e] at g2; cases g2
theorem treesW_eq : ∀ {ws : List W} {ts : List T}, treesW ws = some ts → ws = ts.map W.t
  | [], _, e => by cases e; rfl
  | .h n :: ws, _, e => by cases e
  | .t x :: ws, ts, e => by
    unfold treesW at e
    cases q : treesW ws with
    | none => rw [q] at e; cases e
    | some us =>
      rw [q] at e
      cases e
      rw [treesW_eq q]
      rfl
theorem denW_trees {al al' : List Addr} {S : Hp} : ∀ {ws : List W} {ts : List T} {vs : List V}, treesW ws = some ts → Paired (DenW K al S) ws vs → Paired (DenW K al' S) ws vs
  | [], _, _, _, h => by cases h; exact .nil
  | .t x :: ws, ts, vs, e, h => by
    unfold treesW at e
    cases q : treesW ws with
    | none => rw [q] at e; cases e
    | some us =>
      cases h with
      | cons h1 h2 => exact .cons h1 (denW_trees q h2)
  | .h n :: ws, ts, vs, e, h => by cases e
theorem der_callT {C : PC} {E : XK} (h : DAr K τs ts) : DEr K (tCall (sps K C.s) [] E τs) (dCallT C ts) := by
  intro al S F H σ g Q QV R q k
  refine h al S F H σ g _ _ R q fun al1 S1 H1 g1 vs ws R1 gr1 e1 q1 => ?_
  rw [List.append_nil]
  split at q1
  · rename_i us eu
    refine ⟨[], S1, frOf al1 F H1 g1.mem [], [], ws, fun w m1 cs => match w, cs with | .t t, [] => Q (.t t) g1 | .h 0, [c] => (match c.tree with | some t => Q (.t t) g1 | none => False) | _, _ => False, R1.toRepM.none0, denW_trees eu e1, ⟨us, eu, rfl, ?_⟩, fun al2 S2 H2 m1 cs v w M2 l2 sS d2 q2 => ?_⟩
    · have e : (fun r : R0 => match r with | .t t => Q (.t t) g1 | .f c => (match c.tree with | some t => Q (.t t) g1 | none => False)) = (fun r : R0 => match r with | .t t => (fun (w : W) (m1 cs : List Cell) => match w, cs with | .t t, [] => Q (.t t) g1 | .h 0, [c] => (match c.tree with | some t => Q (.t t) g1 | none => False) | _, _ => False) (.t t) [] [] | .f c => (fun (w : W) (m1 cs : List Cell) => match w, cs with | .t t, [] => Q (.t t) g1 | .h 0, [c] => (match c.tree with | some t => Q (.t t) g1 | none => False) | _, _ => False) (.h 0) [] [c]) := by
        funext r
        cases r <;> rfl
      rw [← e]
      exact q1
    · rw [List.nil_append] at M2 d2
      have lm : m1 = [] := List.length_eq_zero_iff.mp l2
      subst lm
      split at q2
      · rename_i t
        exact k _ _ _ _ _ (.t t) (R1.withM2 ⟨⟨[], by simp⟩, sS⟩ (R1.toRepM.back sS M2.same M2.fr M2.dis)) (gr1.trans ⟨⟨[], by simp⟩, sS⟩) d2 q2
      · rename_i c
        split at q2
        · rename_i t et
          obtain ⟨a, o, S3, h1, rfl, h3, M3, gr3, h4⟩ := M2.frz (n := 0) (c := c) rfl
          obtain ⟨a', ha, rfl⟩ := d2
          rw [h1] at ha; cases ha
          have dt : Den K (upd S2 a o) t (.ref a) := by
            cases c with
            | lt ts =>
              cases et
              obtain ⟨vs, rfl, h5⟩ := h3
              unfold Den
              exact ⟨a, vs, rfl, h4, Dens.iff.mpr (Denp.grow gr3.s h5)⟩
            | dt ks ts =>
              cases et
              obtain ⟨vs, rfl, h5, h6⟩ := h3
              unfold Den
              exact ⟨a, vs, rfl, h4, h5, Dens.iff.mpr (Denp.grow gr3.s h6)⟩
            | _ => cases et
          have sS' := sS.trans gr3.s
          exact k _ _ _ _ _ (.t t) (R1.withM2 ⟨⟨[], by simp⟩, sS'⟩ (R1.toRepM.back sS' M3.same M3.fr M3.dis)) (gr1.trans ⟨⟨[], by simp⟩, sS'⟩) dt q2
        · exact q2.elim
      · exact q2.elim
  · exact q1.elim
theorem der_callH {C : PC} {E : XK} (h : DAr K τs ts) : DEr K (tCall (sps K C.s) [] E τs) (dCallH C ts) := by
  intro al S F H σ g Q QV R q k
  refine h al S F H σ g _ _ R q fun al1 S1 H1 g1 vs ws R1 gr1 e1 q1 => ?_
  rw [List.append_nil]
  split at q1
  · rename_i us eu
    refine ⟨[], S1, frOf al1 F H1 g1.mem [], [], ws, fun w m1 cs => match w, cs with | .t t, [] => Q (.t t) g1 | .h 0, [c] => c.plain = true ∧ Q (.h g1.mem.length) (g1.push c) | _, _ => False, R1.toRepM.none0, denW_trees eu e1, ⟨us, eu, rfl, ?_⟩, fun al2 S2 H2 m1 cs v w M2 l2 sS d2 q2 => ?_⟩
    · have e : (fun r : R0 => match r with | .t t => Q (.t t) g1 | .f c => c.plain = true ∧ Q (.h g1.mem.length) (g1.push c)) = (fun r : R0 => match r with | .t t => (fun (w : W) (m1 cs : List Cell) => match w, cs with | .t t, [] => Q (.t t) g1 | .h 0, [c] => c.plain = true ∧ Q (.h g1.mem.length) (g1.push c) | _, _ => False) (.t t) [] [] | .f c => (fun (w : W) (m1 cs : List Cell) => match w, cs with | .t t, [] => Q (.t t) g1 | .h 0, [c] => c.plain = true ∧ Q (.h g1.mem.length) (g1.push c) | _, _ => False) (.h 0) [] [c]) := by
        funext r
        cases r <;> rfl
      rw [← e]
      exact q1
    · rw [List.nil_append] at M2 d2
      have lm : m1 = [] := List.length_eq_zero_iff.mp l2
      subst lm
      split at q2
      · rename_i t
        exact k _ _ _ _ _ (.t t) (R1.withM2 ⟨⟨[], by simp⟩, sS⟩ (R1.toRepM.back sS M2.same M2.fr M2.dis)) (gr1.trans ⟨⟨[], by simp⟩, sS⟩) d2 q2
      · rename_i c
        obtain ⟨hp, q2⟩ := q2
        obtain ⟨a, o, h1, h2, h3, h4, h5⟩ := M2.cell 0 c rfl
        obtain ⟨a', ha, rfl⟩ := d2
        rw [h1] at ha; cases ha
        have M4 := R1.toRepM.back sS M2.same M2.fr M2.dis
        have h6 : CellOk K (al1 ++ [a]) S2 c o := by
          cases c with
          | lt ts => exact h5
          | dt ks ts => exact h5
          | _ => cases hp
        have nF : F a = none := by
          cases q : F a with
          | none => rfl
          | some u =>
            unfold frOf at h3
            rw [if_pos (.inl (by rw [q]; rfl))] at h3
            have := R1.fr a u q
            rw [this] at h3; cases h3
        -- the cell as a framed thing, then a cell
        have M5 : RepM K al1 S2 (upd F a o) H2 g1.mem := by
          refine ⟨M4.same, fun b u e => ?_, fun b u e => ?_, M4.len, fun n c' e => ?_, M4.inj⟩
          · by_cases hb : b = a
            · subst hb; rw [upd_same] at e; cases e; exact h4
            · rw [upd_ne hb] at e; exact M4.fr b u e
          · rw [upd_ne (fun z => by subst z; rw [h2] at e; cases e)]; exact M4.dis b u e
          · obtain ⟨b, o', y1, y2, y3, y4, y5⟩ := M4.cell n c' e
            refine ⟨b, o', y1, y2, ?_, y4, y5⟩
            rw [upd_ne]
            · exact y3
            · intro z
              subst z
              have : frOf al1 F H1 g1.mem [] b ≠ none := by
                obtain ⟨b', o2, z1, z2, z3, z4, z5⟩ := R1.cell n c' e
                rw [y1] at z1; cases z1
                unfold frOf
                rw [if_pos (.inr ⟨n, c', e, by simp, y1⟩), z4]
                simp
              exact this h3
        obtain ⟨M6, gr6⟩ := M5.frC (c := c) nF h6
        have gr : Grow al1 S1 (al1 ++ [a]) S2 := ⟨⟨[a], rfl⟩, sS⟩
        refine k _ _ _ _ _ (.h g1.mem.length) (R1.withM2 gr M6) (gr1.trans gr) ⟨a, ?_, rfl⟩ q2
        rw [List.getElem?_append_right (by rw [R1.len]; exact Nat.le_refl _), R1.len]; simp
      · exact q2.elim
  · exact q1.elim
end
section
variable {X : Cx} {e : Expr} {es : List Expr} {τs : TA} {ts : DAt} {pos : Pos}
theorem de_callS {k : Nat} {f : Addr} {fd : FuncData} {ps : List Str} {C : SC} {x : Str} {p : Pos} (F : FnOk X.prog X.w X.K X.mg X.base CX0 k f fd ps (sps X.K C)) (hr : Room k X.A) (hm : X.mg x = some (.ref f)) (hk : PySem.W.keepIn X.K (.ref f) = true) (hb : Binds X.K fd ps [])
    (ha : DA X (e :: es) τs ts) (hg : Gl X x := by rfl) (hdb : (x == ("__debug__" : Str)) = false := by decide) (he : starEach (e :: es) X.env = (false, eval e X.env) :: starEach es X.env := by rfl) (hpl : (backTo pos (starEach es X.env)).any (·.1) = false := by rfl) :
    DE X (.Call (.Name x p) (e :: es) [] pos) (tCall (sps X.K C) [] E0 τs) (dCallS C ts) :=
  ⟨pe_call F hr hg hm hk hb .nil pass0 ha.pe hdb he hpl, der_callS ha.r⟩
theorem de_callT {k : Nat} {f : Addr} {fd : FuncData} {ps : List Str} {C : PC} {x : Str} {p : Pos} (F : FnOk X.prog X.w X.K X.mg X.base CX0 k f fd ps (sps X.K C.s)) (hr : Room k X.A) (hm : X.mg x = some (.ref f)) (hk : PySem.W.keepIn X.K (.ref f) = true) (hb : Binds X.K fd ps [])
    (ha : DA X (e :: es) τs ts) (hg : Gl X x := by rfl) (hdb : (x == ("__debug__" : Str)) = false := by decide) (he : starEach (e :: es) X.env = (false, eval e X.env) :: starEach es X.env := by rfl) (hpl : (backTo pos (starEach es X.env)).any (·.1) = false := by rfl) :
    DE X (.Call (.Name x p) (e :: es) [] pos) (tCall (sps X.K C.s) [] E0 τs) (dCallT C ts) :=
  ⟨pe_call F hr hg hm hk hb .nil pass0 ha.pe hdb he hpl, der_callT ha.r⟩
theorem de_callH {k : Nat} {f : Addr} {fd : FuncData} {ps : List Str} {C : PC} {x : Str} {p : Pos} (F : FnOk X.prog X.w X.K X.mg X.base CX0 k f fd ps (sps X.K C.s)) (hr : Room k X.A) (hm : X.mg x = some (.ref f)) (hk : PySem.W.keepIn X.K (.ref f) = true) (hb : Binds X.K fd ps [])
    (ha : DA X (e :: es) τs ts) (hg : Gl X x := by rfl) (hdb : (x == ("__debug__" : Str)) = false := by decide) (he : starEach (e :: es) X.env = (false, eval e X.env) :: starEach es X.env := by rfl) (hpl : (backTo pos (starEach es X.env)).any (·.1) = false := by rfl) :
    DE X (.Call (.Name x p) (e :: es) [] pos) (tCall (sps X.K C.s) [] E0 τs) (dCallH C ts) :=
  ⟨pe_call F hr hg hm hk hb .nil pass0 ha.pe hdb he hpl, der_callH ha.r⟩
end
/-! the ends of a pure def's body -/
def FinP (C : R0 → Prop) : W → G → Prop := fun w g => match w with
  | .t t => C (.t t)
  | .h n => match g.mem[n]? with | some (some c) => c.plain = true ∧ C (.f c) | _ => False
theorem finP_s {C : R0 → Prop} {QC : W → List Cell → List Cell → Prop} (hC : ∀ r, C r → match r with | .t t => QC (.t t) [] [] | .f c => QC (.h 0) [] [c]) {w : W} {g : G} (h : FinP C w g) : FinS 0 QC w g := by
  unfold FinP at h
  split at h
  · rename_i t
    exact ⟨[], [], [], .t t, by simp, by simp, rfl, rfl, rfl, fun i c e => by simp at e, hC _ h⟩
  · rename_i n
    split at h
    · rename_i c em
      obtain ⟨hp, h⟩ := h
      have hn : n < g.mem.length := (List.getElem?_eq_some_iff.mp em).1
      refine ⟨[n], [], [c], .h 0, by simp, by simpa using hn, rfl, rfl, rfl, fun i c' e => ?_, hC _ h⟩
      cases i with
      | zero =>
        simp at e
        subst e
        exact ⟨n, c, rfl, up_plain hp _, em⟩
      | succ i => simp at e
    · exact h.elim
section
variable {P : Program} {w : World} {K : PySem.W.Frag} {mg : Str → Option Value} {base : Heap}
/-- THE RULE for a pure def -/
theorem pfn_ok {x qual : Str} {st : Stmt} {f : Addr} {fd : FuncData} {N ps : List Str} {k : Nat} {C : PC} (Fn : Fun K x qual st f fd) (Sc : FnScope N ps (defScope st)) (hlen : ∀ ts Q, C ts Q → ts.length = ps.length)
    (hb : ∀ (cdv : Value) (A : Around) (outer : List Env) (s : Shared) (H : Hp) (E : XK), Room k (A.deeper (PyProof.Rows.envOfC qual (defScope st) s.heap.objs.size f cdv)) →
      ∃ τ t, DSs (cxOf CX0 P w K mg base N qual (defScope st) f cdv A outer s H E).nox (defBody st) τ t ∧ ∀ ts Q, C ts Q → t ⟨FinP Q (.t .non), FinP Q, fun _ => False, fun _ => False⟩ ⟨ts.map (fun t => some (W.t t)) ++ List.replicate (N.length - ts.length) none, []⟩) :
    FnOk P w K mg base CX0 (k + 1) f fd ps (sps K C.s) := by
  refine Fn.ok Sc (fun vs H Q E h => ?_) fun cdv A outer s H vs Q E hr h => ?_
  · obtain ⟨al, S, F, m0, ws, QC, _, d, ⟨ts, e, _, c⟩, _⟩ := h
    rw [← d.length, treesW_eq e, List.length_map]
    exact hlen _ _ c
  · obtain ⟨al, S, F, m0, ws, QC, M, d, ⟨ts, e, rfl, c⟩, q⟩ := h
    obtain ⟨τ, t, D, ht⟩ := hb cdv A outer s H E hr
    refine ⟨τ, D.pe, ?_⟩
    have hl : al.length = ([] : List Cell).length := by rw [M.len, List.length_map]
    have R := start_rep (N := N) M d
    have ew := treesW_eq e
    subst ew
    have hw : (ts.map W.t).map some = ts.map (fun t => some (W.t t)) := by rw [List.map_map]; rfl
    rw [hw, List.length_map] at R
    have q0 := ht ts _ c
    refine D.r al S F H _ _ _ _ R q0 ⟨fun al' S' H' σ' g' R' gr' q' => ?_, fun al' S' H' σ' g' v u R' gr' d' q' => ?_, fun _ _ _ _ _ _ _ z => z.elim, fun _ _ _ _ _ _ _ z => z.elim⟩
    · exact sps_fin (u := .t .non) (QC := QC) R' gr' hl (by unfold DenW Den; rfl) (finP_s (C := fun r => match r with | .t t => QC (.t t) [] [] | .f c => QC (.h 0) [] [c]) (fun r hr => hr) q') q
    · exact sps_fin (QC := QC) R' gr' hl d' (finP_s (C := fun r => match r with | .t t => QC (.t t) [] [] | .f c => QC (.h 0) [] [c]) (fun r hr => hr) q') q
end
end DL

namespace DL
open PySem PySem.Spec L2

section
variable {X : Cx} {a b e : Expr} {τa τb τe : TE} {ta tb te : Dt} {pos : Pos} {es : List Expr} {τs : TA} {ts : DAt}
def fNeg : F1 := fun g x Q => match x with | .t (.int i) => Q (.t (.int (-i))) g | _ => False
def fRep : F2 := fun g x y Q => match g.seqL? x, y with
  | some xs, .t (.int k) => (-(2 ^ 63) ≤ k ∧ k < 2 ^ 63 ∧ xs.length * k.toNat ≤ sizeLine) ∧ Q (.t (.lst (List.replicate k.toNat xs).flatten)) g
  | _, _ => False
theorem prep {α β : Type} {F : α → β → Prop} {xs : List α} {ys : List β} (p : Paired F xs ys) : ∀ n : Nat, Paired F (List.replicate n xs).flatten (List.replicate n ys).flatten
  | 0 => .nil
  | n + 1 => by
    rw [List.replicate_succ, List.replicate_succ, List.flatten_cons, List.flatten_cons]
    exact papp p (prep p n)
theorem op2_rep {K : PySem.W.Frag} : Op2 K rRep fRep := by
  intro al S F H σ g x y wx wy Q QV R dx dy q k
  unfold fRep at q
  split at q
  · rename_i xs z ex
    obtain ⟨a, vs, rfl, h1, h2⟩ := R.viewL dx ex
    unfold DenW Den at dy
    refine ⟨a, z, vs, rfl, dy, h1, q.1.1, q.1.2.1, by rw [← h2.length]; exact q.1.2.2, fun p np => ?_⟩
    obtain ⟨R1, gr, d⟩ := R.layL np (prep h2 z.toNat)
    exact k _ _ _ _ _ _ R1 gr d q.2
  · exact q.elim
theorem de_rep (ha : DE X a τa ta) (hb : DE X b τb tb) : DE X (.BinOp a .Mult b pos) (tOp rRep τa τb) (d2 fRep ta tb) := de_op op_rep op2_rep ha hb
/-- lists of handles put together: a new cell -/
def G.wl? (g : G) (w : W) : Option (List W) := match g.cell? w with | some (.lt ts) => some (ts.map W.t) | some (.lw ws) => some ws | _ => none
theorem Rep.viewWl {K : PySem.W.Frag} {al : List Addr} {S F H : Hp} {σ : L2.St} {g : G} (R : Rep K al S F H σ g) {w : W} {v : V} {ws : List W} (d : DenW K al S w v) (e : g.wl? w = some ws) : ∃ a vs, v = .ref a ∧ H a = some (.lst vs) ∧ Paired (DenW K al S) ws vs := by
  unfold G.wl? at e
  split at e
  · rename_i ts q
    cases e
    obtain ⟨a, o, h1, h2, vs, rfl, h3⟩ := R.view d q
    exact ⟨a, vs, h1, h2, (pmapL W.t).mpr h3⟩
  · rename_i ts q
    cases e
    obtain ⟨a, o, h1, h2, vs, rfl, h3⟩ := R.view d q
    exact ⟨a, vs, h1, h2, h3⟩
  · cases e
def fAddW : F2 := fun g x y Q => match g.wl? x, g.wl? y with
  | some xs, some ys => xs.length + ys.length ≤ sizeLine ∧ Q (.h g.mem.length) (g.push (.lw (xs ++ ys)))
  | _, _ => False
theorem op2_addW {K : PySem.W.Frag} : Op2 K rCat fAddW := by
  intro al S F H σ g x y wx wy Q QV R dx dy q k
  unfold fAddW at q
  split at q
  · rename_i xs ys ex ey
    obtain ⟨a, vs, rfl, h1, h2⟩ := R.viewWl dx ex
    obtain ⟨b, us, rfl, h3, h4⟩ := R.viewWl dy ey
    refine ⟨a, b, vs, us, rfl, rfl, h1, h3, by rw [← h2.length, ← h4.length]; exact q.1, fun p np => ?_⟩
    obtain ⟨R1, gr, d⟩ := R.pushC (c := .lw (xs ++ ys)) (o := .lst (vs ++ us)) np ⟨_, rfl, DenWs.grow ⟨⟨[p], rfl⟩, Same.refl _⟩ (papp h2 h4)⟩
    exact k _ _ _ _ _ _ R1 gr d q.2
  · exact q.elim
theorem de_addW (ha : DE X a τa ta) (hb : DE X b τb tb) : DE X (.BinOp a .Add b pos) (tOp rCat τa τb) (d2 fAddW ta tb) := de_op op_cat op2_addW ha hb
/-- xs[::-1] -/
def fRev : F1 := fun g x Q => match g.lq? x with | some ts => Q (.t (.lst ts.reverse)) g | none => False
theorem de_rev {k : Nat} {p1 p2 p3 : Pos} (ha : DE X a τa ta) : DE X (.Subscript a (.Slice none none (some (.UnaryOp .USub (.Constant (.int 1) k p1) p2)) p3) pos) (tRevL X.K τa) (d1 fRev ta) := by
  refine ⟨pe_revL ha.pe, fun al S F H σ g Q QV R q k => ?_⟩
  refine ha.r al S F H σ g _ _ R q fun al1 S1 H1 g1 v1 w1 R1 gr1 e1 q1 => ?_
  unfold fRev at q1
  split at q1
  · rename_i us eu
    obtain ⟨a, vs, rfl, h1, h2⟩ := R1.viewQ e1 eu
    refine ⟨a, vs, rfl, h1, fun p np => ?_⟩
    obtain ⟨R2, gr2, d2⟩ := R1.layL np (prev h2)
    exact k _ _ _ _ _ _ R2 (gr1.trans gr2) d2 q1
  · exact q1.elim
/-- slices as new cells -/
def dSlH (t : Dt) (l u : DOt) : Dt := fun g Q => t g fun x g1 => l g1 fun lo g2 => u g2 fun hi g3 => match g3.lq? x with
  | some ts => Q (.h g3.mem.length) (g3.push (.lt (cut ts lo hi)))
  | none => False
theorem de_slH {lo hi : Option Expr} {τl τh : TO} {tl th : DOt} {p2 : Pos} (ha : DE X a τa ta) (hl : DO X lo τl tl) (hh : DO X hi τh th) : DE X (.Subscript a (.Slice lo hi none p2) pos) (tSl (rSlL X.K) τa τl τh) (dSlH ta tl th) := by
  refine ⟨pe_slice sl_list ha.pe hl.pe hh.pe, fun al S F H σ g Q QV R q k => ?_⟩
  refine ha.r al S F H σ g _ _ R q fun al1 S1 H1 g1 v1 w1 R1 gr1 e1 q1 => ?_
  refine hl.r al1 S1 F H1 σ g1 _ _ R1 q1 fun al2 S2 H2 g2 b2 R2 gr2 q2 => ?_
  refine hh.r al2 S2 F H2 σ g2 _ _ R2 q2 fun al3 S3 H3 g3 b3 R3 gr3 q3 => ?_
  split at q3
  · rename_i ts e
    obtain ⟨a, vs, rfl, h1, h2⟩ := R3.viewQ (e1.grow (gr2.trans gr3)) e
    refine ⟨a, vs, rfl, h1, fun p np => ?_⟩
    have hp : Paired (Den X.K S3) (cut ts b2 b3) (cutV vs b2 b3) := by
      unfold cut cutV
      rw [h2.length]
      exact ptake _ (pdrop _ h2)
    obtain ⟨R4, gr4, d⟩ := R3.pushC (c := .lt (cut ts b2 b3)) (o := .lst (cutV vs b2 b3)) np ⟨_, rfl, hp⟩
    exact k _ _ _ _ _ _ R4 (gr1.trans (gr2.trans (gr3.trans gr4))) d q3
  · exact q3.elim
/-- a written dict: a new cell -/
structure DP (X : Cx) (pos : Pos) (keys : List (Option Expr)) (values : List Expr) (trs : List (TE × TE)) (ts : List (Dt × Dt)) : Prop where
  pe : PPs X pos keys values trs
  r : ∀ (al : List Addr) (S F H : Hp) (σ : L2.St) (g : G) (Q : List (Key × T) → G → Prop) (QV : List (V × V) → Hp → Prop), Rep X.K al S F H σ g → (ts.foldr (fun (p : Dt × Dt) (r : G → (List (Key × T) → G → Prop) → Prop) => fun g Q => p.1 g fun w g1 => match w with | .t kt => (match keyT kt with | some k => p.2 g1 fun w2 g2 => (match w2 with | .t x => r g2 fun ps g3 => Q ((k, x) :: ps) g3 | _ => False) | none => False) | _ => False) (fun g Q => Q [] g)) g Q →
    (∀ al' S' H' g' ps (kvs : List (Key × V)), Rep X.K al' S' F H' σ g' → Grow al S al' S' → Paired (fun (p : Key × T) (q : Key × V) => p.1 = q.1 ∧ Den X.K S' p.2 q.2) ps kvs → Q ps g' → QV (kvs.map fun kv => (kV kv.1, kv.2)) H') → tPairs trs σ H QV
theorem dp_nil : DP X pos [] [] [] [] := ⟨pps_nil, fun al S F H σ g Q QV R q k => k al S H g [] [] R (Grow.refl _ _) .nil q⟩
theorem dp_cons {ks : List (Option Expr)} {vs : List Expr} {trs : List (TE × TE)} {us : List (Dt × Dt)} (ha : DE X a τa ta) (hb : DE X b τb tb) (hr : DP X pos ks vs trs us) : DP X pos (some a :: ks) (b :: vs) ((τa, τb) :: trs) ((ta, tb) :: us) := by
  refine ⟨pps_cons ha.pe hb.pe hr.pe, fun al S F H σ g Q QV R q k => ?_⟩
  rw [List.foldr_cons] at q
  refine ha.r al S F H σ g _ _ R q fun al1 S1 H1 g1 v1 w1 R1 gr1 e1 q1 => ?_
  split at q1
  · split at q1
    · rename_i kt key ek
      have ev := key_den ek e1
      subst ev
      refine hb.r al1 S1 F H1 σ g1 _ _ R1 q1 fun al2 S2 H2 g2 v2 w2 R2 gr2 e2 q2 => ?_
      split at q2
      · rename_i x
        refine hr.r al2 S2 F H2 σ g2 _ _ R2 q2 fun al3 S3 H3 g3 ps kvs R3 gr3 pr q3 => ?_
        have dx : Den X.K S3 x v2 := Den.mono gr3.s x v2 e2
        exact k al3 S3 H3 g3 _ ((key, v2) :: kvs) R3 (gr1.trans (gr2.trans gr3)) (.cons ⟨rfl, dx⟩ pr) q3
      · exact q2.elim
    · exact q1.elim
  · exact q1.elim
def mergeT (ps : List (Key × T)) (acc : List Key × List T) : List Key × List T := ps.foldl (fun acc p => (putKs acc.1 p.1, putXs acc.1 acc.2 p.1 p.2)) acc
def dDisp (us : List (Dt × Dt)) : Dt := fun g Q => (us.foldr (fun (p : Dt × Dt) (r : G → (List (Key × T) → G → Prop) → Prop) => fun g Q => p.1 g fun w g1 => match w with | .t kt => (match keyT kt with | some k => p.2 g1 fun w2 g2 => (match w2 with | .t x => r g2 fun ps g3 => Q ((k, x) :: ps) g3 | _ => False) | none => False) | _ => False) (fun g Q => Q [] g)) g fun ps g' =>
  ps.length ≤ 15 ∧ Q (.h g'.mem.length) (g'.push (.dt (mergeT ps ([], [])).1 (mergeT ps ([], [])).2))
theorem merge_zip {K : PySem.W.Frag} {S : Hp} : ∀ {ps : List (Key × T)} {kvs : List (Key × V)} {ks : List Key} {us : List T} {vs : List V}, Paired (fun (p : Key × T) (q : Key × V) => p.1 = q.1 ∧ Den K S p.2 q.2) ps kvs → ks.length = us.length → Paired (Den K S) us vs →
    ∃ vs', mergeK (ks.zip vs) kvs = (mergeT ps (ks, us)).1.zip vs' ∧ (mergeT ps (ks, us)).1.length = (mergeT ps (ks, us)).2.length ∧ Paired (Den K S) (mergeT ps (ks, us)).2 vs'
  | [], _, ks, us, vs, .nil, hl, p => ⟨vs, rfl, hl, p⟩
  | q :: ps, kv :: kvs, ks, us, vs, .cons ⟨h1, h2⟩ t, hl, p => by
    obtain ⟨k1, x⟩ := q
    obtain ⟨k2, v⟩ := kv
    cases h1
    have hv : ks.length = vs.length := by rw [hl, p.length]
    have ih := merge_zip (ks := putKs ks k1) (us := putXs ks us k1 x) (vs := putXs ks vs k1 v) t (putX_len hl) (putX_pair h2 p)
    unfold mergeK at ih ⊢
    rw [List.foldl_cons]
    dsimp only
    rw [putK_zip hv]
    exact ih
theorem de_disp {keys : List (Option Expr)} {values : List Expr} {trs : List (TE × TE)} {us : List (Dt × Dt)} (h : DP X pos keys values trs us) (hall : keys.all (·.isSome) = true) (hl : keys.length = values.length) (h0 : keys ≠ [])
    (h15 : keys.length ≤ 15) : DE X (.Dict keys values pos) (tDisp trs) (dDisp us) := by
  refine ⟨pe_disp h.pe hall hl h0 h15, fun al S F H σ g Q QV R q k => fun p np => ?_⟩
  have nF : F p = none := R.fr.free np
  have R1 : Rep X.K al S (upd F p (.dK [])) (upd H p (.dK [])) σ g := ⟨R.toRepM.frNew np, R.slen, R.slot⟩
  refine h.r al S _ _ σ g _ _ R1 q fun al1 S1 H1 g1 ps kvs R2 gr2 pr q2 => ?_
  have eD : H1 p = some (.dK []) := R2.fr _ _ upd_same
  refine ⟨eD, kvs, rfl, by rw [← pr.length]; exact q2.1, ?_⟩
  obtain ⟨vs', h1, h2, h3⟩ := merge_zip (ks := []) (us := []) (vs := []) pr rfl .nil
  have h1 : mergeK [] kvs = (mergeT ps ([], [])).1.zip vs' := h1
  rw [h1]
  have R3 := R2.toRepM.frPut (o' := .dK ((mergeT ps ([], [])).1.zip vs'))
  obtain ⟨M, gr3⟩ := R3.frC (c := .dt (mergeT ps ([], [])).1 (mergeT ps ([], [])).2) nF ⟨vs', rfl, h2, h3⟩
  refine k _ _ _ _ _ (.h g1.mem.length) (R2.withM2 gr3 M) (gr2.trans gr3) ⟨p, ?_, rfl⟩ q2.2
  rw [List.getElem?_append_right (by rw [R2.len]; exact Nat.le_refl _), R2.len]; simp
/-- a, b = x, y -/
def dPar (i j : Nat) (t : DAt) : DSt := fun D g => t g fun ws g1 => match ws with | [u, v] => D.nx ((g1.set i u).set j v) | _ => False
theorem ds_par (i j : Nat) {x y : Str} {px py pt : Pos} {kt k2 pt2} (hN : X.N.Nodup) (ha : DA X [a, b] τs ts) (hc : X.calm = true := by rfl) (hi : X.N[i]? = some x := by rfl) (hj : X.N[j]? = some y := by rfl) (hij : i ≠ j := by decide)
    (hx : X.env.scope.names.lookup x = some .local := by rfl) (hy : X.env.scope.names.lookup y = some .local := by rfl)
    (hw : swappedStores [.Tuple [.Name x px, .Name y py] kt pt] (.Tuple [a, b] k2 pt2) X.env = pure (some [x, y]) := by rfl)
    (hs : swapsWithSole [.Tuple [.Name x px, .Name y py] kt pt] (.Tuple [a, b] k2 pt2) pos.line X.env = pure false := by rfl) :
    DS X (.Assign [.Tuple [.Name x px, .Name y py] kt pt] (.Tuple [a, b] k2 pt2) pos) (tPar i j τs) (dPar i j ts) := by
  refine ⟨ps_par hc hN hi hj hij hx hy ha.pe hw hs, fun al S F H σ g D DV R q k => ?_⟩
  refine ha.r al S F H σ g _ _ R q fun al1 S1 H1 g1 vs ws R1 gr1 e1 q1 => ?_
  unfold dPar at q
  split at q1
  · rename_i u v
    obtain ⟨vu, vv, rfl, d1, d2⟩ := p2 e1
    exact ⟨vu, vv, rfl, k.nx _ _ _ _ _ ((R1.setSlot d1).setSlot d2) gr1 q1⟩
  · exact q1.elim
/-- d[k] += e, ints -/
def dDaug (f : Int → Int → Int) (td ty tv : Dt) : DSt := fun D g => td g fun o g1 => ty g1 fun y g2 => match o, y with
  | .h n, .t ky => (match keyT ky with
    | some k => (match g2.mem[n]? with
      | some (some (.dt ks ts)) => (match look ks ts k with
        | some (.int z) => tv g2 fun w g3 => (match w with | .t (.int d) => g3.mem[n]? = some (some (.dt ks ts)) ∧ ks.length < sizeLine ∧ D.nx (g3.put n (.dt (putKs ks k) (putXs ks ts k (.int (f z d))))) | _ => False)
        | _ => False)
      | _ => False)
    | none => False)
  | _, _ => False
theorem ds_daug {o i : Expr} {τd τy : TE} {td ty : Dt} {tpos : Pos} {op : Operator} {f : Int → Int → Int} {rd : V → V → Hp → VK → Prop} {kk : Nat} (hr : Room kk X.A) (hop : InOp X op (fun x y H Q => ∃ i j, x = .int i ∧ y = .int j ∧ Q (.int (f i j)) H)) (ho : DE X o τd td) (hi : DE X i τy ty) (hv : DE X e τe te)
    (ha : ∀ ov iv new, augStore i ov iv new = (do holding [new, ov, iv] (setItem ov iv new); release [new, ov, iv] []; pure .next) := by intros; rfl) :
    DS X (.AugAssign (.Subscript o i tpos) op e pos) (sDAug τd τy τe (fun x y H Q => ∃ i j, x = .int i ∧ y = .int j ∧ Q (.int (f i j)) H)) (dDaug f td ty te) := by
  refine ⟨ps_daug (hu_of hr) ho.pe hi.pe hv.pe hop ha, fun al S F H σ g D DV R q k => ?_⟩
  refine ho.r al S F H σ g _ _ R q fun al1 S1 H1 g1 v1 w1 R1 gr1 e1 q1 => ?_
  refine hi.r al1 S1 F H1 σ g1 _ _ R1 q1 fun al2 S2 H2 g2 v2 w2 R2 gr2 e2 q2 => ?_
  split at q2
  · rename_i n ky
    split at q2
    · rename_i key ek
      have ev := key_den ek e2
      subst ev
      split at q2
      · rename_i ks ts em
        split at q2
        · rename_i z ez
          obtain ⟨p, o, rfl, ea, h1, vs, rfl, h2, h3⟩ := R2.cellH (e1.grow gr2) em
          obtain ⟨v, h4, h5⟩ := look_some h3 ez
          unfold Den at h5
          subst h5
          refine ⟨p, .int z, rfl, ?_, ?_⟩
          · rw [← h4]; exact DGet.k h1
          · refine hv.r al2 S2 F H2 σ g2 _ _ R2 q2 fun al3 S3 H3 g3 v3 w3 R3 gr3 e3 q3 => ?_
            split at q3
            · rename_i d
              unfold DenW Den at e3
              obtain ⟨em3, hz, q3⟩ := q3
              obtain ⟨p', o', ep, ea', h1', vs', rfl, h2', h3'⟩ := R3.cellH (e1.grow (gr2.trans gr3)) em3
              cases ep
              have hl : ks.length = vs'.length := by rw [h2', h3'.length]
              refine ⟨z, d, rfl, e3, _, DPut.k h1' (by rw [List.length_zip, ← hl, Nat.min_self]; exact hz), ?_⟩
              rw [putK_zip hl]
              exact k.nx _ _ _ _ _ (R3.putC (c := .dt (putKs ks key) (putXs ks ts key (.int (f z d)))) em3 ea' ⟨_, rfl, putX_len h2', putX_pair (denI _) h3'⟩) (gr1.trans (gr2.trans gr3)) q3
            · exact q3.elim
        · exact q2.elim
      · exact q2.elim
    · exact q2.elim
  · exact q2.elim
/-- xs[i], by values -/
theorem get_list : PGet X (rIxL X.K) := by
  intro pins s σ H x y v u Q I rx ry h
  obtain ⟨p, xs, i, z, rfl, rfl, hq, he, q⟩ := h
  cases rx
  obtain ⟨t, rfl⟩ := ry
  obtain ⟨its, r, pl, hz⟩ := I.list hq
  obtain ⟨j, h1, h2, h3, h4, h5⟩ := atI_get he
  obtain ⟨w, ew, rw'⟩ := r.get h2
  have hl := r.length
  have hn := line63
  have fin : EP X pins σ Q w s := ⟨z, H, I, rw', q⟩
  by_cases h0 : 0 ≤ i
  · have hj : i.toNat = j := by
      rw [seqIndex_of h0 h5] at h1
      exact Option.some.inj h1
    exact wpAny_getItem_list pl.isList h0 (by omega) (by rw [hj]; simpa using ew) fin
  · have hj : (i + (its.toArray.size : Int)).toNat = j := by
      rw [seqIndex_neg (by omega) h4] at h1
      rw [List.size_toArray, ← hl]
      exact Option.some.inj h1
    exact wpAny_getItem_list_neg pl.isList (by omega) (by rw [List.size_toArray] <;> omega) (by omega) (by rw [hj]; simpa using ew) fin
/-- xs[i] += e, ints -/
def dLaug (f : Int → Int → Int) (td ty tv : Dt) : DSt := fun D g => td g fun o g1 => ty g1 fun y g2 => match o, y with
  | .h n, .t (.int i) => (match g2.mem[n]? with
    | some (some (.lt ts)) => ∃ j z, ixN ts.length i = some j ∧ ts[j]? = some (.int z) ∧ tv g2 fun w g3 => (match w with | .t (.int d) => g3.mem[n]? = some (some (.lt ts)) ∧ D.nx (g3.put n (.lt (ts.set j (.int (f z d))))) | _ => False)
    | _ => False)
  | _, _ => False
theorem ds_laug {o i : Expr} {τd τy : TE} {td ty : Dt} {tpos : Pos} {op : Operator} {f : Int → Int → Int} (hop : PIp X op (ipI f)) (ho : DE X o τd td) (hi : DE X i τy ty) (hv : DE X e τe te)
    (ha : ∀ ov iv new, augStore i ov iv new = (do holding [new, ov, iv] (setItem ov iv new); release [new, ov, iv] []; pure .next) := by intros; rfl) :
    DS X (.AugAssign (.Subscript o i tpos) op e pos) (tAugS τd τy τe (rIxL X.K) (ipI f) rSetL) (dLaug f td ty te) := by
  refine ⟨ps_augS ho.pe hi.pe get_list hv.pe hop set_list ha, fun al S F H σ g D DV R q k => ?_⟩
  refine ho.r al S F H σ g _ _ R q fun al1 S1 H1 g1 v1 w1 R1 gr1 e1 q1 => ?_
  refine hi.r al1 S1 F H1 σ g1 _ _ R1 q1 fun al2 S2 H2 g2 v2 w2 R2 gr2 e2 q2 => ?_
  split at q2
  · rename_i n z
    unfold DenW Den at e2
    subst e2
    split at q2
    · rename_i ts em
      obtain ⟨j, y, hj, hy, q2⟩ := q2
      obtain ⟨p, o, rfl, ea, h1, vs, rfl, h2⟩ := R2.cellH (e1.grow gr2) em
      have ha : atI ts z = some (.int y) := by unfold atI; rw [hj]; exact hy
      obtain ⟨v, h4, h5⟩ := patI h2 ha
      unfold Den at h5
      subst h5
      refine ⟨p, vs, z, .int y, rfl, rfl, .inl (.inl h1), h4, ?_⟩
      refine hv.r al2 S2 F H2 σ g2 _ _ R2 q2 fun al3 S3 H3 g3 v3 w3 R3 gr3 e3 q3 => ?_
      split at q3
      · rename_i d
        unfold DenW Den at e3
        obtain ⟨em3, q3⟩ := q3
        obtain ⟨p', o', ep, ea', h1', vs', rfl, h2'⟩ := R3.cellH (e1.grow (gr2.trans gr3)) em3
        cases ep
        refine ⟨y, d, rfl, e3, p, vs', z, j, rfl, rfl, h1', by rw [← h2'.length]; exact hj, ?_⟩
        exact k.nx _ _ _ _ _ (R3.putC (c := .lt (ts.set j (.int (f y d)))) (o := .lst (vs'.set j (.int (f y d)))) em3 ea' ⟨_, rfl, pset (denI _) j h2'⟩) (gr1.trans (gr2.trans gr3)) q3
      · exact q3.elim
    · exact q2.elim
  · exact q2.elim
/-- a, b = a list -/
def dgList (n : Nat) (t : DGst) : DGt := fun w g Q => match g.lq? w with | some ts => ts.length = n ∧ t ts g Q | none => False
theorem dg_list {es : List Expr} {kk : Nat} {ps : Pos} {τ1 : TGs} {t1 : DGst} {n : Nat} (hc : X.calm = true) (h : DGs X es τ1 t1)
    (hn : (assignEach es X.env).length = n := by rfl) (hst : (assignEach es X.env).findIdx? (·.1) = none := by rfl) : DG X (.Tuple es kk ps) (gUnl X.K n τ1) (dgList n t1) := by
  refine ⟨pg_unl hc h.pe hn hst, fun al S F H σ g v w Q QV R d q k => ?_⟩
  unfold dgList at q
  split at q
  · rename_i ts e
    obtain ⟨p, vs, rfl, h1, h2⟩ := R.viewQ d e
    exact ⟨p, vs, rfl, h1, by rw [← h2.length]; exact q.1, h.r al S F H σ g vs ts Q QV R h2 q.2 k⟩
  · exact q.elim
theorem cg_list {es : List Expr} {kk : Nat} {ps : Pos} {τ1 : TGs} {t1 : DGst} {n : Nat} {vs : List Nat} (hc : X.calm = true) (h : CGs X es τ1 t1 vs)
    (hn : (assignEach es X.env).length = n := by rfl) (hst : (assignEach es X.env).findIdx? (·.1) = none := by rfl) : CG X (.Tuple es kk ps) (gUnl X.K n τ1) (dgList n t1) vs := by
  refine ⟨pg_unl hc h.pe hn hst, fun al S F H σ g v w Q QV R d q k => ?_⟩
  unfold dgList at q
  split at q
  · rename_i ts e
    obtain ⟨p, vs, rfl, h1, h2⟩ := R.viewQ d e
    exact ⟨p, vs, rfl, h1, by rw [← h2.length]; exact q.1, h.r al S F H σ g vs ts Q QV R h2 q.2 k⟩
  · exact q.elim
end
/-! what stands in the module -/
structure Bi (mg : Str → Option Value) : Prop where
  h_len : mg "len" = none
  h_range : mg "range" = none
  h_sum : mg "sum" = none
  h_min : mg "min" = none
  h_max : mg "max" = none
  h_all : mg "all" = none
  h_any : mg "any" = none
  h_abs : mg "abs" = none
  h_isinstance : mg "isinstance" = none
  h_int : mg "int" = none
  h_bool : mg "bool" = none
  h_list : mg "list" = none
  h_tuple : mg "tuple" = none
  h_str : mg "str" = none
  h_dict : mg "dict" = none
  h_sorted : mg "sorted" = none
  h_zip : mg "zip" = none
  h_enumerate : mg "enumerate" = none
structure Ow (K : PySem.W.Frag) (mg : Str → Option Value) (x : Str) (st : Stmt) (ps : List Str) : Prop where
  ex : ∃ f fd, Fun K x x st f fd ∧ mg x = some (.ref f) ∧ Binds K fd ps []
structure Kn (P : Program) (w : World) (K : PySem.W.Frag) (mg : Str → Option Value) (base : Heap) (k : Nat) (x : Str) (ps : List Str) (C : SC) : Prop where
  ex : ∃ f fd, FnOk P w K mg base CX0 k f fd ps (sps K C) ∧ mg x = some (.ref f) ∧ PySem.W.keepIn K (.ref f) = true ∧ Binds K fd ps []
theorem Kn.mono {P : Program} {w : World} {K : PySem.W.Frag} {mg : Str → Option Value} {base : Heap} {j k : Nat} {x : Str} {ps : List Str} {C : SC} (h : Kn P w K mg base j x ps C) (hk : j ≤ k) : Kn P w K mg base k x ps C := by
  obtain ⟨f, fd, a, b, c, d⟩ := h.ex
  exact ⟨f, fd, a.mono hk, b, c, d⟩
end DL

namespace DL
open PySem PySem.Spec L2
section
variable {X : Cx} {a b e : Expr} {τa τb τe : TE} {ta tb te : Dt} {pos : Pos}
/-- x + y, lists into a new cell -/
def fCatH : F2 := fun g x y Q => match g.seqL? x, g.seqL? y with
  | some xs, some ys => xs.length + ys.length ≤ sizeLine ∧ Q (.h g.mem.length) (g.push (.lt (xs ++ ys)))
  | _, _ => False
theorem op2_catH {K : PySem.W.Frag} : Op2 K rCat fCatH := by
  intro al S F H σ g x y wx wy Q QV R dx dy q k
  unfold fCatH at q
  split at q
  · rename_i xs ys ex ey
    obtain ⟨a, vs, rfl, h1, h2⟩ := R.viewL dx ex
    obtain ⟨b, us, rfl, h3, h4⟩ := R.viewL dy ey
    refine ⟨a, b, vs, us, rfl, rfl, h1, h3, by rw [← h2.length, ← h4.length]; exact q.1, fun p np => ?_⟩
    obtain ⟨R1, gr, d⟩ := R.pushC (c := .lt (xs ++ ys)) (o := .lst (vs ++ us)) np ⟨_, rfl, papp h2 h4⟩
    exact k _ _ _ _ _ _ R1 gr d q.2
  · exact q.elim
def fAddH : F2 := fun g x y Q => match x with
  | .t (.int _) => fI0 (fun i j => .int (i + j)) g x y Q
  | .t (.str _) => fAddS g x y Q
  | _ => fCatH g x y Q
theorem de_addH (ha : DE X a τa ta) (hb : DE X b τb tb) : DE X (.BinOp a .Add b pos) (tOp rAddA τa τb) (d2 fAddH ta tb) :=
  de_op (op_add.or (op_cat.or op_add_str)) (((op2_I0 fun _ _ _ => denI _).or (op2_catH.or op2_addS)).imp fun g x y Q h => by
    unfold fAddH at h
    split at h
    · exact .inl h
    · exact .inr (.inr h)
    · exact .inr (.inl h)) ha hb
def fRevH : F1 := fun g x Q => match g.lq? x with | some ts => Q (.h g.mem.length) (g.push (.lt ts.reverse)) | none => False
theorem de_revH {k : Nat} {p1 p2 p3 : Pos} (ha : DE X a τa ta) : DE X (.Subscript a (.Slice none none (some (.UnaryOp .USub (.Constant (.int 1) k p1) p2)) p3) pos) (tRevL X.K τa) (d1 fRevH ta) := by
  refine ⟨pe_revL ha.pe, fun al S F H σ g Q QV R q k => ?_⟩
  refine ha.r al S F H σ g _ _ R q fun al1 S1 H1 g1 v1 w1 R1 gr1 e1 q1 => ?_
  unfold fRevH at q1
  split at q1
  · rename_i us eu
    obtain ⟨a, vs, rfl, h1, h2⟩ := R1.viewQ e1 eu
    refine ⟨a, vs, rfl, h1, fun p np => ?_⟩
    obtain ⟨R2, gr2, d2⟩ := R1.pushC (c := .lt us.reverse) (o := .lst vs.reverse) np ⟨_, rfl, prev h2⟩
    exact k _ _ _ _ _ _ R2 (gr1.trans gr2) d2 q1
  · exact q1.elim
end
/-! readings of loops, in common forms -/
/-- a comprehension whose parts change nothing -/
theorem lcP {g1 : G} {gt : DGt} {tt : DTt} {te : Dt} {vs : List Nat} {fin : Fin3} {Q : W → G → Prop} {ws : List W} {St : G → Prop} {ι : Type} (items : List ι) (enc : ι → W) (keep : ι → Bool) (out : ι → T) (hws : ws = items.map enc) (hlen : items.length ≤ sizeLine) (hSt : St (g1.wipe vs))
    (hel : ∀ x ∈ items, ∀ (Y : W → G → Prop) (N : G → Prop), (keep x = true → ∀ g4, g4.wipe vs = g1.wipe vs → Y (.t (out x)) g4) → (keep x = false → ∀ g3, g3.wipe vs = g1.wipe vs → N g3) → gt (enc x) (g1.wipe vs) fun g2 => tt g2 fun b g3 => if b = true then te g3 Y else N g3)
    (hw : (g1.wipe vs).wipe vs = g1.wipe vs) (hQ : fin (((items.filter keep).map out).map W.t) ((g1.wipe vs).rs g1 vs) Q) :
    ∃ I : Nat → List W → G → Prop, I 0 [] (g1.wipe vs) ∧ (∀ i acc g', I i acc g' → St g' ∧ acc.length ≤ i) ∧
      (∀ i acc w g', ws[i]? = some w → I i acc g' → gt w g' fun g2 => tt g2 fun b g3 => if b = true then te g3 fun y g4 => I (i + 1) (acc ++ [y]) (g4.wipe vs) else I (i + 1) acc (g3.wipe vs)) ∧
      ws.length ≤ sizeLine ∧ (∀ acc g', I ws.length acc g' → fin acc (g'.rs g1 vs) Q) := by
  subst hws
  refine ⟨fun i acc g' => acc = ((((items.take i).filter keep).map out).map W.t) ∧ g' = g1.wipe vs, ⟨rfl, rfl⟩, ?_, ?_, by simpa using hlen, ?_⟩
  · rintro i acc g' ⟨rfl, rfl⟩
    refine ⟨hSt, ?_⟩
    rw [List.length_map, List.length_map]
    exact Nat.le_trans (List.length_filter_le _ _) (by rw [List.length_take]; exact Nat.min_le_left _ _)
  · rintro i acc w g' hw' ⟨rfl, rfl⟩
    rw [List.getElem?_map] at hw'
    cases e : items[i]? with
    | none => rw [e] at hw'; cases hw'
    | some x =>
      rw [e] at hw'
      cases hw'
      refine hel x (List.mem_of_getElem? e) _ _ (fun hk g4 h4 => ⟨?_, h4⟩) (fun hk g3 h3 => ⟨?_, h3⟩)
      · rw [List.take_add_one, e, List.filter_append, List.map_append, List.map_append]
        simp [hk]
      · rw [List.take_add_one, e, List.filter_append, List.map_append, List.map_append]
        simp [hk]
  · rintro acc g' ⟨rfl, rfl⟩
    rw [List.length_map, List.take_length]
    exact hQ
/-- a loop that goes through all its turns -/
theorem forP {D : De} {g1 : G} {gt : DGt} {tb : DSt} {ws : List W} {St : G → Prop} {ι β : Type} (items : List ι) (enc : ι → W) (step : β → ι → β) (R : β → G → Prop) (b0 : β) (hws : ws = items.map enc) (h0 : R b0 g1) (hSt : ∀ b g, R b g → St g)
    (hstep : ∀ pre x post, items = pre ++ x :: post → ∀ g', R (pre.foldl step b0) g' → ∀ N : G → Prop, (∀ g'', R (step (pre.foldl step b0) x) g'' → N g'') → gt (enc x) g' fun g2 => tb { D with nx := N, ct := N, bk := D.nx } g2)
    (hQ : ∀ g', R (items.foldl step b0) g' → D.nx g') :
    ∃ I : Nat → G → Prop, I 0 g1 ∧ (∀ i g', I i g' → St g') ∧ (∀ i w g', ws[i]? = some w → I i g' → gt w g' fun g2 => tb { D with nx := I (i + 1), ct := I (i + 1), bk := D.nx } g2) ∧ (∀ g', I ws.length g' → D.nx g') := by
  subst hws
  refine ⟨fun i g' => R ((items.take i).foldl step b0) g', h0, fun i g' h => hSt _ _ h, fun i w g' hw h => ?_, fun g' h => ?_⟩
  · rw [List.getElem?_map] at hw
    cases e : items[i]? with
    | none => rw [e] at hw; cases hw
    | some x =>
      rw [e] at hw
      cases hw
      have hi : i < items.length := (List.getElem?_eq_some_iff.mp e).1
      have hx : items[i] = x := (List.getElem?_eq_some_iff.mp e).2
      have hsp : items = items.take i ++ x :: items.drop (i + 1) := by
        rw [← hx, List.getElem_cons_drop, List.take_append_drop]
      refine hstep _ x _ hsp g' h _ fun g'' h'' => ?_
      show R (List.foldl step b0 (List.take (i + 1) items)) g''
      rw [List.take_add_one, e, List.foldl_append]
      exact h''
  · rw [List.length_map, List.take_length] at h
    exact hQ g' h
theorem rgW_map (lo : Int) (n : Nat) : rgW lo n = (List.range n).map fun k => W.t (.int (lo + (k : Nat))) := rfl
theorem rgW0 (n : Nat) : rgW 0 n = (List.range n).map fun k => W.t (.int (k : Nat)) := by
  unfold rgW
  congr 1
  funext k
  rw [Int.zero_add]
/-- places in lists -/
theorem atI_lt {α : Type} {xs : List α} {j : Nat} (h : j < xs.length) : atI xs (j : Int) = some xs[j] := atI_nat (List.getElem?_eq_getElem h)
theorem atI_map {α β : Type} (f : α → β) {xs : List α} {i : Int} {x : α} (h : atI xs i = some x) : atI (xs.map f) i = some (f x) := by
  unfold atI at h ⊢
  rw [List.length_map]
  cases e : ixN xs.length i with
  | none => rw [e] at h; cases h
  | some j =>
    rw [e] at h
    have h : xs[j]? = some x := h
    show (xs.map f)[j]? = some (f x)
    rw [List.getElem?_map, h]
    rfl
theorem atI_getD {α : Type} (d : α) {xs : List α} {j : Nat} (h : j < xs.length) : atI xs (j : Int) = some (xs.getD j d) := by
  rw [atI_lt h, List.getD_eq_getElem?_getD, List.getElem?_eq_getElem h]
  rfl
theorem lineLe {n : Nat} (h : n ≤ 10000) : n ≤ sizeLine := Nat.le_trans h (by rw [sizeLine_eq]; decide)
theorem lineLt {n : Nat} (h : n ≤ 10000) : n < sizeLine := Nat.lt_of_le_of_lt h (by rw [sizeLine_eq]; decide)
end DL

namespace DL
open PySem PySem.Spec L2
/-! what a value must be -/
def onB (w : W) (P : Bool → Prop) : Prop := match w with | .t (.bl b) => P b | _ => False
def onI (w : W) (P : Int → Prop) : Prop := match w with | .t (.int b) => P b | _ => False
def onTs (ws : List W) (P : List T → Prop) : Prop := match treesW ws with | some us => P us | none => False
def onT (r : R0) (P : T → Prop) : Prop := match r with | .t t => P t | .f c => (match c.tree with | some t => P t | none => False)
def onH (g : G) (r : R0) (Q : W → G → Prop) : Prop := match r with | .t t => Q (.t t) g | .f c => c.plain = true ∧ Q (.h g.mem.length) (g.push c)
def onI1 (ws : List W) (P : Int → Prop) : Prop := match ws with | [.t (.int j)] => P j | _ => False
def onI2 (ws : List W) (P : Int → Int → Prop) : Prop := match ws with | [.t (.int i), .t (.int j)] => P i j | _ => False
def onW2 (ws : List W) (P : W → W → Prop) : Prop := match ws with | [u, v] => P u v | _ => False
def onLq (g : G) (w : W) (P : List W → (G → Prop) → Prop) : Prop := match g.lq? w with
  | some ts => P (ts.map W.t) (fun g' => g'.lq? w = some ts)
  | none => (match g.wseq? w with | some ws => P ws (fun g' => g'.wseq? w = some ws) | none => False)
theorem o_B {b : Bool} {P : Bool → Prop} (h : P b) : onB (.t (.bl b)) P := h
theorem o_I {b : Int} {P : Int → Prop} (h : P b) : onI (.t (.int b)) P := h
theorem o_Ts {ws : List W} {us : List T} {P : List T → Prop} (e : treesW ws = some us) (h : P us) : onTs ws P := by unfold onTs; rw [e]; exact h
theorem o_T {t : T} {P : T → Prop} (h : P t) : onT (.t t) P := h
theorem o_TF {c : Cell} {t : T} {P : T → Prop} (e : c.tree = some t) (h : P t) : onT (.f c) P := by unfold onT; dsimp only; rw [e]; exact h
theorem o_H {t : T} {g : G} {Q : W → G → Prop} (h : Q (.t t) g) : onH g (.t t) Q := h
theorem o_HF {c : Cell} {g : G} {Q : W → G → Prop} (e : c.plain = true) (h : Q (.h g.mem.length) (g.push c)) : onH g (.f c) Q := ⟨e, h⟩
theorem o_I1 {j : Int} {P : Int → Prop} (h : P j) : onI1 [.t (.int j)] P := h
theorem o_I2 {i j : Int} {P : Int → Int → Prop} (h : P i j) : onI2 [.t (.int i), .t (.int j)] P := h
theorem o_W2 {u v : W} {P : W → W → Prop} (h : P u v) : onW2 [u, v] P := h
theorem o_Lq {g : G} {w : W} {us : List T} {P : List W → (G → Prop) → Prop} (e : g.lq? w = some us) (h : P (us.map W.t) (fun g' => g'.lq? w = some us)) : onLq g w P := by unfold onLq; rw [e]; exact h
theorem o_Wq {g : G} {w : W} {us : List W} {P : List W → (G → Prop) → Prop} (e0 : g.lq? w = none) (e : g.wseq? w = some us) (h : P us (fun g' => g'.wseq? w = some us)) : onLq g w P := by unfold onLq; rw [e0]; dsimp only; rw [e]; exact h
section
variable {g : G} {Q : W → G → Prop} {D : De} {ta tb te : Dt} {t u : DSt} {tt tu : DTt} {ts : DAt}
/-! readings, step by step -/
theorem i_seq (h : t { D with nx := u D } g) : dSeq t u D g := h
theorem i_next (h : D.nx g) : dNext D g := h
theorem i_asg {tg : DGt} (h : te g fun w g1 => tg w g1 D.nx) : dAsg te tg D g := h
theorem i_gN {i : Nat} {w : W} {P : G → Prop} (h : P (g.set i w)) : dgN i w g P := h
theorem i_gTup {n : Nat} {us : List T} {t : DGst} {P : G → Prop} (hn : us.length = n) (h : t us g P) : dgTup n t (.t (.tup us)) g P := ⟨hn, h⟩
theorem i_gList {n : Nat} {w : W} {us : List T} {t : DGst} {P : G → Prop} (hv : g.lq? w = some us) (hn : us.length = n) (h : t us g P) : dgList n t w g P := by
  unfold dgList; rw [hv]; exact ⟨hn, h⟩
theorem i_gNil {P : G → Prop} (h : P g) : dgNil [] g P := h
theorem i_gCons {t : DGt} {us : DGst} {w : T} {r : List T} {P : G → Prop} (h : t (.t w) g fun g1 => us r g1 P) : dgCons t us (w :: r) g P := h
theorem i_ret (h : te g D.rt) : dRet te D g := h
theorem i_retN (h : D.rt (.t .non) g) : dRetN D g := h
theorem i_drop (h : te g fun _ g1 => D.nx g1) : dDrop te D g := h
theorem i_ifS (h : tt g fun b g1 => if b = true then t D g1 else u D g1) : dIfS tt t u D g := h
theorem i_if (h : tt g fun b g1 => if b = true then ta g1 Q else tb g1 Q) : dIf tt ta tb g Q := h
theorem i_B {P : Bool → G → Prop} (h : te g fun w g' => onB w fun b => P b g') : dB te g P := h
theorem i_not {P : Bool → G → Prop} (h : tt g fun c g' => P (!c) g') : dNot tt g P := h
theorem i_and {P : Bool → G → Prop} (h : tt g fun c g1 => if c = true then tu g1 P else P false g1) : dAnd tt tu g P := h
theorem i_or {P : Bool → G → Prop} (h : tt g fun c g1 => if c = true then P true g1 else tu g1 P) : dOr tt tu g P := h
theorem i_andV (h : ta g fun w g1 => onB w fun c => if c = true then tb g1 Q else Q (.t (.bl false)) g1) : dAndV ta tb g Q := h
theorem i_orV (h : ta g fun w g1 => onB w fun c => if c = true then Q (.t (.bl true)) g1 else tb g1 Q) : dOrV ta tb g Q := h
theorem i_notV (h : ta g fun w g1 => onB w fun c => Q (.t (.bl (!c))) g1) : dNotV ta g Q := h
theorem i_yes {P : Bool → G → Prop} (h : P true g) : dYes g P := h
theorem i_break (h : D.bk g) : dBreak D g := h
theorem i_cont (h : D.ct g) : dCont D g := h
theorem i_var {i : Nat} {w : W} (e : g.sl[i]? = some (some w)) (h : Q w g) : dVar i g Q := by unfold dVar; rw [e]; exact h
theorem i_frzT {i : Nat} {x : T} (e : g.sl[i]? = some (some (.t x))) (h : Q (.t x) g) : dFrz i g Q := by unfold dFrz; rw [e]; exact h
theorem i_frzH {i n : Nat} {c : Cell} {x : T} (e : g.sl[i]? = some (some (.h n))) (em : g.mem[n]? = some (some c)) (et : c.tree = some x) (h : Q (.t x) (g.frz n x)) : dFrz i g Q := by
  unfold dFrz; rw [e]; dsimp only; rw [em]; dsimp only; rw [et]; exact h
theorem i_c {x : T} (h : Q (.t x) g) : dC x g Q := h
theorem i_d2 {f : F2} (h : ta g fun x g1 => tb g1 fun y g2 => f g2 x y Q) : d2 f ta tb g Q := h
theorem i_d1 {f : F1} (h : ta g fun x g1 => f g1 x Q) : d1 f ta g Q := h
theorem i_dN {f : FN} (h : ts g fun xs g1 => f g1 xs Q) : dN f ts g Q := h
theorem i_nil {P : List W → G → Prop} (h : P [] g) : dNil g P := h
theorem i_cons {P : List W → G → Prop} (h : te g fun w g1 => ts g1 fun ws g2 => P (w :: ws) g2) : dCons te ts g P := h
theorem i_fI0 {f : Int → Int → T} {i j : Int} (h : Q (.t (f i j)) g) : fI0 f g (.t (.int i)) (.t (.int j)) Q := h
theorem i_fI {C : Int → Int → Prop} {f : Int → Int → T} {i j : Int} (hc : C i j) (h : Q (.t (f i j)) g) : fI C f g (.t (.int i)) (.t (.int j)) Q := ⟨hc, h⟩
theorem i_addI {i j : Int} (h : Q (.t (.int (i + j))) g) : fAdd g (.t (.int i)) (.t (.int j)) Q := h
theorem i_addHI {i j : Int} (h : Q (.t (.int (i + j))) g) : fAddH g (.t (.int i)) (.t (.int j)) Q := h
theorem i_addS {i j : Str} (hl : i.length + j.length ≤ sizeLine) (h : Q (.t (.str (i ++ j))) g) : fAdd g (.t (.str i)) (.t (.str j)) Q := ⟨hl, h⟩
theorem i_addL {x y : W} {xs ys : List T} (e1 : g.seqL? x = some xs) (e2 : g.seqL? y = some ys) (hl : xs.length + ys.length ≤ sizeLine) (h : Q (.t (.lst (xs ++ ys))) g) : fAdd g x y Q := by
  unfold fAdd
  split
  · unfold G.seqL? G.cell? at e1; cases e1
  · unfold G.seqL? G.cell? at e1; cases e1
  · unfold fCat; rw [e1, e2]; exact ⟨hl, h⟩
theorem i_addHL {x y : W} {xs ys : List T} (e1 : g.seqL? x = some xs) (e2 : g.seqL? y = some ys) (hl : xs.length + ys.length ≤ sizeLine) (h : Q (.h g.mem.length) (g.push (.lt (xs ++ ys)))) : fAddH g x y Q := by
  unfold fAddH
  split
  · unfold G.seqL? G.cell? at e1; cases e1
  · unfold G.seqL? G.cell? at e1; cases e1
  · unfold fCatH; rw [e1, e2]; exact ⟨hl, h⟩
theorem i_rep {x : W} {xs : List T} {k : Int} (e1 : g.seqL? x = some xs) (hl : -(2 ^ 63) ≤ k ∧ k < 2 ^ 63 ∧ xs.length * k.toNat ≤ sizeLine) (h : Q (.t (.lst (List.replicate k.toNat xs).flatten)) g) : fRep g x (.t (.int k)) Q := by
  unfold fRep; rw [e1]; exact ⟨hl, h⟩
theorem i_neg {i : Int} (h : Q (.t (.int (-i))) g) : fNeg g (.t (.int i)) Q := h
theorem i_ix {x : W} {us : List T} {i : Int} {v : T} (e : g.seq? x = some us) (hv : atI us i = some v) (h : Q (.t v) g) : fIx g x (.t (.int i)) Q := by
  unfold fIx; dsimp only; rw [e]; exact ⟨v, hv, h⟩
theorem i_ixW {x : W} {us : List W} {i : Int} {v : W} (e0 : g.seq? x = none) (e : g.wseq? x = some us) (hv : atI us i = some v) (h : Q v g) : fIx g x (.t (.int i)) Q := by
  unfold fIx; dsimp only; rw [e0]; dsimp only; rw [e]; exact ⟨v, hv, h⟩
theorem i_eqI {i j : Int} (h : Q (.t (.bl (decide (i = j)))) g) : fEq false g (.t (.int i)) (.t (.int j)) Q := h
theorem i_neI {i j : Int} (h : Q (.t (.bl (!decide (i = j)))) g) : fEq true g (.t (.int i)) (.t (.int j)) Q := h
theorem i_eqS {i j : Str} (h : Q (.t (.bl (decide (i = j)))) g) : fEq false g (.t (.str i)) (.t (.str j)) Q := h
theorem i_neS {i j : Str} (h : Q (.t (.bl (!decide (i = j)))) g) : fEq true g (.t (.str i)) (.t (.str j)) Q := h
theorem i_eqT {x y : W} {u v : T} (e1 : g.tree? x = some u) (e2 : g.tree? y = some v) (h1 : u.sh 8 = true) (h2 : v.sh 8 = true) (h : Q (.t (.bl (teq u v))) g) : fEq false g x y Q := by
  unfold fEq
  split
  · cases e1; cases e2
    rename_i i j
    have : teq (.int i) (.int j) = decide (i = j) := by unfold teq; simp only [T.pd, PyData.eqv]; rw [Bool.beq_eq_decide_eq]
    rw [this] at h; exact h
  · cases e1; cases e2
    rename_i i j
    have : teq (.str i) (.str j) = decide (i = j) := by unfold teq; simp only [T.pd, PyData.eqv]; rw [Bool.beq_eq_decide_eq]
    rw [this] at h; exact h
  · rw [e1, e2]; exact ⟨h1, h2, h⟩
theorem i_neT {x y : W} {u v : T} (e1 : g.tree? x = some u) (e2 : g.tree? y = some v) (h1 : u.sh 8 = true) (h2 : v.sh 8 = true) (h : Q (.t (.bl (!teq u v))) g) : fEq true g x y Q := by
  unfold fEq
  split
  · cases e1; cases e2
    rename_i i j
    have : teq (.int i) (.int j) = decide (i = j) := by unfold teq; simp only [T.pd, PyData.eqv]; rw [Bool.beq_eq_decide_eq]
    rw [this] at h; exact h
  · cases e1; cases e2
    rename_i i j
    have : teq (.str i) (.str j) = decide (i = j) := by unfold teq; simp only [T.pd, PyData.eqv]; rw [Bool.beq_eq_decide_eq]
    rw [this] at h; exact h
  · rw [e1, e2]; exact ⟨h1, h2, h⟩
theorem i_in {x : T} {y : W} {us : List T} (e : g.seq? y = some us) (h1 : x.flat.isSome = true) (h2 : ∀ t ∈ us, t.flat.isSome = true) (h : Q (.t (.bl (inT x us))) g) : fIn false g (.t x) y Q := by
  unfold fIn; dsimp only; rw [e]; exact ⟨h1, h2, h⟩
theorem i_notIn {x : T} {y : W} {us : List T} (e : g.seq? y = some us) (h1 : x.flat.isSome = true) (h2 : ∀ t ∈ us, t.flat.isSome = true) (h : Q (.t (.bl (!inT x us))) g) : fIn true g (.t x) y Q := by
  unfold fIn; dsimp only; rw [e]; exact ⟨h1, h2, h⟩
theorem i_din {x : T} {y : W} {k : Key} {ks : List Key} {us : List T} (ek : keyT x = some k) (e : g.dct? y = some (ks, us)) (h : Q (.t (.bl (look ks us k).isSome)) g) : fDin false g (.t x) y Q := by
  unfold fDin; dsimp only; rw [ek]; dsimp only; rw [e]; exact h
theorem i_dnotin {x : T} {y : W} {k : Key} {ks : List Key} {us : List T} (ek : keyT x = some k) (e : g.dct? y = some (ks, us)) (h : Q (.t (.bl (!(look ks us k).isSome))) g) : fDin true g (.t x) y Q := by
  unfold fDin; dsimp only; rw [ek]; dsimp only; rw [e]; exact h
theorem i_get {x : W} {y v : T} {k : Key} {ks : List Key} {us : List T} (ek : keyT y = some k) (e : g.dct? x = some (ks, us)) (hv : look ks us k = some v) (h : Q (.t v) g) : fGet g x (.t y) Q := by
  unfold fGet; dsimp only; rw [ek]; dsimp only; rw [e]; dsimp only; rw [hv]; exact h
theorem i_len {w : W} {n : Nat} (e : g.len? w = some n) (h : Q (.t (.int n)) g) : fLen g [w] Q := by
  unfold fLen; dsimp only; rw [e]; exact h
theorem i_sum {w : W} {ns : List Int} (e : g.lq? w = some (ns.map T.int)) (h : Q (.t (.int ns.sum)) g) : fSum g [w] Q := ⟨ns, e, h⟩
theorem i_min2 {i j : Int} (h : Q (.t (.int (if j < i then j else i))) g) : fMin g [.t (.int i), .t (.int j)] Q := h
theorem i_max2 {i j : Int} (h : Q (.t (.int (if j > i then j else i))) g) : fMax g [.t (.int i), .t (.int j)] Q := h
theorem i_min {w : W} {ns : List Int} (e : g.lq? w = some (ns.map T.int)) (h0 : 0 < ns.length) (h : ∀ m, m ∈ ns → (∀ y, y ∈ ns → m ≤ y) → Q (.t (.int m)) g) : fMin g [w] Q := by
  unfold fMin
  split
  · rename_i heq; cases heq
  · rename_i w' heq
    cases heq
    exact ⟨ns, e, h0, h⟩
  · rename_i h2
    exact absurd rfl (h2 w)
theorem i_max {w : W} {ns : List Int} (e : g.lq? w = some (ns.map T.int)) (h0 : 0 < ns.length) (h : ∀ m, m ∈ ns → (∀ y, y ∈ ns → y ≤ m) → Q (.t (.int m)) g) : fMax g [w] Q := by
  unfold fMax
  split
  · rename_i heq; cases heq
  · rename_i w' heq
    cases heq
    exact ⟨ns, e, h0, h⟩
  · rename_i h2
    exact absurd rfl (h2 w)
theorem i_all {w : W} {ns : List Bool} (e : g.lq? w = some (ns.map T.bl)) (h : Q (.t (.bl (ns.all id))) g) : fAll g [w] Q := ⟨ns, e, h⟩
theorem i_any {w : W} {ns : List Bool} (e : g.lq? w = some (ns.map T.bl)) (h : Q (.t (.bl (ns.any id))) g) : fAny g [w] Q := ⟨ns, e, h⟩
theorem i_intI {i : Int} (h : Q (.t (.int i)) g) : fInt g [.t (.int i)] Q := h
theorem i_intB {b : Bool} (h : Q (.t (.int (if b then 1 else 0))) g) : fInt g [.t (.bl b)] Q := h
theorem i_abs {i : Int} (h : Q (.t (.int (if i < 0 then -i else i))) g) : fAbs g [.t (.int i)] Q := h
theorem i_isi {w : W} {c a : String} {b : Bool} (e : g.tyN w = some a) (eb : kitB a c = some b) (h : Q (.t (.bl b)) g) : fIsi g [w, .t (.raw (.ty c))] Q := by
  unfold fIsi; dsimp only; rw [e]; dsimp only; rw [eb]; exact h
theorem i_listOf {w : W} {us : List T} (e : g.seq? w = some us) (h : Q (.t (.lst us)) g) : fListOf g [w] Q := by unfold fListOf; dsimp only; rw [e]; exact h
theorem i_listOfH {w : W} {us : List T} (e : g.seq? w = some us) (h : Q (.h g.mem.length) (g.push (.lt us))) : fListOfH g [w] Q := by unfold fListOfH; dsimp only; rw [e]; exact h
theorem i_tupOf {w : W} {us : List T} (e : g.lq? w = some us) (h : Q (.t (.tup us)) g) : fTupOf g [w] Q := by unfold fTupOf; dsimp only; rw [e]; exact h
theorem i_R1 {P : Int → Int → G → Prop} (h : te g fun w g' => onI w fun n => P 0 n g') : dR1 te g P := h
theorem i_listRg {tr : G → (Int → Int → G → Prop) → Prop} (h : tr g fun i j g' => RgOk i j ∧ Q (.t (.lst (rgT i j))) g') : dLstRg tr g Q := h
theorem i_listRgH {tr : G → (Int → Int → G → Prop) → Prop} (h : tr g fun i j g' => RgOk i j ∧ Q (.h g'.mem.length) (g'.push (.lt (rgT i j)))) : dLstRgH tr g Q := h
theorem i_tup (h : ts g fun ws g1 => onTs ws fun us => ws.length ≤ sizeLine ∧ Q (.t (.tup us)) g1) : dTup ts g Q := h
theorem i_lst (h : ts g fun ws g1 => onTs ws fun us => ws.length ≤ sizeLine ∧ Q (.t (.lst us)) g1) : dLst ts g Q := h
theorem i_lstH (h : ts g fun ws g1 => onTs ws fun us => ws.length ≤ sizeLine ∧ Q (.h g1.mem.length) (g1.push (.lt us))) : dLstH ts g Q := h
theorem i_lstW (h : ts g fun ws g1 => ws.length ≤ sizeLine ∧ Q (.h g1.mem.length) (g1.push (.lw ws))) : dLstW ts g Q := h
def onCut (g : G) (x : W) (lo hi : Option Int) (Q : W → G → Prop) : Prop := match g.seq? x with
  | some ts => (match x with | .t (.tup _) => False | _ => Q (.t (.lst (cut ts lo hi))) g)
  | none => False
theorem i_sl {t : Dt} {l u : DOt} (h : t g fun x g1 => l g1 fun lo g2 => u g2 fun hi g3 => onCut g3 x lo hi Q) : dSl t l u g Q := h
theorem o_cut {x : W} {lo hi : Option Int} {us : List T} (e : g.lq? x = some us) (h : Q (.t (.lst (cut us lo hi))) g) : onCut g x lo hi Q := by
  unfold onCut
  have e2 : g.seq? x = some us ∧ ∀ vs, x ≠ .t (.tup vs) := by
    unfold G.lq? at e
    split at e
    · cases e; exact ⟨rfl, fun vs z => by cases z⟩
    · refine ⟨?_, fun vs z => by subst z; unfold G.seqL? G.cell? at e; cases e⟩
      unfold G.seq?
      split
      · unfold G.seqL? G.cell? at e; cases e
      · unfold G.seqL? G.cell? at e; cases e
      · exact e
  rw [e2.1]
  dsimp only
  split
  · rename_i vs; exact absurd rfl (e2.2 vs)
  · exact h
def onCutH (g : G) (x : W) (lo hi : Option Int) (Q : W → G → Prop) : Prop := match g.lq? x with
  | some ts => Q (.h g.mem.length) (g.push (.lt (cut ts lo hi)))
  | none => False
theorem i_slH {t : Dt} {l u : DOt} (h : t g fun x g1 => l g1 fun lo g2 => u g2 fun hi g3 => onCutH g3 x lo hi Q) : dSlH t l u g Q := h
theorem o_cutH {x : W} {lo hi : Option Int} {us : List T} (e : g.lq? x = some us) (h : Q (.h g.mem.length) (g.push (.lt (cut us lo hi)))) : onCutH g x lo hi Q := by unfold onCutH; rw [e]; exact h
theorem i_noPart {P : Option Int → G → Prop} (h : P none g) : dNoPart g P := h
theorem i_part {P : Option Int → G → Prop} (h : te g fun w g' => onI w fun i => P (some i) g') : dPart te g P := h
theorem i_rev {x : W} {us : List T} (e : g.lq? x = some us) (h : Q (.t (.lst us.reverse)) g) : fRev g x Q := by unfold fRev; rw [e]; exact h
theorem i_revH {x : W} {us : List T} (e : g.lq? x = some us) (h : Q (.h g.mem.length) (g.push (.lt us.reverse))) : fRevH g x Q := by unfold fRevH; rw [e]; exact h
theorem i_newD (h : Q (.h g.mem.length) (g.push (.dt [] []))) : dNewD g Q := h
theorem i_newDw (h : Q (.h g.mem.length) (g.push (.dw [] []))) : dNewDw g Q := h
/-! methods -/
theorem i_M0 {f : FM} (h : ta g fun x g1 => isL g1 x ∧ f g1 x [] Q) : dM0 f ta g Q := h
theorem i_M {f : FM} (h : ta g fun x g1 => isL g1 x ∧ ts g1 fun ws g2 => f g2 x ws Q) : dM f ta ts g Q := h
theorem isL_lt {n : Nat} {us : List T} (e : g.mem[n]? = some (some (.lt us))) : isL g (.h n) := by
  unfold isL G.lq? G.seqL? G.cell?; dsimp only; rw [e]; trivial
theorem isL_lw {n : Nat} {us : List W} (e : g.mem[n]? = some (some (.lw us))) : isL g (.h n) := by
  unfold isL G.lq? G.wseq? G.seqL? G.cell?; dsimp only; rw [e]; trivial
theorem isL_lst {us : List T} : isL g (.t (.lst us)) := by unfold isL G.lq? G.seqL? G.cell?; trivial
theorem i_append {n : Nat} {us : List T} {x : T} (e : g.mem[n]? = some (some (.lt us))) (hl : us.length < sizeLine) (h : Q (.t .non) (g.put n (.lt (us ++ [x])))) : fAppend g (.h n) [.t x] Q := by
  unfold fAppend; dsimp only; rw [e]; exact ⟨hl, h⟩
theorem i_appendW {n : Nat} {us : List W} {x : W} (e : g.mem[n]? = some (some (.lw us))) (hl : us.length < sizeLine) (h : Q (.t .non) (g.put n (.lw (us ++ [x])))) : fAppend g (.h n) [x] Q := by
  unfold fAppend; dsimp only; rw [e]; exact ⟨hl, h⟩
theorem i_pop {n : Nat} {us : List T} {x : T} (e : g.mem[n]? = some (some (.lt us))) (hx : us[us.length - 1]? = some x) (h : Q (.t x) (g.put n (.lt us.dropLast))) : fPop g (.h n) [] Q := by
  unfold fPop; dsimp only; rw [e]; exact ⟨x, hx, h⟩
theorem i_popW {n : Nat} {us : List W} {x : W} (e : g.mem[n]? = some (some (.lw us))) (hx : us[us.length - 1]? = some x) (h : Q x (g.put n (.lw us.dropLast))) : fPop g (.h n) [] Q := by
  unfold fPop; dsimp only; rw [e]; exact ⟨x, hx, h⟩
theorem i_clear {n : Nat} {us : List T} (e : g.mem[n]? = some (some (.lt us))) (h : Q (.t .non) (g.put n (.lt []))) : fClear g (.h n) [] Q := by
  unfold fClear; dsimp only; rw [e]; exact h
theorem i_insert {n : Nat} {us : List T} {x : T} {i : Int} (e : g.mem[n]? = some (some (.lt us))) (hl : us.length < sizeLine ∧ 0 ≤ i ∧ i < 2 ^ 63) (h : Q (.t .non) (g.put n (.lt (us.take i.toNat ++ [x] ++ us.drop i.toNat)))) : fInsert g (.h n) [.t (.int i), .t x] Q := by
  unfold fInsert; dsimp only; rw [e]; exact ⟨hl.1, hl.2.1, hl.2.2, h⟩
theorem i_insertW {n : Nat} {us : List W} {x : W} {i : Int} (e : g.mem[n]? = some (some (.lw us))) (hl : us.length < sizeLine ∧ 0 ≤ i ∧ i < 2 ^ 63) (h : Q (.t .non) (g.put n (.lw (us.take i.toNat ++ [x] ++ us.drop i.toNat)))) : fInsert g (.h n) [.t (.int i), x] Q := by
  unfold fInsert; dsimp only; rw [e]; exact ⟨hl.1, hl.2.1, hl.2.2, h⟩
theorem i_remove {n : Nat} {ns : List Int} {k : Int} {j : Nat} (e : g.mem[n]? = some (some (.lt (ns.map T.int)))) (h1 : ns[j]? = some k) (h2 : ∀ m : Nat, m < j → ns[m]? ≠ some k) (h : Q (.t .non) (g.put n (.lt ((ns.eraseIdx j).map T.int)))) : fRemove g (.h n) [.t (.int k)] Q := by
  unfold fRemove; dsimp only; rw [e]; exact ⟨ns, j, rfl, h1, h2, h⟩
theorem i_count {x : W} {ns : List Int} {k : Int} (e : g.lq? x = some (ns.map T.int)) (h : Q (.t (.int (ns.count k : Nat))) g) : fCount g x [.t (.int k)] Q := ⟨ns, e, h⟩
theorem i_index {x : W} {ns : List Int} {k : Int} {j : Nat} (e : g.lq? x = some (ns.map T.int)) (h1 : ns[j]? = some k) (h2 : ∀ m : Nat, m < j → ns[m]? ≠ some k) (h : Q (.t (.int j)) g) : fIndex g x [.t (.int k)] Q := ⟨ns, j, e, h1, h2, h⟩
/-! stores -/
def dgPut (o i w : W) (g2 : G) (P : G → Prop) : Prop := match o, i with
  | .h n, .t (.int z) => (match g2.mem[n]? with
    | some (some (.lt ts)) => (match w with | .t tw => ∃ j, ixN ts.length z = some j ∧ P (g2.put n (.lt (ts.set j tw))) | _ => False)
    | some (some (.lw us)) => ∃ j, ixN us.length z = some j ∧ P (g2.put n (.lw (us.set j w)))
    | _ => False)
  | _, _ => False
theorem i_gSub {to ti : Dt} {w : W} {P : G → Prop} (h : to g fun o g1 => ti g1 fun i g2 => dgPut o i w g2 P) : dgSub to ti w g P := h
theorem o_put {n j : Nat} {z : Int} {us : List T} {x : T} {P : G → Prop} (e : g.mem[n]? = some (some (.lt us))) (hj : ixN us.length z = some j) (h : P (g.put n (.lt (us.set j x)))) : dgPut (.h n) (.t (.int z)) (.t x) g P := by
  unfold dgPut; dsimp only; rw [e]; exact ⟨j, hj, h⟩
theorem o_putW {n j : Nat} {z : Int} {us : List W} {x : W} {P : G → Prop} (e : g.mem[n]? = some (some (.lw us))) (hj : ixN us.length z = some j) (h : P (g.put n (.lw (us.set j x)))) : dgPut (.h n) (.t (.int z)) x g P := by
  unfold dgPut; dsimp only; rw [e]; exact ⟨j, hj, h⟩
def onDput (o y w : W) (g3 : G) (P : G → Prop) : Prop := match o, y with
  | .h n, .t ky => (match keyT ky with
    | some k => (match g3.mem[n]? with
      | some (some (.dt ks ts)) => (match w with | .t tw => ks.length < sizeLine ∧ P (g3.put n (.dt (putKs ks k) (putXs ks ts k tw))) | _ => False)
      | some (some (.dw ks us)) => ks.length < sizeLine ∧ P (g3.put n (.dw (putKs ks k) (putXs ks us k w)))
      | _ => False)
    | none => False)
  | _, _ => False
theorem i_dput {td ty tv : Dt} (h : tv g fun w g1 => td g1 fun o g2 => ty g2 fun y g3 => onDput o y w g3 D.nx) : dDput td ty tv D g := h
theorem o_dput {n : Nat} {ky x : T} {k : Key} {ks : List Key} {us : List T} {P : G → Prop} (ek : keyT ky = some k) (e : g.mem[n]? = some (some (.dt ks us))) (hl : ks.length < sizeLine) (h : P (g.put n (.dt (putKs ks k) (putXs ks us k x)))) : onDput (.h n) (.t ky) (.t x) g P := by
  unfold onDput; dsimp only; rw [ek]; dsimp only; rw [e]; exact ⟨hl, h⟩
theorem o_dputW {n : Nat} {ky : T} {x : W} {k : Key} {ks : List Key} {us : List W} {P : G → Prop} (ek : keyT ky = some k) (e : g.mem[n]? = some (some (.dw ks us))) (hl : ks.length < sizeLine) (h : P (g.put n (.dw (putKs ks k) (putXs ks us k x)))) : onDput (.h n) (.t ky) x g P := by
  unfold onDput; dsimp only; rw [ek]; dsimp only; rw [e]; exact ⟨hl, h⟩
theorem i_par {i j : Nat} (h : ts g fun ws g1 => onW2 ws fun u v => D.nx ((g1.set i u).set j v)) : dPar i j ts D g := h
theorem i_aug {i : Nat} {f : Int → Int → Int} {z : Int} (e : g.sl[i]? = some (some (.t (.int z)))) (h : te g fun w g1 => onI w fun b => D.nx (g1.set i (.t (.int (f z b))))) : dAug i f te D g := by unfold dAug; rw [e]; exact h
/-! calls -/
theorem i_callT {C : PC} (h : ts g fun ws g1 => onTs ws fun us => C us fun r => onT r fun t => Q (.t t) g1) : dCallT C ts g Q := h
theorem i_callH {C : PC} (h : ts g fun ws g1 => onTs ws fun us => C us fun r => onH g1 r Q) : dCallH C ts g Q := h
/-! loops -/
def lcI (fin : Fin3) (ws : List W) (St : G → Prop) (g1 : G) (gt : DGt) (tt : DTt) (te : Dt) (vs : List Nat) (Q : W → G → Prop) : Prop := ∃ I : Nat → List W → G → Prop, I 0 [] (g1.wipe vs) ∧ (∀ i acc g', I i acc g' → St g' ∧ acc.length ≤ i) ∧
  (∀ i acc w g', ws[i]? = some w → I i acc g' → gt w g' fun g2 => tt g2 fun b g3 => if b = true then te g3 fun y g4 => I (i + 1) (acc ++ [y]) (g4.wipe vs) else I (i + 1) acc (g3.wipe vs)) ∧
  ws.length ≤ sizeLine ∧ (∀ acc g', I ws.length acc g' → fin acc (g'.rs g1 vs) Q)
theorem i_lc {fin : Fin3} {it : DIt} {gt : DGt} {vs : List Nat} (h : it g fun ws St g1 => lcI fin ws St g1 gt tt te vs Q) : dLc fin it gt tt te vs g Q := h
def forI (ws : List W) (St : G → Prop) (g1 : G) (gt : DGt) (tb : DSt) (D : De) : Prop := ∃ I : Nat → G → Prop, I 0 g1 ∧ (∀ i g', I i g' → St g') ∧
  (∀ i w g', ws[i]? = some w → I i g' → gt w g' fun g2 => tb { D with nx := I (i + 1), ct := I (i + 1), bk := D.nx } g2) ∧ (∀ g', I ws.length g' → D.nx g')
theorem i_for {it : DIt} {gt : DGt} (h : it g fun ws St g1 => forI ws St g1 gt t D) : dFor it gt t D g := h
def whI (tt : DTt) (t : DSt) (g : G) (D : De) : Prop := ∃ I : Nat → G → Prop, (∃ m, I m g) ∧ ∀ m g', I m g' → tt g' fun b g1 => if b = true then t { D with nx := fun g2 => ∃ m', m' < m ∧ I m' g2, ct := fun g2 => ∃ m', m' < m ∧ I m' g2, bk := D.nx } g1 else D.nx g1
theorem i_while (h : whI tt t g D) : dWhile tt t D g := h
theorem i_itL {P : List W → (G → Prop) → G → Prop} (h : te g fun w g1 => onLq g1 w fun ws St => P ws St g1) : diL te g P := h
theorem i_itR1 {P : List W → (G → Prop) → G → Prop} (h : ts g fun ws g1 => onI1 ws fun j => (-(2 ^ 62) ≤ j ∧ j < 2 ^ 62) ∧ P (rgW 0 j.toNat) (fun _ => True) g1) : diR1 ts g P := h
theorem i_itR2 {P : List W → (G → Prop) → G → Prop} (h : ts g fun ws g1 => onI2 ws fun i j => (-(2 ^ 62) ≤ i ∧ i < 2 ^ 62 ∧ -(2 ^ 62) ≤ j ∧ j < 2 ^ 62) ∧ P (rgW i (j - i).toNat) (fun _ => True) g1) : diR2 ts g P := h
theorem i_finH {us : List T} (h : Q (.h g.mem.length) (g.push (.lt us))) : finH (us.map W.t) g Q := ⟨us, rfl, h⟩
theorem i_finT {us : List T} (h : Q (.t (.lst us)) g) : finT (us.map W.t) g Q := ⟨us, rfl, h⟩
/-! known tests -/
theorem k_T {A B : Prop} (h : A) : if true = true then A else B := by rw [if_pos rfl]; exact h
theorem k_F {A B : Prop} (h : B) : if false = true then A else B := by rw [if_neg Bool.false_ne_true]; exact h
theorem k_True {A B : Prop} (h : A) : if True then A else B := by rw [if_pos trivial]; exact h
theorem k_False {A B : Prop} (h : B) : if False then A else B := by rw [if_neg id]; exact h
theorem k_dT {c A B : Prop} [Decidable c] (hc : c) (h : A) : if decide c = true then A else B := by rw [if_pos (decide_eq_true hc)]; exact h
theorem k_dF {c A B : Prop} [Decidable c] (hc : ¬ c) (h : B) : if decide c = true then A else B := by rw [if_neg (by simpa using hc)]; exact h
theorem k_nT {c A B : Prop} [Decidable c] (hc : ¬ c) (h : A) : if (!decide c) = true then A else B := by rw [if_pos (by simpa using hc)]; exact h
theorem k_nF {c A B : Prop} [Decidable c] (hc : c) (h : B) : if (!decide c) = true then A else B := by rw [if_neg (by simpa using hc)]; exact h
theorem k_d {c A B : Prop} [Decidable c] (h1 : c → A) (h2 : ¬ c → B) : if decide c = true then A else B := by
  by_cases h : c
  · exact k_dT h (h1 h)
  · exact k_dF h (h2 h)
theorem k_n {c A B : Prop} [Decidable c] (h1 : ¬ c → A) (h2 : c → B) : if (!decide c) = true then A else B := by
  by_cases h : c
  · exact k_nF h (h2 h)
  · exact k_nT h (h1 h)
theorem ixN_nat {n k : Nat} (h : k < n) : ixN n (k : Int) = some k := by
  unfold ixN
  rw [if_pos (by omega), if_pos (by omega)]
  simp
/-! ends -/
theorem e_t {C : R0 → Prop} {x : T} {g : G} (h : C (.t x)) : FinP C (.t x) g := h
theorem e_h {C : R0 → Prop} {n : Nat} {c : Cell} {g : G} (e : g.mem[n]? = some (some c)) (hp : c.plain = true) (h : C (.f c)) : FinP C (.h n) g := by
  unfold FinP; dsimp only; rw [e]; exact ⟨hp, h⟩
end
end DL

namespace DL
open PySem PySem.Spec L2
/-! a, b = a list that holds handles -/
abbrev DGwt := List W → G → (G → Prop) → Prop
structure DGw (X : Cx) (tg : List Expr) (τ : TGs) (t : DGwt) : Prop where
  pe : PGs X tg τ
  r : ∀ (al : List Addr) (S F H : Hp) (σ : L2.St) (g : G) (vs : List V) (ws : List W) (Q : G → Prop) (QV : L2.St → Hp → Prop), Rep X.K al S F H σ g → Paired (DenW X.K al S) ws vs → t ws g Q →
    (∀ al' S' H' σ' g', Rep X.K al' S' F H' σ' g' → Grow al S al' S' → Q g' → QV σ' H') → τ vs σ H QV
def dgwNil : DGwt := fun ws g Q => match ws with | [] => Q g | _ => False
def dgwCons (t : DGt) (u : DGwt) : DGwt := fun ws g Q => match ws with | w :: r => t w g fun g1 => u r g1 Q | _ => False
section
variable {X : Cx}
theorem dgw_nil : DGw X [] gNil dgwNil := by
  refine ⟨pgs_nil, fun al S F H σ g vs ws Q QV R d q k => ?_⟩
  cases d with
  | nil => exact ⟨rfl, k _ _ _ _ _ R (Grow.refl _ _) q⟩
  | cons _ _ => exact q.elim
theorem dgw_cons {e : Expr} {es : List Expr} {τ1 : TG} {t1 : DGt} {τ2 : TGs} {t2 : DGwt} (h1 : DG X e τ1 t1) (h2 : DGw X es τ2 t2)
    (hs : (assignEach (e :: es) X.env).map (·.2) = assign e X.env :: (assignEach es X.env).map (·.2) := by rfl) : DGw X (e :: es) (gCons τ1 τ2) (dgwCons t1 t2) := by
  refine ⟨pgs_cons h1.pe h2.pe hs, fun al S F H σ g vs ws Q QV R d q k => ?_⟩
  cases d with
  | nil => exact q.elim
  | cons d1 d2 =>
    refine ⟨_, _, rfl, ?_⟩
    refine h1.r al S F H σ g _ _ _ _ R d1 q fun al1 S1 H1 σ1 g1 R1 gr1 q1 => ?_
    exact h2.r al1 S1 F H1 σ1 g1 _ _ Q QV R1 (DenWs.grow gr1 d2) q1 fun al2 S2 H2 σ2 g2 R2 gr2 q2 => k _ _ _ _ _ R2 (gr1.trans gr2) q2
def dgUnw (n : Nat) (t : DGwt) : DGt := fun w g Q => match g.wseq? w with | some ts => ts.length = n ∧ t ts g Q | none => False
theorem dg_unw {es : List Expr} {kk : Nat} {ps : Pos} {τ1 : TGs} {t1 : DGwt} {n : Nat} (hc : X.calm = true) (h : DGw X es τ1 t1)
    (hn : (assignEach es X.env).length = n := by rfl) (hst : (assignEach es X.env).findIdx? (·.1) = none := by rfl) : DG X (.Tuple es kk ps) (gUnl X.K n τ1) (dgUnw n t1) := by
  refine ⟨pg_unl hc h.pe hn hst, fun al S F H σ g v w Q QV R d q k => ?_⟩
  unfold dgUnw at q
  split at q
  · rename_i ts e
    obtain ⟨p, vs, rfl, h1, h2⟩ := R.viewW d e
    exact ⟨p, vs, rfl, .inl (.inl h1), by rw [← h2.length]; exact q.1, h.r al S F H σ g vs ts Q QV R h2 q.2 k⟩
  · exact q.elim
end
theorem i_unw {g : G} {n : Nat} {w : W} {us : List W} {t : DGwt} {P : G → Prop} (hv : g.wseq? w = some us) (hn : us.length = n) (h : t us g P) : dgUnw n t w g P := by
  unfold dgUnw; rw [hv]; exact ⟨hn, h⟩
theorem i_gwNil {g : G} {P : G → Prop} (h : P g) : dgwNil [] g P := h
theorem i_gwCons {g : G} {t : DGt} {us : DGwt} {w : W} {r : List W} {P : G → Prop} (h : t w g fun g1 => us r g1 P) : dgwCons t us (w :: r) g P := h
/-! cells at handles, by what the store holds there -/
section
variable {g : G} {Q : W → G → Prop} {n : Nat}
theorem cell_h {c : Cell} (em : g.mem[n]? = some (some c)) : g.cell? (.h n) = some c := by unfold G.cell?; dsimp only; rw [em]
theorem lq_h {us : List T} (em : g.mem[n]? = some (some (.lt us))) : g.lq? (.h n) = some us := by unfold G.lq? G.seqL?; dsimp only; rw [cell_h em]
theorem lq_hw {us : List W} (em : g.mem[n]? = some (some (.lw us))) : g.lq? (.h n) = none := by unfold G.lq? G.seqL?; dsimp only; rw [cell_h em]
theorem seq_h {us : List T} (em : g.mem[n]? = some (some (.lt us))) : g.seq? (.h n) = some us := by unfold G.seq? G.seqL?; dsimp only; rw [cell_h em]
theorem seq_hw {us : List W} (em : g.mem[n]? = some (some (.lw us))) : g.seq? (.h n) = none := by unfold G.seq? G.seqL?; dsimp only; rw [cell_h em]
theorem wseq_h {us : List W} (em : g.mem[n]? = some (some (.lw us))) : g.wseq? (.h n) = some us := by unfold G.wseq?; rw [cell_h em]
theorem wl_h {us : List W} (em : g.mem[n]? = some (some (.lw us))) : g.wl? (.h n) = some us := by unfold G.wl?; rw [cell_h em]
theorem len_h {us : List T} (em : g.mem[n]? = some (some (.lt us))) : g.len? (.h n) = some us.length := by unfold G.len?; dsimp only; rw [em]
theorem len_hw {us : List W} (em : g.mem[n]? = some (some (.lw us))) : g.len? (.h n) = some us.length := by unfold G.len?; dsimp only; rw [em]
theorem tree_h {us : List T} (em : g.mem[n]? = some (some (.lt us))) : g.tree? (.h n) = some (.lst us) := by unfold G.tree?; dsimp only; rw [em]; rfl
theorem tyN_h {us : List T} (em : g.mem[n]? = some (some (.lt us))) : g.tyN (.h n) = some "list" := by unfold G.tyN; dsimp only; rw [em]
theorem i_ixHW {us : List W} {i : Int} {v : W} (em : g.mem[n]? = some (some (.lw us))) (hv : atI us i = some v) (h : Q v g) : fIx g (.h n) (.t (.int i)) Q := i_ixW (seq_hw em) (wseq_h em) hv h
theorem i_ixHT {us : List T} {i : Int} {v : T} (em : g.mem[n]? = some (some (.lt us))) (hv : atI us i = some v) (h : Q (.t v) g) : fIx g (.h n) (.t (.int i)) Q := i_ix (seq_h em) hv h
theorem i_lenHW {us : List W} (em : g.mem[n]? = some (some (.lw us))) (h : Q (.t (.int us.length)) g) : fLen g [.h n] Q := i_len (len_hw em) h
theorem i_lenHT {us : List T} (em : g.mem[n]? = some (some (.lt us))) (h : Q (.t (.int us.length)) g) : fLen g [.h n] Q := i_len (len_h em) h
theorem o_LqH {us : List T} {P : List W → (G → Prop) → Prop} (em : g.mem[n]? = some (some (.lt us))) (h : P (us.map W.t) (fun g' => g'.lq? (.h n) = some us)) : onLq g (.h n) P := o_Lq (lq_h em) h
theorem i_tupOfH {us : List T} (em : g.mem[n]? = some (some (.lt us))) (h : Q (.t (.tup us)) g) : fTupOf g [.h n] Q := i_tupOf (lq_h em) h
theorem i_addW {x y : W} {xs ys : List W} (e1 : g.wl? x = some xs) (e2 : g.wl? y = some ys) (hl : xs.length + ys.length ≤ sizeLine) (h : Q (.h g.mem.length) (g.push (.lw (xs ++ ys)))) : fAddW g x y Q := by
  unfold fAddW; rw [e1, e2]; exact ⟨hl, h⟩
end
/-! calls that are handed cells -/
def callS (C : SC) (ws : List W) (g1 : G) (Q : W → G → Prop) : Prop := ∃ (r : List Nat) (m0 : List Cell) (ws0 : List W), r.Nodup ∧ r.length = m0.length ∧ ups r ws0 = some ws ∧
  (∀ (i : Nat) (c : Cell), m0[i]? = some c → ∃ j c', r[i]? = some j ∧ c.up r = some c' ∧ g1.mem[j]? = some (some c')) ∧
  C ws0 m0 fun w m1 cs => ∃ w' m1' cs', w.up (r ++ (List.range cs.length).map (g1.mem.length + ·)) = some w' ∧ cups (r ++ (List.range cs.length).map (g1.mem.length + ·)) m1 = some m1' ∧ cups (r ++ (List.range cs.length).map (g1.mem.length + ·)) cs = some cs' ∧
    Q w' ⟨g1.sl, setAll g1.mem r m1' ++ cs'.map some⟩
theorem i_callS {C : SC} {ts : DAt} {g : G} {Q : W → G → Prop} (h : ts g fun ws g1 => callS C ws g1 Q) : dCallS C ts g Q := h
/-! ends of defs that were handed cells -/
theorem fin_s {n0 : Nat} {QC : W → List Cell → List Cell → Prop} {w : W} {g : G} (ks : List Nat) (m1 cs : List Cell) (w' : W) (nd : (List.range n0 ++ ks).Nodup) (lt : ∀ j ∈ List.range n0 ++ ks, j < g.mem.length) (hw : w'.up (List.range n0 ++ ks) = some w) (l1 : m1.length = n0) (l2 : cs.length = ks.length)
    (hc : ∀ (i : Nat) (c' : Cell), (m1 ++ cs)[i]? = some c' → ∃ j c, (List.range n0 ++ ks)[i]? = some j ∧ c'.up (List.range n0 ++ ks) = some c ∧ g.mem[j]? = some (some c)) (q : QC w' m1 cs) : FinS n0 QC w g :=
  ⟨ks, m1, cs, w', nd, lt, hw, l1, l2, hc, q⟩
/-! a purse: its list at handle 0, its cells at handle 1 -/
def purse (turn : Nat) (cells : List Int) : List Cell := [.lw [.h 1, .t (.int turn)], .lt (cells.map T.int)]
def purseM (turn : Nat) (cells : List Int) : Sto := [some (.lw [.h 1, .t (.int turn)]), some (.lt (cells.map T.int))]
theorem purse_set2 {t : Nat} {c : List Int} {m : Sto} {v : Option Cell} : (purseM t c ++ m).set 2 v = purseM t c ++ m.set 0 v := rfl
theorem purse_set3 {t : Nat} {c : List Int} {m : Sto} {v : Option Cell} : (purseM t c ++ m).set 3 v = purseM t c ++ m.set 1 v := rfl
theorem purse_set4 {t : Nat} {c : List Int} {m : Sto} {v : Option Cell} : (purseM t c ++ m).set 4 v = purseM t c ++ m.set 2 v := rfl
theorem purse_set5 {t : Nat} {c : List Int} {m : Sto} {v : Option Cell} : (purseM t c ++ m).set 5 v = purseM t c ++ m.set 3 v := rfl
theorem purse_app {t : Nat} {c : List Int} {m l : Sto} : (purseM t c ++ m) ++ l = purseM t c ++ (m ++ l) := List.append_assoc _ _ _
theorem purse_len {t : Nat} {c : List Int} {m : Sto} : (purseM t c ++ m).length = m.length + 2 := by rw [List.length_append]; show 2 + m.length = _; omega
theorem purse_start {t : Nat} {c : List Int} : (purse t c).map some = purseM t c ++ [] := rfl
theorem purse_l {t : Nat} {c : List Int} : (purse t c).length = 2 := rfl
/-- the contract's common part: at most d draws -/
def C_draw : SC := fun ws m QC => ∃ (n : Int) (turn : Nat) (cells : List Int), ws = [.h 0, .t (.int n)] ∧ m = purse turn cells ∧ 0 < cells.length ∧ cells.length ≤ 1000 ∧ 0 < n ∧ n < 10000000000000000 ∧ turn ≤ 100000 ∧
  ∀ (r : Int) (cells' : List Int), 0 ≤ r → r < n → cells'.length = cells.length → QC (.t (.int r)) (purse (turn + 1) cells') []
/-- in a caller whose purse is at handles 0 and 1 -/
theorem callS_draw {n : Int} {turn : Nat} {cells : List Int} {sl : List (Option W)} {mem : Sto} {Q : W → G → Prop} (h0 : 0 < cells.length) (h1 : cells.length ≤ 1000) (h2 : 0 < n) (h3 : n < 10000000000000000) (h4 : turn ≤ 100000)
    (h : ∀ (r : Int) (cells' : List Int), 0 ≤ r → r < n → cells'.length = cells.length → Q (.t (.int r)) ⟨sl, purseM (turn + 1) cells' ++ mem⟩) : callS C_draw [.h 0, .t (.int n)] ⟨sl, purseM turn cells ++ mem⟩ Q := by
  refine ⟨[0, 1], purse turn cells, [.h 0, .t (.int n)], by decide, rfl, rfl, fun i c e => ?_, n, turn, cells, rfl, rfl, h0, h1, h2, h3, h4, fun r cells' k1 k2 k3 => ⟨.t (.int r), purse (turn + 1) cells', [], rfl, rfl, rfl, ?_⟩⟩
  · match i, e with
    | 0, e => cases e; exact ⟨0, _, rfl, rfl, rfl⟩
    | 1, e => cases e; exact ⟨1, _, rfl, rfl, rfl⟩
    | i + 2, e => simp [purse] at e
  · have := h r cells' k1 k2 k3
    show Q (.t (.int r)) ⟨sl, setAll (purseM turn cells ++ mem) [0, 1] (purse (turn + 1) cells') ++ [].map some⟩
    rw [List.map_nil, List.append_nil]
    exact this
theorem callS_p {C : SC} {ws : List W} {sl : List (Option W)} {mem : Sto} {Q : W → G → Prop} {turn : Nat} {cells : List Int} (ws0 : List W) (hw : ups [0, 1] ws0 = some ws)
    (h : C ws0 (purse turn cells) fun w m1 cs => ∃ (w' : W) (cs' : List Cell) (t' : Nat) (c' : List Int), m1 = purse t' c' ∧ w.up ([0, 1] ++ (List.range cs.length).map (mem.length + 2 + ·)) = some w' ∧ cups ([0, 1] ++ (List.range cs.length).map (mem.length + 2 + ·)) cs = some cs' ∧ Q w' ⟨sl, purseM t' c' ++ (mem ++ cs'.map some)⟩)
    (mono : ∀ (P P' : W → List Cell → List Cell → Prop), (∀ w m cs, P w m cs → P' w m cs) → C ws0 (purse turn cells) P → C ws0 (purse turn cells) P') : callS C ws ⟨sl, purseM turn cells ++ mem⟩ Q := by
  refine ⟨[0, 1], purse turn cells, ws0, by decide, rfl, hw, fun i c e => ?_, mono _ _ (fun w m1 cs ⟨w', cs', t', c', e1, e2, e3, q⟩ => ?_) h⟩
  · match i, e with
    | 0, e => cases e; exact ⟨0, _, rfl, rfl, rfl⟩
    | 1, e => cases e; exact ⟨1, _, rfl, rfl, rfl⟩
    | i + 2, e => simp [purse] at e
  · subst e1
    have el : (purseM turn cells ++ mem).length = mem.length + 2 := purse_len
    refine ⟨w', purse t' c', cs', by rw [el]; exact e2, rfl, by rw [el]; exact e3, ?_⟩
    have es : setAll (purseM turn cells ++ mem) [0, 1] (purse t' c') = purseM t' c' ++ mem := rfl
    rw [es, List.append_assoc]
    exact q
theorem fin_purse {QC : W → List Cell → List Cell → Prop} {w' : T} {sl : List (Option W)} {mem : Sto} {turn : Nat} {cells : List Int} (q : QC (.t w') (purse turn cells) []) : FinS 2 QC (.t w') ⟨sl, purseM turn cells ++ mem⟩ := by
  refine fin_s [] (purse turn cells) [] (.t w') (by decide) ?_ rfl rfl rfl ?_ q
  · intro j hj
    have : j < 2 := by simpa using hj
    show j < (purseM turn cells ++ mem).length
    rw [List.length_append]
    show j < 2 + mem.length
    omega
  · intro i c e
    match i, e with
    | 0, e => cases e; exact ⟨0, _, rfl, rfl, rfl⟩
    | 1, e => cases e; exact ⟨1, _, rfl, rfl, rfl⟩
    | i + 2, e => simp [purse] at e
/-- .. handing back a fresh plain cell, at handle n -/
theorem fin_purseF {QC : W → List Cell → List Cell → Prop} {n : Nat} {c : Cell} {sl : List (Option W)} {mem : Sto} {turn : Nat} {cells : List Int} (e : mem[n]? = some (some c)) (hp : c.plain = true) (q : QC (.h 2) (purse turn cells) [c]) : FinS 2 QC (.h (2 + n)) ⟨sl, purseM turn cells ++ mem⟩ := by
  have hn : n < mem.length := (List.getElem?_eq_some_iff.mp e).1
  refine fin_s [2 + n] (purse turn cells) [c] (.h 2) ?_ ?_ rfl rfl rfl ?_ q
  · show ([0, 1] ++ [2 + n]).Nodup
    simp
    omega
  · intro j hj
    show j < (purseM turn cells ++ mem).length
    rw [List.length_append]
    show j < 2 + mem.length
    have : j = 0 ∨ j = 1 ∨ j = 2 + n := by simpa [List.range, List.range.loop] using hj
    omega
  · intro i c' ei
    match i, ei with
    | 0, ei => cases ei; exact ⟨0, _, rfl, rfl, rfl⟩
    | 1, ei => cases ei; exact ⟨1, _, rfl, rfl, rfl⟩
    | 2, ei =>
      cases ei
      refine ⟨2 + n, c, rfl, up_plain hp _, ?_⟩
      show (purseM turn cells ++ mem)[2 + n]? = _
      rw [List.getElem?_append_right (by show 2 ≤ 2 + n; omega), show 2 + n - (purseM turn cells).length = n by show 2 + n - 2 = n; omega]
      exact e
    | i + 3, ei => simp [purse] at ei
end DL

namespace DL
open PySem PySem.Spec L2
/-! comprehensions whose parts' walks may differ from block to block -/
section
variable {X : Cx} {pos : Pos} {tg iter elt : Expr} {ifs : List Expr} {scope : Scope} {own : List (Str × Nat)} {wi : TI} {it : DIt} {gt : DGt} {tt : DTt} {te : Dt} {fin : Fin3}
abbrev BlkAll (X : Cx) (scope : Scope) (P : Cx → Prop) : Prop := ∀ (s : Shared) (H : Hp) (C : Addr) (cl : List (Str × Addr)) (fp : List Addr), P (X.blk s H scope (compEnvC scope cl C X.env) fp)
def uG (h : BlkAll X scope fun Y => ∃ τ, CG Y tg τ gt (own.map (·.2))) : TG := fun v σ H Q => ∀ s H0 C cl fp, (Classical.choose (h s H0 C cl fp)) v σ H Q
def uT (h : BlkAll X scope fun Y => ∃ τ, DTs Y ifs τ tt) : TT := fun σ H Q => ∀ s H0 C cl fp, (Classical.choose (h s H0 C cl fp)) σ H Q
def uE (h : BlkAll X scope fun Y => ∃ τ, DE Y elt τ te) : TE := fun σ H Q => ∀ s H0 C cl fp, (Classical.choose (h s H0 C cl fp)) σ H Q
theorem uG_ok (h : BlkAll X scope fun Y => ∃ τ, CG Y tg τ gt (own.map (·.2))) : BlkAll X scope fun Y => CG Y tg (uG h) gt (own.map (·.2)) := fun s H C cl fp =>
  ⟨⟨fun pins s1 σ H1 v u Q I r q => (Classical.choose_spec (h s H C cl fp)).pe.run pins s1 σ H1 v u Q I r (q s H C cl fp)⟩,
    fun al S F H1 σ g v w Q QV R d q k s2 H2 C2 cl2 fp2 => (Classical.choose_spec (h s2 H2 C2 cl2 fp2)).r al S F H1 σ g v w Q QV R d q k⟩
theorem uT_ok (h : BlkAll X scope fun Y => ∃ τ, DTs Y ifs τ tt) : BlkAll X scope fun Y => DTs Y ifs (uT h) tt := fun s H C cl fp =>
  ⟨⟨fun pins s1 σ H1 Q I q => (Classical.choose_spec (h s H C cl fp)).pe.run pins s1 σ H1 Q I (q s H C cl fp)⟩,
    fun al S F H1 σ g Q QV R q k s2 H2 C2 cl2 fp2 => (Classical.choose_spec (h s2 H2 C2 cl2 fp2)).r al S F H1 σ g Q QV R q k⟩
theorem uE_ok (h : BlkAll X scope fun Y => ∃ τ, DE Y elt τ te) : BlkAll X scope fun Y => DE Y elt (uE h) te := fun s H C cl fp =>
  ⟨⟨fun pins s1 σ H1 Q I q => (Classical.choose_spec (h s H C cl fp)).pe.run pins s1 σ H1 Q I (q s H C cl fp)⟩,
    fun al S F H1 σ g Q QV R q k s2 H2 C2 cl2 fp2 => (Classical.choose_spec (h s2 H2 C2 cl2 fp2)).r al S F H1 σ g Q QV R q k⟩
theorem de_lcU (hf : FinOk X.K fin) (hc : X.calm = true) (hN : X.N.Nodup) (hi : DI X tg iter wi it) (ok : BlkOk X.N X.env.scope scope own)
    (hg : BlkAll X scope fun Y => ∃ τ, CG Y tg τ gt (own.map (·.2))) (ht : BlkAll X scope fun Y => ∃ τ, DTs Y ifs τ tt) (he : BlkAll X scope fun Y => ∃ τ, DE Y elt τ te) (s0 : Shared) (hs : ∀ x, foldedSetIterable iter X.env x = pure x := by intro _; rfl) :
    DE X (.ListComp elt [⟨tg, iter, ifs, 0⟩] scope pos) (tLc wi (uG hg) (uT ht) (uE he) (own.map (·.2))) (dLc fin it gt tt te (own.map (·.2))) :=
  de_lc hf hc hN hi ok (uG_ok hg) (uT_ok ht) (uE_ok he) s0 hs
theorem ds_setLcU (i : Nat) {y : Str} {py spos : Pos} (hf : FinOk X.K fin) (hc : X.calm = true) (hN : X.N.Nodup) (hi : DI X tg iter wi it) (ok : BlkOk X.N X.env.scope scope own)
    (hg : BlkAll X scope fun Y => ∃ τ, CG Y tg τ gt (own.map (·.2))) (ht : BlkAll X scope fun Y => ∃ τ, DTs Y ifs τ tt) (he : BlkAll X scope fun Y => ∃ τ, DE Y elt τ te) (s0 : Shared) (hy : X.N[i]? = some y := by rfl) (hyl : X.env.scope.names.lookup y = some .local := by rfl)
    (hsw : swapsWith (.ListComp elt [⟨tg, iter, ifs, 0⟩] scope pos) (some (.Name y py)) spos.line X.env = pure true := by exact sw_true rfl rfl rfl (by decide +kernel)) (hs : ∀ x, foldedSetIterable iter X.env x = pure x := by intro _; rfl) :
    DS X (.Assign [.Name y py] (.ListComp elt [⟨tg, iter, ifs, 0⟩] scope pos) spos) (tAsg (tLc wi (uG hg) (uT ht) (uE he) (own.map (·.2))) (gName i)) (dAsg (dLc fin it gt tt te (own.map (·.2))) (dgN i)) :=
  ds_setLc i hf hc hN hi ok (uG_ok hg) (uT_ok ht) (uE_ok he) s0 hy hyl hsw hs
end
/-! comparisons as tests -/
section
variable {X : Cx} {a b : Expr} {τa τb : TE} {ta tb : Dt} {pos : Pos}
theorem dt_mk {e : Expr} (h : PT X e (L2.tB τa)) (r : DEr X.K τa ta) : DT X e (L2.tB τa) (dB ta) := by
  refine ⟨h, fun al S F H σ g Q QV R q k => ?_⟩
  refine r al S F H σ g _ _ R q fun al1 S1 H1 g1 v1 w1 R1 gr1 e1 q1 => ?_
  split at q1
  · rename_i bb
    refine ⟨bb, ?_, k _ _ _ _ _ R1 gr1 q1⟩
    unfold DenW Den at e1
    exact e1
  · exact q1.elim
theorem dt_cmp {op : CmpOp} {r : R2} {f : F2} (ho : OpR X (compareOp op) r) (h : Op2 X.K r f) (ha : DE X a τa ta) (hb : DE X b τb tb) (hm : behindInMarks op b = false := by first | exact nomark _ | rfl) : DT X (.Compare a [op] [b] pos) (L2.tB (tOp r τa τb)) (dB (d2 f ta tb)) :=
  dt_mk (pt_cmpR ho ha.pe hb.pe hm) (der_op2 h ha.r hb.r)
theorem dt_eq {kk : Nat} (hr : Room kk X.A) (ha : DE X a τa ta) (hb : DE X b τb tb) : DT X (.Compare a [.Eq] [b] pos) (L2.tB (tOp (fun x y H Q => (scal x y = true ∧ Q (.bl (if false then !decide (x = y) else decide (x = y))) H) ∨
    (∃ d e, Dp X.K H x d ∧ Dp X.K H y e ∧ SeqAt.shaped d = true ∧ SeqAt.shaped e = true ∧ Q (.bl (if false then !PyData.eqv d e else PyData.eqv d e)) H)) τa τb)) (dB (d2 (fEq false) ta tb)) := dt_cmp (op_eq.or (op_eqD hr.units)) (op2_eq false) ha hb
theorem dt_ne {kk : Nat} (hr : Room kk X.A) (ha : DE X a τa ta) (hb : DE X b τb tb) : DT X (.Compare a [.NotEq] [b] pos) (L2.tB (tOp (fun x y H Q => (scal x y = true ∧ Q (.bl (if true then !decide (x = y) else decide (x = y))) H) ∨
    (∃ d e, Dp X.K H x d ∧ Dp X.K H y e ∧ SeqAt.shaped d = true ∧ SeqAt.shaped e = true ∧ Q (.bl (if true then !PyData.eqv d e else PyData.eqv d e)) H)) τa τb)) (dB (d2 (fEq true) ta tb)) := dt_cmp (op_ne.or (op_neD hr.units)) (op2_eq true) ha hb
theorem dt_lt (ha : DE X a τa ta) (hb : DE X b τb tb) : DT X (.Compare a [.Lt] [b] pos) (L2.tB (tOp (rI0 fun i j => V.bl (decide (i < j))) τa τb)) (dB (d2 (fI0 fun i j => .bl (decide (i < j))) ta tb)) := dt_cmp op_lt (op2_I0 fun _ _ _ => denB _) ha hb
theorem dt_le (ha : DE X a τa ta) (hb : DE X b τb tb) : DT X (.Compare a [.LtE] [b] pos) (L2.tB (tOp (rI0 fun i j => V.bl (decide (i ≤ j))) τa τb)) (dB (d2 (fI0 fun i j => .bl (decide (i ≤ j))) ta tb)) := dt_cmp op_le (op2_I0 fun _ _ _ => denB _) ha hb
theorem dt_gt (ha : DE X a τa ta) (hb : DE X b τb tb) : DT X (.Compare a [.Gt] [b] pos) (L2.tB (tOp (rI0 fun i j => V.bl (decide (j < i))) τa τb)) (dB (d2 (fI0 fun i j => .bl (decide (j < i))) ta tb)) := dt_cmp op_gt (op2_I0 fun _ _ _ => denB _) ha hb
theorem dt_ge (ha : DE X a τa ta) (hb : DE X b τb tb) : DT X (.Compare a [.GtE] [b] pos) (L2.tB (tOp (rI0 fun i j => V.bl (decide (j ≤ i))) τa τb)) (dB (d2 (fI0 fun i j => .bl (decide (j ≤ i))) ta tb)) := dt_cmp op_ge (op2_I0 fun _ _ _ => denB _) ha hb
theorem dt_in (ha : DE X a τa ta) (hb : DE X b τb tb) (hm : behindInMarks .In b = false := by rfl) : DT X (.Compare a [.In] [b] pos) (L2.tB (tOp (rIn X.K false) τa τb)) (dB (d2 (fIn false) ta tb)) := dt_cmp op_in_seq (op2_in false) ha hb hm
theorem dt_notin (ha : DE X a τa ta) (hb : DE X b τb tb) (hm : behindInMarks .NotIn b = false := by rfl) : DT X (.Compare a [.NotIn] [b] pos) (L2.tB (tOp (rIn X.K true) τa τb)) (dB (d2 (fIn true) ta tb)) := dt_cmp op_notIn_seq (op2_in true) ha hb hm
theorem dt_din {kk : Nat} (hr : Room kk X.A) (ha : DE X a τa ta) (hb : DE X b τb tb) (h1 : behindInMarks .In b = false := by rfl) : DT X (.Compare a [.In] [b] pos) (L2.tB (tDIn τa τb)) (dB (d2 (fDin false) ta tb)) :=
  dt_mk (pt_cmp (pc_din (hu_of hr) ha.pe hb.pe) h1) (de_din (pos := pos) hr ha hb h1).r
theorem dt_dnotin {kk : Nat} (hr : Room kk X.A) (ha : DE X a τa ta) (hb : DE X b τb tb) (h1 : behindInMarks .NotIn b = false := by rfl) : DT X (.Compare a [.NotIn] [b] pos) (L2.tB (tDNotIn τa τb)) (dB (d2 (fDin true) ta tb)) :=
  dt_mk (pt_cmp (pc_dnotin (hu_of hr) ha.pe hb.pe) h1) (de_dnotin (pos := pos) hr ha hb h1).r
end
theorem de_globE {X : Cx} {x : Str} {i : Int} {pos : Pos} (hg : Gl X x) (hm : ∃ tk : Tok, X.mg x = some (.int i tk)) (hd : (x == ("__debug__" : Str)) = false := by decide) : DE X (.Name x pos) (tC (.int i)) (dC (.int i)) := by
  obtain ⟨tk, e⟩ := hm
  exact de_globI hg e hd
/-- a comprehension whose elements are new cells -/
theorem lcNew {g1 : G} {gt : DGt} {tt : DTt} {te : Dt} {vs : List Nat} {fin : Fin3} {Q : W → G → Prop} {ws : List W} {St : G → Prop} {ι : Type} (items : List ι) (enc : ι → W) (out : ι → Cell) (hws : ws = items.map enc) (hlen : items.length ≤ sizeLine) (hSt : ∀ g', St g')
    (hel : ∀ x ∈ items, ∀ (m : Sto) (Y : W → G → Prop) (N : G → Prop), (∀ g4, g4.wipe vs = ⟨wipeW g1.sl vs, m ++ [some (out x)]⟩ → Y (.h m.length) g4) → gt (enc x) ⟨wipeW g1.sl vs, m⟩ fun g2 => tt g2 fun b g3 => if b = true then te g3 Y else N g3)
    (hQ : fin ((List.range items.length).map fun j => W.h (g1.mem.length + j)) ((⟨wipeW g1.sl vs, g1.mem ++ items.map fun x => some (out x)⟩ : G).rs g1 vs) Q) : lcI fin ws St g1 gt tt te vs Q := by
  subst hws
  refine ⟨fun i acc g' => acc = (List.range i).map (fun j => W.h (g1.mem.length + j)) ∧ i ≤ items.length ∧ g' = ⟨wipeW g1.sl vs, g1.mem ++ (items.take i).map fun x => some (out x)⟩, ⟨rfl, Nat.zero_le _, by rw [List.take_zero, List.map_nil, List.append_nil]; rfl⟩, ?_, ?_, by simpa using hlen, ?_⟩
  · rintro i acc g' ⟨rfl, _, rfl⟩
    exact ⟨hSt _, by rw [List.length_map, List.length_range]; exact Nat.le_refl _⟩
  · rintro i acc w g' hw' ⟨rfl, hi, rfl⟩
    rw [List.getElem?_map] at hw'
    cases e : items[i]? with
    | none => rw [e] at hw'; cases hw'
    | some x =>
      rw [e] at hw'
      cases hw'
      have hil : i < items.length := (List.getElem?_eq_some_iff.mp e).1
      refine hel x (List.mem_of_getElem? e) _ _ _ fun g4 h4 => ⟨?_, hil, ?_⟩
      · rw [List.range_succ, List.map_append, List.length_append, List.length_map, List.length_take, Nat.min_eq_left hi]
        rfl
      · rw [h4, List.take_add_one, e, List.map_append, List.append_assoc]
        rfl
  · rintro acc g' ⟨rfl, _, rfl⟩
    rw [List.length_map, List.take_length]
    exact hQ
end DL

namespace DL
open PySem PySem.Spec L2
/-! a part of a tuple -/
def onCutT (g3 : G) (x : W) (lo hi : Option Int) (Q : W → G → Prop) : Prop := match x with
  | .t (.tup ts) => ¬ (HT.sIx ts.length 0 lo = 0 ∧ HT.sIx ts.length ts.length hi = ts.length) ∧ Q (.t (.tup (cut ts lo hi))) g3
  | _ => False
def dSlT (t : Dt) (l u : DOt) : Dt := fun g Q => t g fun x g1 => l g1 fun lo g2 => u g2 fun hi g3 => onCutT g3 x lo hi Q
section
variable {X : Cx} {a : Expr} {τa : TE} {ta : Dt} {pos : Pos}
theorem de_slT {lo hi : Option Expr} {τl τh : TO} {tl th : DOt} {p2 : Pos} (ha : DE X a τa ta) (hl : DO X lo τl tl) (hh : DO X hi τh th) : DE X (.Subscript a (.Slice lo hi none p2) pos) (tSl (rSlT X.K) τa τl τh) (dSlT ta tl th) := by
  refine ⟨pe_slice sl_tup ha.pe hl.pe hh.pe, fun al S F H σ g Q QV R q k => ?_⟩
  refine ha.r al S F H σ g _ _ R q fun al1 S1 H1 g1 v1 w1 R1 gr1 e1 q1 => ?_
  refine hl.r al1 S1 F H1 σ g1 _ _ R1 q1 fun al2 S2 H2 g2 b2 R2 gr2 q2 => ?_
  refine hh.r al2 S2 F H2 σ g2 _ _ R2 q2 fun al3 S3 H3 g3 b3 R3 gr3 q3 => ?_
  unfold onCutT at q3
  split at q3
  · rename_i ts
    have e2 := e1.grow (gr2.trans gr3)
    unfold DenW Den at e2
    obtain ⟨a, vs, rfl, h1, h2⟩ := e2
    have h2 := Dens.iff.mp h2
    refine ⟨a, vs, rfl, seqT R3.same h1, ?_, fun p np => ?_⟩
    · rw [← h2.length]
      exact q3.1
    · have hp : Paired (Den X.K S3) (cut ts b2 b3) (cutV vs b2 b3) := by
        unfold cut cutV
        rw [h2.length]
        exact ptake _ (pdrop _ h2)
      obtain ⟨R4, gr4, d⟩ := R3.layTup np hp
      exact k _ _ _ _ _ _ R4 (gr1.trans (gr2.trans (gr3.trans gr4))) d q3.2
  · exact q3.elim
end
theorem i_slT {g : G} {Q : W → G → Prop} {t : Dt} {l u : DOt} (h : t g fun x g1 => l g1 fun lo g2 => u g2 fun hi g3 => onCutT g3 x lo hi Q) : dSlT t l u g Q := h
theorem o_cutT {g : G} {Q : W → G → Prop} {lo hi : Option Int} {ts : List T} (hn : ¬ (HT.sIx ts.length 0 lo = 0 ∧ HT.sIx ts.length ts.length hi = ts.length)) (h : Q (.t (.tup (cut ts lo hi))) g) : onCutT g (.t (.tup ts)) lo hi Q := ⟨hn, h⟩
/-! [x] * n as a new cell -/
def fRepH : F2 := fun g x y Q => match g.seqL? x, y with
  | some xs, .t (.int k) => (-(2 ^ 63) ≤ k ∧ k < 2 ^ 63 ∧ xs.length * k.toNat ≤ sizeLine) ∧ Q (.h g.mem.length) (g.push (.lt (List.replicate k.toNat xs).flatten))
  | _, _ => False
theorem op2_repH {K : PySem.W.Frag} : Op2 K rRep fRepH := by
  intro al S F H σ g x y wx wy Q QV R dx dy q k
  unfold fRepH at q
  split at q
  · rename_i xs z ex
    obtain ⟨a, vs, rfl, h1, h2⟩ := R.viewL dx ex
    unfold DenW Den at dy
    refine ⟨a, z, vs, rfl, dy, h1, q.1.1, q.1.2.1, by rw [← h2.length]; exact q.1.2.2, fun p np => ?_⟩
    obtain ⟨R1, gr, d⟩ := R.pushC (c := .lt (List.replicate z.toNat xs).flatten) (o := .lst (List.replicate z.toNat vs).flatten) np ⟨_, rfl, prep h2 z.toNat⟩
    exact k _ _ _ _ _ _ R1 gr d q.2
  · exact q.elim
section
variable {X : Cx} {a b : Expr} {τa τb : TE} {ta tb : Dt} {pos : Pos}
theorem de_repH (ha : DE X a τa ta) (hb : DE X b τb tb) : DE X (.BinOp a .Mult b pos) (tOp rRep τa τb) (d2 fRepH ta tb) := de_op op_rep op2_repH ha hb
end
theorem i_repH {g : G} {Q : W → G → Prop} {x : W} {xs : List T} {k : Int} (e1 : g.seqL? x = some xs) (hl : -(2 ^ 63) ≤ k ∧ k < 2 ^ 63 ∧ xs.length * k.toNat ≤ sizeLine) (h : Q (.h g.mem.length) (g.push (.lt (List.replicate k.toNat xs).flatten))) : fRepH g x (.t (.int k)) Q := by
  unfold fRepH; rw [e1]; exact ⟨hl, h⟩
/-! lists of handles, gone through -/
theorem o_LqW {g : G} {w : W} {us : List W} {P : List W → (G → Prop) → Prop} (e0 : g.lq? w = none) (e : g.wseq? w = some us) (h : P us (fun g' => g'.wseq? w = some us)) : onLq g w P := by
  unfold onLq; rw [e0]; dsimp only; rw [e]; exact h
theorem lcW {g1 : G} {gt : DGt} {tt : DTt} {te : Dt} {vs : List Nat} {fin : Fin3} {Q : W → G → Prop} {ws : List W} {St : G → Prop} {ι : Type} (items : List ι) (enc : ι → W) (keep : ι → Bool) (out : ι → W) (hws : ws = items.map enc) (hlen : items.length ≤ sizeLine) (hSt : St (g1.wipe vs))
    (hel : ∀ x ∈ items, ∀ (Y : W → G → Prop) (N : G → Prop), (keep x = true → ∀ g4, g4.wipe vs = g1.wipe vs → Y (out x) g4) → (keep x = false → ∀ g3, g3.wipe vs = g1.wipe vs → N g3) → gt (enc x) (g1.wipe vs) fun g2 => tt g2 fun b g3 => if b = true then te g3 Y else N g3)
    (hQ : fin ((items.filter keep).map out) ((g1.wipe vs).rs g1 vs) Q) : lcI fin ws St g1 gt tt te vs Q := by
  subst hws
  refine ⟨fun i acc g' => acc = (((items.take i).filter keep).map out) ∧ g' = g1.wipe vs, ⟨rfl, rfl⟩, ?_, ?_, by simpa using hlen, ?_⟩
  · rintro i acc g' ⟨rfl, rfl⟩
    refine ⟨hSt, ?_⟩
    rw [List.length_map]
    exact Nat.le_trans (List.length_filter_le _ _) (by rw [List.length_take]; exact Nat.min_le_left _ _)
  · rintro i acc w g' hw' ⟨rfl, rfl⟩
    rw [List.getElem?_map] at hw'
    cases e : items[i]? with
    | none => rw [e] at hw'; cases hw'
    | some x =>
      rw [e] at hw'
      cases hw'
      refine hel x (List.mem_of_getElem? e) _ _ (fun hk g4 h4 => ⟨?_, h4⟩) (fun hk g3 h3 => ⟨?_, h3⟩)
      · rw [List.take_add_one, e, List.filter_append, List.map_append]
        simp [hk]
      · rw [List.take_add_one, e, List.filter_append, List.map_append]
        simp [hk]
  · rintro acc g' ⟨rfl, rfl⟩
    rw [List.length_map, List.take_length]
    exact hQ
end DL

namespace DL
open PySem PySem.Spec L2
/-! sorted(list of ints) -/
def fSorted : FN := fun g ws Q => match ws with
  | [w] => ∃ ns : List Int, g.lq? w = some (ns.map T.int) ∧ ∀ ns' : List Int, ns'.Perm ns → ns'.Pairwise (· ≤ ·) → Q (.t (.lst (ns'.map T.int))) g
  | _ => False
def fSortedH : FN := fun g ws Q => match ws with
  | [w] => ∃ ns : List Int, g.lq? w = some (ns.map T.int) ∧ ∀ ns' : List Int, ns'.Perm ns → ns'.Pairwise (· ≤ ·) → Q (.h g.mem.length) (g.push (.lt (ns'.map T.int)))
  | _ => False
theorem opN_sorted {K : PySem.W.Frag} : OpN K (rSortedI K) fSorted := by
  intro al S F H σ g xs ws Q QV R ds q k
  unfold fSorted at q
  split at q
  · obtain ⟨v, rfl, d⟩ := p1 ds
    obtain ⟨ns, e, q⟩ := q
    obtain ⟨a, rfl, h1⟩ := R.viewI d e
    refine ⟨a, ns, rfl, h1, fun ns' p hp hs np => ?_⟩
    obtain ⟨R2, gr2, d2⟩ := R.layL np (ts := ns'.map T.int) (den_ints ns')
    exact k _ _ _ _ _ _ R2 gr2 d2 (q ns' hp hs)
  · exact q.elim
theorem opN_sortedH {K : PySem.W.Frag} : OpN K (rSortedI K) fSortedH := by
  intro al S F H σ g xs ws Q QV R ds q k
  unfold fSortedH at q
  split at q
  · obtain ⟨v, rfl, d⟩ := p1 ds
    obtain ⟨ns, e, q⟩ := q
    obtain ⟨a, rfl, h1⟩ := R.viewI d e
    refine ⟨a, ns, rfl, h1, fun ns' p hp hs np => ?_⟩
    obtain ⟨R2, gr2, d2⟩ := R.pushC (c := .lt (ns'.map T.int)) (o := .lst (ns'.map V.int)) np ⟨_, rfl, den_ints ns'⟩
    exact k _ _ _ _ _ _ R2 gr2 d2 (q ns' hp hs)
  · exact q.elim
section
variable {X : Cx} {e : Expr} {es : List Expr} {τs : TA} {ts : DAt} {p pos : Pos}
theorem de_sorted (hm : X.mg "sorted" = none) (ha : DA X (e :: es) τs ts) (hg : Gl X "sorted" := by rfl) (he : starEach (e :: es) X.env = (false, eval e X.env) :: starEach es X.env := by rfl) (hpl : (backTo pos (starEach es X.env)).any (·.1) = false := by rfl) :
    DE X (.Call (.Name "sorted" p) (e :: es) [] pos) (tCB (rSortedI X.K) τs) (dN fSorted ts) := de_cB cr_sortedI opN_sorted hm ha (by decide +kernel) hg (by decide) (by decide) he hpl
theorem de_sortedH (hm : X.mg "sorted" = none) (ha : DA X (e :: es) τs ts) (hg : Gl X "sorted" := by rfl) (he : starEach (e :: es) X.env = (false, eval e X.env) :: starEach es X.env := by rfl) (hpl : (backTo pos (starEach es X.env)).any (·.1) = false := by rfl) :
    DE X (.Call (.Name "sorted" p) (e :: es) [] pos) (tCB (rSortedI X.K) τs) (dN fSortedH ts) := de_cB cr_sortedI opN_sortedH hm ha (by decide +kernel) hg (by decide) (by decide) he hpl
/-! calls without arguments -/
theorem de_callS0 {k : Nat} {f : Addr} {fd : FuncData} {ps : List Str} {C : SC} {x : Str} (F : FnOk X.prog X.w X.K X.mg X.base CX0 k f fd ps (sps X.K C)) (hr : Room k X.A) (hm : X.mg x = some (.ref f)) (hk : PySem.W.keepIn X.K (.ref f) = true) (hb : Binds X.K fd ps [])
    (hg : Gl X x := by rfl) (hdb : (x == ("__debug__" : Str)) = false := by decide) : DE X (.Call (.Name x p) [] [] pos) (tCall (sps X.K C) [] E0 tNil) (dCallS C dNil) :=
  ⟨pe_call0 F hr hg hm hk hb .nil pass0 hdb, der_callS (da_nil (X := X)).r⟩
theorem de_callT0 {k : Nat} {f : Addr} {fd : FuncData} {ps : List Str} {C : PC} {x : Str} (F : FnOk X.prog X.w X.K X.mg X.base CX0 k f fd ps (sps X.K C.s)) (hr : Room k X.A) (hm : X.mg x = some (.ref f)) (hk : PySem.W.keepIn X.K (.ref f) = true) (hb : Binds X.K fd ps [])
    (hg : Gl X x := by rfl) (hdb : (x == ("__debug__" : Str)) = false := by decide) : DE X (.Call (.Name x p) [] [] pos) (tCall (sps X.K C.s) [] E0 tNil) (dCallT C dNil) :=
  ⟨pe_call0 F hr hg hm hk hb .nil pass0 hdb, der_callT (da_nil (X := X)).r⟩
theorem de_callH0 {k : Nat} {f : Addr} {fd : FuncData} {ps : List Str} {C : PC} {x : Str} (F : FnOk X.prog X.w X.K X.mg X.base CX0 k f fd ps (sps X.K C.s)) (hr : Room k X.A) (hm : X.mg x = some (.ref f)) (hk : PySem.W.keepIn X.K (.ref f) = true) (hb : Binds X.K fd ps [])
    (hg : Gl X x := by rfl) (hdb : (x == ("__debug__" : Str)) = false := by decide) : DE X (.Call (.Name x p) [] [] pos) (tCall (sps X.K C.s) [] E0 tNil) (dCallH C dNil) :=
  ⟨pe_call0 F hr hg hm hk hb .nil pass0 hdb, der_callH (da_nil (X := X)).r⟩
end
theorem i_sorted {g : G} {Q : W → G → Prop} {w : W} {ns : List Int} (e : g.lq? w = some (ns.map T.int)) (h : ∀ ns' : List Int, ns'.Perm ns → ns'.Pairwise (· ≤ ·) → Q (.t (.lst (ns'.map T.int))) g) : fSorted g [w] Q := ⟨ns, e, h⟩
theorem i_sortedH {g : G} {Q : W → G → Prop} {w : W} {ns : List Int} (e : g.lq? w = some (ns.map T.int)) (h : ∀ ns' : List Int, ns'.Perm ns → ns'.Pairwise (· ≤ ·) → Q (.h g.mem.length) (g.push (.lt (ns'.map T.int)))) : fSortedH g [w] Q := ⟨ns, e, h⟩
def onTp (w : W) (P : List T → Prop) : Prop := match w with | .t (.tup ts) => P ts | _ => False
theorem o_Tp {ts : List T} {P : List T → Prop} (h : P ts) : onTp (.t (.tup ts)) P := h
theorem i_itT {g : G} {t : Dt} {P : List W → (G → Prop) → G → Prop} (h : t g fun w g1 => onTp w fun ts => P (ts.map W.t) (fun _ => True) g1) : diT t g P := h
end DL

namespace DL
open PySem PySem.Spec L2
/-! x // y with a wide y -/
theorem de_fdivW {X : Cx} {a b : Expr} {τa τb : TE} {ta tb : Dt} {pos : Pos} (ha : DE X a τa ta) (hb : DE X b τb tb) : DE X (.BinOp a .FloorDiv b pos) (tOp (rI CDivW fun i j => .int (i / j)) τa τb) (d2 (fI CDivW fun i j => .int (i / j)) ta tb) := de_op op_fdivW (op2_I fun _ _ _ => denI _) ha hb
/-! is None; d.get(k, x) -/
def W.isN : W → Bool
  | .t .non => true
  | _ => false
def W.known : W → Bool
  | .t (.raw _) => false
  | _ => true
theorem isN_of {K : PySem.W.Frag} {al : List Addr} {S : Hp} : ∀ {w : W} {v : V}, w.known = true → DenW K al S w v → decide (v = .non) = w.isN
  | .h n, v, _, d => by
    obtain ⟨a, _, rfl⟩ := d
    rfl
  | .t x, v, h, d => by
    cases x with
    | raw _ => cases h
    | non =>
      unfold DenW Den at d
      subst d
      rfl
    | bl b =>
      unfold DenW Den at d
      subst d
      rfl
    | int b =>
      unfold DenW Den at d
      subst d
      rfl
    | str b =>
      unfold DenW Den at d
      subst d
      rfl
    | lst b =>
      unfold DenW Den at d
      obtain ⟨a, _, rfl, _⟩ := d
      rfl
    | sq b =>
      unfold DenW Den at d
      obtain ⟨a, _, rfl, _⟩ := d
      rfl
    | tup b =>
      unfold DenW Den at d
      obtain ⟨a, _, rfl, _⟩ := d
      rfl
    | dk b c =>
      unfold DenW Den at d
      obtain ⟨a, _, rfl, _⟩ := d
      rfl
    | exc b =>
      unfold DenW Den at d
      obtain ⟨a, _, rfl, _⟩ := d
      rfl
def fNone (neg : Bool) : F1 := fun g w Q => w.known = true ∧ Q (.t (.bl (if neg then !w.isN else w.isN))) g
section
variable {X : Cx} {a b e f : Expr} {τa τb τf : TE} {ta tb tf : Dt} {pos pos' : Pos} {j : Nat}
theorem der_isNone {K : PySem.W.Frag} (h : DEr K τa ta) : DEr K (tIsN τa) (d1 (fNone false) ta) := by
  intro al S F H σ g Q QV R q k
  refine h al S F H σ g _ _ R q fun al1 S1 H1 g1 v1 w1 R1 gr1 e1 q1 => ?_
  rw [isN_of q1.1 e1]
  exact k al1 S1 H1 g1 _ (.t (.bl w1.isN)) R1 gr1 (by unfold DenW Den; rfl) q1.2
theorem der_notNone {K : PySem.W.Frag} (h : DEr K τa ta) : DEr K (tNotN τa) (d1 (fNone true) ta) := by
  intro al S F H σ g Q QV R q k
  refine h al S F H σ g _ _ R q fun al1 S1 H1 g1 v1 w1 R1 gr1 e1 q1 => ?_
  rw [isN_of q1.1 e1]
  exact k al1 S1 H1 g1 _ (.t (.bl (!w1.isN))) R1 gr1 (by unfold DenW Den; rfl) q1.2
theorem de_isNone (ha : DE X a τa ta) (h1 : behindInMarks .Is (.Constant .none j pos') = false := by rfl) : DE X (.Compare a [.Is] [.Constant .none j pos'] pos) (tIsN τa) (d1 (fNone false) ta) :=
  ⟨pe_cmp (pc_isN ha.pe) h1, der_isNone ha.r⟩
theorem de_notNone (ha : DE X a τa ta) (h1 : behindInMarks .IsNot (.Constant .none j pos') = false := by rfl) : DE X (.Compare a [.IsNot] [.Constant .none j pos'] pos) (tNotN τa) (d1 (fNone true) ta) :=
  ⟨pe_cmp (pc_notN ha.pe) h1, der_notNone ha.r⟩
theorem dt_isNone (ha : DE X a τa ta) (h1 : behindInMarks .Is (.Constant .none j pos') = false := by rfl) : DT X (.Compare a [.Is] [.Constant .none j pos'] pos) (L2.tB (tIsN τa)) (dB (d1 (fNone false) ta)) :=
  dt_mk (pt_cmp (pc_isN ha.pe) h1) (der_isNone ha.r)
theorem dt_notNone (ha : DE X a τa ta) (h1 : behindInMarks .IsNot (.Constant .none j pos') = false := by rfl) : DT X (.Compare a [.IsNot] [.Constant .none j pos'] pos) (L2.tB (tNotN τa)) (dB (d1 (fNone true) ta)) :=
  dt_mk (pt_cmp (pc_notN ha.pe) h1) (der_notNone ha.r)
def onGetD (o y z : W) (g : G) (Q : W → G → Prop) : Prop := match y with
  | .t ky => (match keyT ky with
    | some k => (match g.dct? o with
      | some (ks, ts) => (match look ks ts k with | some v => Q (.t v) g | none => Q z g)
      | none => False)
    | none => False)
  | _ => False
def dGetD (td ty tz : Dt) : Dt := fun g Q => td g fun o g1 => (g1.dct? o).isSome = true ∧ ty g1 fun y g2 => tz g2 fun z g3 => onGetD o y z g3 Q
theorem de_getD {kk : Nat} {apos : Pos} (hr : Room kk X.A) (ha : DE X a τa ta) (hb : DE X b τb tb) (hf : DE X f τf tf)
    (m : M2 X a "get" apos b f pos := by exact ⟨rfl, rfl, rfl, rfl⟩) : DE X (.Call (.Attribute a "get" apos) [b, f] [] pos) (tDGet2 τa τb τf) (dGetD ta tb tf) := by
  refine ⟨pe_dget2 (hu_of hr) ha.pe hb.pe hf.pe m, fun al S F H σ g Q QV R q k => ?_⟩
  refine ha.r al S F H σ g _ _ R q fun al1 S1 H1 g1 v1 w1 R1 gr1 e1 q1 => ?_
  obtain ⟨hd, q1⟩ := q1
  obtain ⟨⟨ks1, ts1⟩, ed⟩ := Option.isSome_iff_exists.mp hd
  obtain ⟨p, vs, rfl, h1, h2, h3⟩ := R1.viewD e1 ed
  refine ⟨p, rfl, .inl ⟨_, .inl h1⟩, ?_⟩
  refine hb.r al1 S1 F H1 σ g1 _ _ R1 q1 fun al2 S2 H2 g2 v2 w2 R2 gr2 e2 q2 => ?_
  refine hf.r al2 S2 F H2 σ g2 _ _ R2 q2 fun al3 S3 H3 g3 v3 w3 R3 gr3 e3 q3 => ?_
  have gr := (gr1.trans gr2).trans gr3
  unfold onGetD at q3
  split at q3
  · split at q3
    · rename_i key ek
      have ev := key_den ek (e2.grow gr3)
      subst ev
      split at q3
      · rename_i ks ts ed3
        obtain ⟨p', vs3, hp, h4, h5, h6⟩ := R3.viewD (e1.grow (gr2.trans gr3)) ed3
        cases hp
        refine ⟨_, DGet.k h4, ?_⟩
        have lz := look_zip (ks := ks) key h6
        split at q3
        · rename_i r er
          rw [er] at lz
          cases e4 : valV (ks.zip vs3) key with
          | none => rw [e4] at lz; exact lz.elim
          | some v =>
            rw [e4] at lz
            exact k _ _ _ _ _ (.t r) R3 gr lz q3
        · rename_i er
          rw [er] at lz
          cases e4 : valV (ks.zip vs3) key with
          | some v => rw [e4] at lz; exact lz.elim
          | none => exact k _ _ _ _ _ w3 R3 gr e3 q3
      · exact q3.elim
    · exact q3.elim
  · exact q3.elim
end
section
variable {g : G} {Q : W → G → Prop}
theorem i_none {neg : Bool} {w : W} (hk : w.known = true) (h : Q (.t (.bl (if neg then !w.isN else w.isN))) g) : fNone neg g w Q := ⟨hk, h⟩
theorem i_getD {td ty tz : Dt} (h : td g fun o g1 => (g1.dct? o).isSome = true ∧ ty g1 fun y g2 => tz g2 fun z g3 => onGetD o y z g3 Q) : dGetD td ty tz g Q := h
theorem o_getS {o z : W} {ky v : T} {k : Key} {ks : List Key} {us : List T} (ek : keyT ky = some k) (e : g.dct? o = some (ks, us)) (el : look ks us k = some v) (h : Q (.t v) g) : onGetD o (.t ky) z g Q := by
  unfold onGetD; dsimp only; rw [ek]; dsimp only; rw [e]; dsimp only; rw [el]; exact h
theorem o_getN {o z : W} {ky : T} {k : Key} {ks : List Key} {us : List T} (ek : keyT ky = some k) (e : g.dct? o = some (ks, us)) (el : look ks us k = none) (h : Q z g) : onGetD o (.t ky) z g Q := by
  unfold onGetD; dsimp only; rw [ek]; dsimp only; rw [e]; dsimp only; rw [el]; exact h
end
end DL

namespace DL
open PySem PySem.Spec L2
/-! sorted(set(a list of ints)) -/
/-- an empty set as it is made -/
abbrev noneYet (w : World) : Obj := { cls := .type "set", dict := none, data := .set #[] 0 (.fresh 0 0 (!w.params.followText "set-order")) }
section
open PyProof.Rows
variable {P : Program} {w : World} {A : Around} {E : Value → Shared → Prop} {s : Shared}
set_option maxHeartbeats 3300000 in
theorem set_of_list {l : Addr} {its : Array Value} (xs : List Int) {Q : Value → Shared → Prop} (hA : A.handled = none) (il : s.heap.IsList l its) (ia : IntsAre its.toList xs) (room : xs.length + 1 < scanBound)
    (k : ∀ (g : Heap) (u m : Nat), SetR w g s.heap.objs.size (fun j => decide (j ∈ xs)) m → m ≤ xs.length → (∀ b o, s.heap.get? b = some o → g.get? b = some o) → Q (.ref s.heap.objs.size) { s with heap := g, toks := u }) :
    wpAny (model P w) A (call (.type "set") [.ref l]) Q E s := by
  have sz : its.size = xs.length := by have q := IntsAre.length ia; rw [Array.length_toList] at q; exact q
  obtain ⟨_, _, f0⟩ := F.called_set.mro; have f1 := F.called_set.made; have f2 := F.called_set.sub
  refine wpAny_call (codeAny_of_tree ?_); show wpAny _ _ (callAny (.type "set") _) _ _ _
  refine wpAny_pure ⟨Code.quiet_builtin _ (by decide +kernel), codeAny_builtin F.entry_type_call ?_⟩; rw [Around.under_plain (weight_type_call_type "set" [.ref l] []) rfl]
  have f3 := F.called_set.notType; have f4 := F.called_set.canCreate; have f5 := F.typeCall_set_1 (.ref l)
  repeat (any_goals (first | assumption | wp_step))
  refine codeAny_mono (code_set_led1 (.ref l) (E := E) (Q₁ := fun x t => x = .ref s.heap.objs.size ∧ t = { s with heap := s.heap.push (noneYet w) }) ⟨rfl, rfl⟩) fun r t hr => ?_
  cases r with
  | error e => exact hr
  | ok fl =>
    cases fl with
    | ret x =>
      obtain ⟨rfl, rfl⟩ := hr
      have at0 : (s.heap.push (noneYet w)).get? s.heap.objs.size = some (noneYet w) := Heap.get?_push_size _ rfl
      have ty0 : Shared.TypeIs { s with heap := s.heap.push (noneYet w) } (.ref s.heap.objs.size) "set" := ⟨_, at0, rfl⟩
      have f6 := F.called_set.init.lookup; have f7 := F.called_set.init.bind (.ref s.heap.objs.size)
      repeat (any_goals (first | assumption | wp_step))
      refine codeAny_mono (codeAny_call_builtin (R := wants (fun r t2 => r = .none ∧ ∃ g u m, t2 = { s with heap := g, toks := u } ∧ SetR w g s.heap.objs.size (fun j => decide (j ∈ xs)) m ∧ m ≤ xs.length ∧
          (∀ b o, s.heap.get? b = some o → g.get? b = some o)) E) F.called_set.init.plain F.entry_set_init (check_set_init_1 ty0 ?_)) fun r2 t2 hr2 => ?_
      · obtain ⟨ol, ho, hc, nl, hd⟩ := il; obtain ⟨oc, odc, oda, osl⟩ := ol
        simp only at hc hd; subst hc; subst hd
        have ho' : (s.heap.push (noneYet w)).get? l = some { cls := .type "list", dict := odc, data := .seq its nl, slots := osl } := Heap.get?_push_of_some _ ho
        have f8 := F.sub_list_set; have f9 := F.sub_list_frozenset
        have fa : (Value.type "list" == Value.type "dict") = false := by decide
        have il1 : (s.heap.push (noneYet w)).IsList l its := ⟨_, ho', rfl, nl, rfl⟩
        unfold Builtin.«set.__init__» noKeywords Builtin.Frozenset.updateFrom
        generalize hPI : pyIter = PI
        wp_walk
        subst hPI
        refine wpAny_pyIter_list il1 (wpAny_bind (wpAny_runValue ?_))
        have below : l < s.heap.objs.size := Heap.lt_size ho
        have hA3 : A.in1.in1.in1.handled = none := by simp [hA]
        have z1 : (s.heap.push (noneYet w)).objs.size = s.heap.objs.size + 1 := Heap.size_push ..
        have neI : l ≠ (s.heap.push (noneYet w)).objs.size := by rw [z1]; exact Nat.ne_of_lt (Nat.lt_succ_of_lt below)
        have out : s.heap.objs.size ∉ [(s.heap.push (noneYet w)).objs.size, l] := by
          rw [z1]; intro z; rcases List.mem_cons.mp z with y | y
          · exact absurd y (Nat.ne_of_lt (Nat.lt_succ_self _))
          · exact absurd (List.mem_singleton.mp y) (Nat.ne_of_gt below)
        have vals : ∀ (i : Nat) (v : Value), its[i]? = some v → ∃ k t, xs[i]? = some k ∧ v = .int k t := fun i v hv => by
          have hi : i < xs.length := sz ▸ (Array.getElem?_eq_some_iff.mp hv).1
          obtain ⟨t, e⟩ := PyProof.Rows.IntsAre.int_at ia i v (by rw [Array.getElem?_toList]; exact hv)
          exact ⟨xs[i], t, List.getElem?_eq_getElem hi, by rw [e, List.getD_eq_getElem?_getD, List.getElem?_eq_getElem hi]; rfl⟩
        refine set_update_ints ((Walks.list hA3 _ l neI its).toS) s.heap.objs.size out xs sz room vals (its.size - 0) 0 _ (by omega) (Nat.zero_le _) ⟨⟨_, Heap.get?_push_size _ rfl, rfl, rfl⟩, (il1.push _)⟩ ?a0 ?aR
        case a0 =>
          refine ⟨0, Nat.le_refl 0, setR_new_at ?_⟩
          exact Heap.get?_push_of_some _ at0
        case aR =>
          intro t3 m hm hc' hS'
          obtain ⟨g, g2, d', u, os'⟩ := t3
          have eg : g2 = s.gens := hm.gens
          have ed : d' = s.drawn := hm.drawn
          have eo : os' = s.os := hm.os
          subst eg ed eo
          show wpAny _ _ _ _ _ _
          refine wpAny_pure ?_; show wpAny _ _ (ret Value.none) _ _ _
          rw [sz] at hc'
          refine wpAny_pure ⟨rfl, g, u, m, rfl, hS', hc', fun b o e => ?_⟩
          have hb0 : b < s.heap.objs.size := Heap.lt_size e
          refine hm.heap b o (fun z => ?_) ?_
          · rw [z1] at z
            rcases List.mem_cons.mp z with y | y
            · exact absurd y (Nat.ne_of_lt hb0)
            · exact absurd (List.mem_singleton.mp y) (Nat.ne_of_lt (Nat.lt_succ_of_lt hb0))
          exact Heap.get?_push_of_some _ (Heap.get?_push_of_some _ e)
      · cases r2 with
        | error e => exact hr2
        | ok f2 =>
          cases f2 with
          | ret r =>
            obtain ⟨rfl, g, u, m, rfl, hS', hc', hk'⟩ := hr2
            repeat (any_goals (first | assumption | wp_step))
            exact k _ _ _ hS' hc' hk'
          | _ => exact hr2.elim
    | _ => exact hr.elim
end
/-- the set of the ints of a list, m of them -/
def SetI (w : World) (a : Addr) (xs : List Int) (m : Nat) : HO := .ext fun h => SetR w h a (fun j => decide (j ∈ xs)) m
section
variable {X : Cx}
theorem setI_ok {P : Program} {w : World} {H : Hp} {h : Heap} {a : Addr} {xs : List Int} {m : Nat} (R : SetR w h a (fun j => decide (j ∈ xs)) m) : ObjOk P w H h a (SetI w a xs m) := by
  have ⟨o, _, _, _, ho, _⟩ := R
  exact ⟨R, ⟨o, ho⟩, fun h1 h2 p k => p.at k⟩
/-- set(l) -/
def rSetL (K : PySem.W.Frag) (w : World) : List V → Hp → VK → Prop := fun vs H Q => ∃ (a : Addr) (xs : List Int), vs = [V.ref a] ∧ SqL K H a (xs.map V.int) ∧ xs.length ≤ 1000 ∧ ∀ p m, H p = none → m ≤ xs.length → Q (.ref p) (upd H p (SetI w p xs m))
theorem cr_setL (hc : X.calm = true) : CallR X (.type "set") (rSetL X.K X.w) := by
  intro pins s σ H vs us Q I r h
  obtain ⟨a, xs, rfl, hs, hl, q⟩ := h
  obtain ⟨its, rv, l1, hz⟩ := I.list hs
  rw [Vals.ref1 r]
  refine set_of_list xs (I.ok.hd hc) (show s.heap.IsList a its.toArray from l1.isList) rv.ints (by unfold scanBound; omega) fun g u m R1 hm k => ?_
  exact ⟨.ref _, upd H s.heap.objs.size (SetI X.w s.heap.objs.size xs m), I.laid (t' := u) k (Nat.le_refl _) (setI_ok R1), rfl, q _ m (I.hok.fresh (Nat.le_refl _)) hm⟩
/-- sorted(a set) -/
def rSortedS (w : World) : List V → Hp → VK → Prop := fun vs H Q => ∃ (a : Addr) (xs : List Int) (m : Nat), vs = [V.ref a] ∧ H a = some (SetI w a xs m) ∧ m < 64 ∧
  ∀ p (ns : List Int), H p = none → ns.Pairwise (· < ·) → (∀ j, j ∈ ns ↔ j ∈ xs) → Q (.ref p) (upd H p (.lst (ns.map V.int)))
theorem cr_sortedS (hc : X.calm = true) : CallR X (.builtin "sorted") (rSortedS X.w) := by
  intro pins s σ H vs us Q I r h
  obtain ⟨a, xs, m, rfl, ha, hm, q⟩ := h
  have R : SetR X.w s.heap a (fun j => decide (j ∈ xs)) m := (I.hok a _ ha).1
  rw [Vals.ref1 r]
  refine sorted_set R (I.ok.hd hc) hm fun s' p out c ns k hg ho hp at0 hi hs hmem hlen => ?_
  have hv : (ns.map V.int).length ≤ sizeLine := by rw [List.length_map, hlen, sizeLine_eq]; omega
  have new : ObjOk X.prog X.w (upd H p (.lst (ns.map V.int))) s'.heap p (.lst (ns.map V.int)) := ⟨hv, out.toList, c, vals_of_ints hi, at0⟩
  exact ⟨.ref p, upd H p (.lst (ns.map V.int)), I.call' (ch := []) ho (Un.laid k hp (I.hok.fresh hp)) (I.hok.laid k hp new) (by rw [hg]; exact I.bare) (fun _ z => nomatch z), rfl, q p ns (I.hok.fresh hp) hs fun j => by rw [hmem j, decide_eq_true_eq]⟩
end
/-! sorted(set(l)), read -/
def fSortSet : FN := fun g ws Q => match ws with
  | [w] => ∃ ns : List Int, g.lq? w = some (ns.map T.int) ∧ ns.length < 64 ∧ ∀ ns' : List Int, ns'.Pairwise (· < ·) → (∀ j, j ∈ ns' ↔ j ∈ ns) → Q (.t (.lst (ns'.map T.int))) g
  | _ => False
def fSortSetH : FN := fun g ws Q => match ws with
  | [w] => ∃ ns : List Int, g.lq? w = some (ns.map T.int) ∧ ns.length < 64 ∧ ∀ ns' : List Int, ns'.Pairwise (· < ·) → (∀ j, j ∈ ns' ↔ j ∈ ns) → Q (.h g.mem.length) (g.push (.lt (ns'.map T.int)))
  | _ => False
section
variable {X : Cx} {e : Expr} {es : List Expr} {τs : TA} {ts : DAt} {p p2 pos pos2 : Pos}
theorem pe_sortSet (hc : X.calm = true) (hm : X.mg "sorted" = none) (hm2 : X.mg "set" = none) (ha : PA X [e] τs) (hg : Gl X "sorted") (hg2 : Gl X "set") (he : starEach [e] X.env = (false, eval e X.env) :: starEach [] X.env)
    (he2 : starEach [.Call (.Name "set" p2) [e] [] pos2] X.env = (false, eval (.Call (.Name "set" p2) [e] [] pos2) X.env) :: starEach [] X.env) (hpl : (backTo pos (starEach [] X.env)).any (·.1) = false) (hpl2 : (backTo pos2 (starEach [] X.env)).any (·.1) = false) :
    PE X (.Call (.Name "sorted" p) [.Call (.Name "set" p2) [e] [] pos2] [] pos) (tCB (rSortedS X.w) (tCons (tCB (rSetL X.K X.w) τs) tNil)) :=
  pe_callB (cr_sortedS hc) hg hm (by decide +kernel) (pa_cons (pe_callTy (cr_setL hc) hg2 hm2 (by decide +kernel) ha (by decide) (by decide) he hpl2) pa_nil he2) (by decide) (by decide) he2 hpl
theorem der_sortSet {K : PySem.W.Frag} {w : World} (rs : DAr K τs ts) : DEr K (tCB (rSortedS w) (tCons (tCB (rSetL K w) τs) tNil)) (dN fSortSet ts) := by
  intro al S F H σ g Q QV R q k
  refine rs al S F H σ g _ _ R q fun al1 S1 H1 g1 vs ws R1 gr1 d1 q1 => ?_
  unfold fSortSet at q1
  split at q1
  · obtain ⟨v, rfl, d⟩ := p1 d1
    obtain ⟨ns, e, hl, q2⟩ := q1
    obtain ⟨a, rfl, h1⟩ := R1.viewI d e
    refine ⟨a, ns, rfl, h1, by omega, fun p m np hm => ⟨p, ns, m, rfl, upd_same, by omega, fun p2 ns' np2 hs hj => ?_⟩⟩
    obtain ⟨R2, gr2⟩ := R1.layT (o := SetI w p ns m) np
    obtain ⟨R3, gr3, d3⟩ := R2.layL np2 (ts := ns'.map T.int) (den_ints ns')
    exact k _ _ _ _ _ _ R3 (gr1.trans (gr2.trans gr3)) d3 (q2 ns' hs hj)
  · exact q1.elim
theorem der_sortSetH {K : PySem.W.Frag} {w : World} (rs : DAr K τs ts) : DEr K (tCB (rSortedS w) (tCons (tCB (rSetL K w) τs) tNil)) (dN fSortSetH ts) := by
  intro al S F H σ g Q QV R q k
  refine rs al S F H σ g _ _ R q fun al1 S1 H1 g1 vs ws R1 gr1 d1 q1 => ?_
  unfold fSortSetH at q1
  split at q1
  · obtain ⟨v, rfl, d⟩ := p1 d1
    obtain ⟨ns, e, hl, q2⟩ := q1
    obtain ⟨a, rfl, h1⟩ := R1.viewI d e
    refine ⟨a, ns, rfl, h1, by omega, fun p m np hm => ⟨p, ns, m, rfl, upd_same, by omega, fun p2 ns' np2 hs hj => ?_⟩⟩
    obtain ⟨R2, gr2⟩ := R1.layT (o := SetI w p ns m) np
    obtain ⟨R3, gr3, d3⟩ := R2.pushC (c := .lt (ns'.map T.int)) (o := .lst (ns'.map V.int)) np2 ⟨_, rfl, den_ints ns'⟩
    exact k _ _ _ _ _ _ R3 (gr1.trans (gr2.trans gr3)) d3 (q2 ns' hs hj)
  · exact q1.elim
theorem de_sortSet (hc : X.calm = true) (hm : X.mg "sorted" = none) (hm2 : X.mg "set" = none) (ha : DA X [e] τs ts) (hg : Gl X "sorted" := by rfl) (hg2 : Gl X "set" := by rfl) (he : starEach [e] X.env = (false, eval e X.env) :: starEach [] X.env := by rfl)
    (he2 : starEach [.Call (.Name "set" p2) [e] [] pos2] X.env = (false, eval (.Call (.Name "set" p2) [e] [] pos2) X.env) :: starEach [] X.env := by rfl) (hpl : (backTo pos (starEach [] X.env)).any (·.1) = false := by rfl) (hpl2 : (backTo pos2 (starEach [] X.env)).any (·.1) = false := by rfl) :
    DE X (.Call (.Name "sorted" p) [.Call (.Name "set" p2) [e] [] pos2] [] pos) (tCB (rSortedS X.w) (tCons (tCB (rSetL X.K X.w) τs) tNil)) (dN fSortSet ts) := ⟨pe_sortSet hc hm hm2 ha.pe hg hg2 he he2 hpl hpl2, der_sortSet ha.r⟩
theorem de_sortSetH (hc : X.calm = true) (hm : X.mg "sorted" = none) (hm2 : X.mg "set" = none) (ha : DA X [e] τs ts) (hg : Gl X "sorted" := by rfl) (hg2 : Gl X "set" := by rfl) (he : starEach [e] X.env = (false, eval e X.env) :: starEach [] X.env := by rfl)
    (he2 : starEach [.Call (.Name "set" p2) [e] [] pos2] X.env = (false, eval (.Call (.Name "set" p2) [e] [] pos2) X.env) :: starEach [] X.env := by rfl) (hpl : (backTo pos (starEach [] X.env)).any (·.1) = false := by rfl) (hpl2 : (backTo pos2 (starEach [] X.env)).any (·.1) = false := by rfl) :
    DE X (.Call (.Name "sorted" p) [.Call (.Name "set" p2) [e] [] pos2] [] pos) (tCB (rSortedS X.w) (tCons (tCB (rSetL X.K X.w) τs) tNil)) (dN fSortSetH ts) := ⟨pe_sortSet hc hm hm2 ha.pe hg hg2 he he2 hpl hpl2, der_sortSetH ha.r⟩
end
theorem i_sortSet {g : G} {Q : W → G → Prop} {w : W} {ns : List Int} (e : g.lq? w = some (ns.map T.int)) (hl : ns.length < 64) (h : ∀ ns' : List Int, ns'.Pairwise (· < ·) → (∀ j, j ∈ ns' ↔ j ∈ ns) → Q (.t (.lst (ns'.map T.int))) g) : fSortSet g [w] Q := ⟨ns, e, hl, h⟩
theorem i_sortSetH {g : G} {Q : W → G → Prop} {w : W} {ns : List Int} (e : g.lq? w = some (ns.map T.int)) (hl : ns.length < 64) (h : ∀ ns' : List Int, ns'.Pairwise (· < ·) → (∀ j, j ∈ ns' ↔ j ∈ ns) → Q (.h g.mem.length) (g.push (.lt (ns'.map T.int)))) : fSortSetH g [w] Q := ⟨ns, e, hl, h⟩
/-! a list in a list of lists -/
def T.lst? : T → Option (List T)
  | .lst xs => some xs
  | .sq xs => some xs
  | _ => none
def inTs (x : T) (us : List T) : Bool := us.any fun z => teq z x
def fInT (neg : Bool) : F2 := fun g x y Q => match g.tree? x, g.tree? y with
  | some tx, some ty => ∃ us, ty.lst? = some us ∧ tx.sh 8 = true ∧ ty.sh 8 = true ∧ Q (.t (.bl (if neg then !inTs tx us else inTs tx us))) g
  | _, _ => False
theorem inTs_pd (x : T) (us : List T) : ((us.map T.pd).any fun z => PyData.eqv z x.pd) = inTs x us := by
  unfold inTs teq
  rw [List.any_map]
  rfl
theorem lst_pd {t : T} {us : List T} (h : t.lst? = some us) : t.pd = .list (us.map T.pd) := by
  cases t <;> first | (cases h; unfold T.pd; rfl) | cases h
theorem op2_inT {K : PySem.W.Frag} : Op2 K (rInD K) (fInT false) := by
  intro al S F H σ g x y wx wy Q QV R dx dy q k
  unfold fInT at q
  split at q
  · rename_i tx ty ex ey
    obtain ⟨us, hu, h1, h2, q⟩ := q
    refine ⟨tx.pd, us.map T.pd, dp_of 8 _ _ h1 (R.viewT dx ex), lst_pd hu ▸ dp_of 8 _ _ h2 (R.viewT dy ey), shaped_of h1 (by decide), lst_pd hu ▸ shaped_of h2 (by decide), ?_⟩
    rw [inTs_pd]
    exact k.tr R (denB _) q
  · exact q.elim
theorem op2_notinT {K : PySem.W.Frag} : Op2 K (rNotInD K) (fInT true) := by
  intro al S F H σ g x y wx wy Q QV R dx dy q k
  unfold fInT at q
  split at q
  · rename_i tx ty ex ey
    obtain ⟨us, hu, h1, h2, q⟩ := q
    refine ⟨tx.pd, us.map T.pd, dp_of 8 _ _ h1 (R.viewT dx ex), lst_pd hu ▸ dp_of 8 _ _ h2 (R.viewT dy ey), shaped_of h1 (by decide), lst_pd hu ▸ shaped_of h2 (by decide), ?_⟩
    rw [inTs_pd]
    exact k.tr R (denB _) q
  · exact q.elim
section
variable {X : Cx} {a b : Expr} {τa τb : TE} {ta tb : Dt} {pos : Pos} {kk : Nat}
theorem de_inT (hr : Room kk X.A) (ha : DE X a τa ta) (hb : DE X b τb tb) (hm : behindInMarks .In b = false := by rfl) : DE X (.Compare a [.In] [b] pos) (tOp (rInD X.K) τa τb) (d2 (fInT false) ta tb) := de_cmp (op_inD (by have := hr.un; omega)) op2_inT ha hb hm
theorem de_notinT (hr : Room kk X.A) (ha : DE X a τa ta) (hb : DE X b τb tb) (hm : behindInMarks .NotIn b = false := by rfl) : DE X (.Compare a [.NotIn] [b] pos) (tOp (rNotInD X.K) τa τb) (d2 (fInT true) ta tb) := de_cmp (op_notInD (by have := hr.un; omega)) op2_notinT ha hb hm
theorem dt_inT (hr : Room kk X.A) (ha : DE X a τa ta) (hb : DE X b τb tb) (hm : behindInMarks .In b = false := by rfl) : DT X (.Compare a [.In] [b] pos) (L2.tB (tOp (rInD X.K) τa τb)) (dB (d2 (fInT false) ta tb)) := dt_cmp (op_inD (by have := hr.un; omega)) op2_inT ha hb hm
theorem dt_notinT (hr : Room kk X.A) (ha : DE X a τa ta) (hb : DE X b τb tb) (hm : behindInMarks .NotIn b = false := by rfl) : DT X (.Compare a [.NotIn] [b] pos) (L2.tB (tOp (rNotInD X.K) τa τb)) (dB (d2 (fInT true) ta tb)) := dt_cmp (op_notInD (by have := hr.un; omega)) op2_notinT ha hb hm
end
theorem i_inT {g : G} {Q : W → G → Prop} {x y : W} {tx ty : T} {us : List T} (e1 : g.tree? x = some tx) (e2 : g.tree? y = some ty) (hu : ty.lst? = some us) (h1 : tx.sh 8 = true) (h2 : ty.sh 8 = true) (h : Q (.t (.bl (inTs tx us))) g) : fInT false g x y Q := by
  unfold fInT; rw [e1, e2]; exact ⟨us, hu, h1, h2, h⟩
theorem i_notinT {g : G} {Q : W → G → Prop} {x y : W} {tx ty : T} {us : List T} (e1 : g.tree? x = some tx) (e2 : g.tree? y = some ty) (hu : ty.lst? = some us) (h1 : tx.sh 8 = true) (h2 : ty.sh 8 = true) (h : Q (.t (.bl (!inTs tx us))) g) : fInT true g x y Q := by
  unfold fInT; rw [e1, e2]; exact ⟨us, hu, h1, h2, h⟩
end DL

namespace DL
open PySem PySem.Spec L2
/-! cells lent to a pure def: looked at as trees while it runs, cells again behind it; what comes back is flat -/
def lendW (g : G) : List W → Option (List T)
  | [] => some []
  | w :: r => match g.tree? w, lendW g r with | some t, some ts => some (t :: ts) | _, _ => none
def T.isFlat (t : T) : Bool := t.flat.isSome
theorem den_flat {K : PySem.W.Frag} {S S' : Hp} {t : T} {v : V} (h : t.isFlat = true) (d : Den K S t v) : Den K S' t v := by
  cases t <;> first | (unfold Den at d ⊢; exact d) | cases h
theorem dens_flat {K : PySem.W.Frag} {S S' : Hp} : ∀ {ts : List T} {vs : List V}, (∀ t ∈ ts, t.isFlat = true) → Paired (Den K S) ts vs → Paired (Den K S') ts vs
  | _, _, _, .nil => .nil
  | _, _, h, .cons d r => .cons (den_flat (h _ (by simp)) d) (dens_flat (fun t ht => h t (by simp [ht])) r)
section
variable {K : PySem.W.Frag} {al : List Addr} {S S' F H H' : Hp} {m : Sto}
open Classical in
noncomputable def stOf (al : List Addr) (S H : Hp) (m : Sto) (ws : List W) : Hp := fun a => if ∃ (n : Nat) (c : Cell), W.h n ∈ ws ∧ m[n]? = some (some c) ∧ al[n]? = some a then H a else S a
open Classical in
noncomputable def fOf (S1 F1 : Hp) : Hp := fun a => if (S1 a).isSome = true then none else F1 a
theorem RepM.st_same (R : RepM K al S F H m) (ws : List W) : Same S (stOf al S H m ws) := fun a o e => by
  unfold stOf
  split
  · exact R.same a o e
  · exact e
theorem RepM.st_h (R : RepM K al S F H m) (ws : List W) : Same (stOf al S H m ws) H := fun a o e => by
  unfold stOf at e
  split at e
  · exact e
  · exact R.same a o e
theorem RepM.lent (R : RepM K al S F H m) (ws : List W) : RepM K [] (stOf al S H m ws) (fOf (stOf al S H m ws) (frOf al F H m [])) H (([] : List Cell).map some) := by
  refine ⟨R.st_h ws, fun a u e => ?_, fun a u e => ?_, rfl, fun n c e => by simp at e, fun n k c d a e => by simp at e⟩
  · unfold fOf at e
    split at e
    · cases e
    · unfold frOf at e
      split at e
      · exact e
      · cases e
  · unfold fOf
    rw [if_pos (by rw [e]; rfl)]
/-- what is kept behind the call -/
theorem RepM.kept (R : RepM K al S F H m) (ws : List W) {S2 : Hp} (h1 : Same (stOf al S H m ws) S2) (h2 : Same S2 H') (h3 : Same (fOf (stOf al S H m ws) (frOf al F H m [])) H') : RepM K al S F H' m := by
  have any : ∀ a o, H a = some o → ((F a).isSome = true ∨ ∃ (n : Nat) (c : Cell), m[n]? = some (some c) ∧ n ∉ ([] : List Nat) ∧ al[n]? = some a) → H' a = some o := fun a o e hx => by
    cases q : stOf al S H m ws a with
    | some u =>
      have := R.st_h ws a u q
      rw [e] at this
      cases this
      exact h2 a _ (h1 a _ q)
    | none =>
      refine h3 a o ?_
      unfold fOf
      rw [q, if_neg (by simp)]
      unfold frOf
      rw [if_pos hx]
      exact e
  refine ⟨fun a o e => h2 a o (h1 a o (R.st_same ws a o e)), fun a o e => any a o (R.fr a o e) (.inl (by rw [e]; rfl)), R.dis, R.len, fun n c e => ?_, R.inj⟩
  obtain ⟨a, o, g1, g2, g3, g4, g5⟩ := R.cell n c e
  exact ⟨a, o, g1, g2, g3, any a o g4 (.inr ⟨n, c, e, by simp, g1⟩), g5⟩
/-- a new cell behind the call -/
theorem RepM.newC (R : RepM K al S F H m) (ws : List W) (R' : RepM K al S F H' m) {S2 : Hp} (h1 : Same (stOf al S H m ws) S2) {p : Addr} {vs : List V} {us : List T} (n1 : S2 p = none) (n2 : fOf (stOf al S H m ws) (frOf al F H m []) p = none) (hp : H' p = some (.lst vs)) (d : Paired (Den K S) us vs) :
    RepM K (al ++ [p]) S F H' (m ++ [some (.lt us)]) ∧ Grow al S (al ++ [p]) S := by
  have q : stOf al S H m ws p = none := by
    cases q : stOf al S H m ws p with
    | none => rfl
    | some u => rw [h1 p u q] at n1; cases n1
  have nS : S p = none := by
    cases e : S p with
    | none => rfl
    | some u => rw [R.st_same ws p u e] at q; cases q
  have frN : ∀ u, H p = some u → ¬ ((F p).isSome = true ∨ ∃ (n : Nat) (c : Cell), m[n]? = some (some c) ∧ n ∉ ([] : List Nat) ∧ al[n]? = some p) := fun u hu hx => by
    unfold fOf at n2
    rw [q, if_neg (by simp)] at n2
    unfold frOf at n2
    rw [if_pos hx, hu] at n2
    cases n2
  have nF : F p = none := by
    cases e : F p with
    | none => rfl
    | some u => exact absurd (.inl (by rw [e]; rfl)) (frN u (R.fr p u e))
  have nC : ∀ (n : Nat) (c : Cell), m[n]? = some (some c) → al[n]? ≠ some p := fun n c e z => by
    obtain ⟨a, o, g1, _, _, g4, _⟩ := R.cell n c e
    rw [z] at g1
    cases g1
    exact frN o g4 (.inr ⟨n, c, e, by simp, z⟩)
  have R2 : RepM K al S (upd F p (.lst vs)) H' m := by
    refine ⟨R'.same, fun b u e => ?_, fun b u e => ?_, R'.len, fun n c e => ?_, R'.inj⟩
    · by_cases hb : b = p
      · subst hb
        rw [upd_same] at e
        cases e
        exact hp
      · rw [upd_ne hb] at e
        exact R'.fr b u e
    · by_cases hb : b = p
      · subst hb
        rw [nS] at e
        cases e
      · rw [upd_ne hb]
        exact R'.dis b u e
    · obtain ⟨a, o, g1, g2, g3, g4, g5⟩ := R'.cell n c e
      exact ⟨a, o, g1, g2, by rw [upd_ne fun z => nC n c e (by rw [g1, z])]; exact g3, g4, g5⟩
  exact R2.frC nF ⟨vs, rfl, d⟩
end
theorem lend_den {K : PySem.W.Frag} {al : List Addr} {S F H : Hp} {σ : L2.St} {g : G} (R : Rep K al S F H σ g) (all : List W) : ∀ {ws : List W} {ts : List T} {vs : List V}, (∀ w ∈ ws, w ∈ all) → lendW g ws = some ts → Paired (DenW K al S) ws vs → Paired (Den K (stOf al S H g.mem all)) ts vs
  | [], ts, vs, _, e, h => by
    cases e
    cases h
    exact .nil
  | w :: r, ts, vs, hs, e, h => by
    unfold lendW at e
    split at e
    · rename_i t ts' e1 e2
      cases e
      cases h with
      | cons h1 h2 =>
        refine .cons ?_ (lend_den R all (fun x hx => hs x (by simp [hx])) e2 h2)
        cases w with
        | t x =>
          cases e1
          exact Den.mono (R.toRepM.st_same all) _ _ h1
        | h n =>
          unfold G.tree? at e1
          dsimp only at e1
          split at e1
          · rename_i c ec
            obtain ⟨a, ha, rfl⟩ := h1
            obtain ⟨a', o, g1, g2, g3, g4, g5⟩ := R.cell n c ec
            rw [ha] at g1
            cases g1
            have sa : stOf al S H g.mem all a = some o := by
              unfold stOf
              rw [if_pos ⟨n, c, hs _ (by simp), ec, ha⟩]
              exact g4
            have g6 := g5.grow (al' := al) (S' := stOf al S H g.mem all) ⟨⟨[], by simp⟩, R.toRepM.st_same all⟩
            cases c with
            | lt us =>
              cases e1
              obtain ⟨ys, rfl, d⟩ := g6
              unfold Den
              exact ⟨a, ys, rfl, sa, Dens.iff.mpr d⟩
            | dt ks us =>
              cases e1
              obtain ⟨ys, rfl, hl, d⟩ := g6
              unfold Den
              exact ⟨a, ys, rfl, sa, hl, Dens.iff.mpr d⟩
            | _ => cases e1
          · cases e1
    · cases e
theorem lendW_trees {g : G} : ∀ {ws : List W} {ts : List T}, lendW g ws = some ts → ts.length = ws.length
  | [], _, e => by cases e; rfl
  | w :: r, _, e => by
    unfold lendW at e
    split at e
    · rename_i t ts' e1 e2
      cases e
      rw [List.length_cons, List.length_cons, lendW_trees e2]
    · cases e
/-- a pure def that is lent cells -/
def onFlat (g1 : G) (r : R0) (Q : W → G → Prop) : Prop := match r with
  | .t x => x.isFlat = true ∧ Q (.t x) g1
  | .f (.lt us) => (∀ u ∈ us, u.isFlat = true) ∧ Q (.h g1.mem.length) (g1.push (.lt us))
  | _ => False
def onC (g1 : G) (Q : W → G → Prop) : W → List Cell → List Cell → Prop
  | .t t, _, [] => onFlat g1 (.t t) Q
  | .h 0, _, [c] => onFlat g1 (.f c) Q
  | _, _, _ => False
def dCallL (C : PC) (t : DAt) : Dt := fun g Q => t g fun ws g1 => match lendW g1 ws with
  | some ts => C ts fun r => onFlat g1 r Q
  | none => False
section
variable {K : PySem.W.Frag} {τs : TA} {ts : DAt}
theorem den_trees {al : List Addr} {S : Hp} : ∀ {ts : List T} {vs : List V}, Paired (Den K S) ts vs → Paired (DenW K al S) (ts.map W.t) vs
  | _, _, .nil => .nil
  | _, _, .cons d r => .cons d (den_trees r)
theorem der_callL {C : PC} {E : XK} (h : DAr K τs ts) : DEr K (tCall (sps K C.s) [] E τs) (dCallL C ts) := by
  intro al S F H σ g Q QV R q k
  refine h al S F H σ g _ _ R q fun al1 S1 H1 g1 vs ws R1 gr1 e1 q1 => ?_
  rw [List.append_nil]
  split at q1
  · rename_i us eu
    refine ⟨[], stOf al1 S1 H1 g1.mem ws, fOf (stOf al1 S1 H1 g1.mem ws) (frOf al1 F H1 g1.mem []), [], us.map W.t, onC g1 Q,
      R1.toRepM.lent ws, den_trees (lend_den R1 ws (fun _ h => h) eu e1), ⟨us, treesW_map us, rfl, ?_⟩, fun al2 S2 H2 m1 cs v w M2 l2 sS d2 q2 => ?_⟩
    · refine cast (congrArg (C us) ?_) q1
      funext r
      cases r <;> rfl
    · rw [List.nil_append] at M2 d2
      have lm : m1 = [] := List.length_eq_zero_iff.mp l2
      subst lm
      have keep := R1.toRepM.kept ws sS M2.same M2.fr
      unfold onC at q2
      split at q2
      · rename_i t
        obtain ⟨hf, q3⟩ := q2
        exact k _ _ _ _ _ (.t t) (R1.withM2 (Grow.refl _ _) keep) gr1 (den_flat hf d2) q3
      · rename_i c
        cases c with
        | lt xs =>
          obtain ⟨hf, q3⟩ := q2
          obtain ⟨p, o, h1, h2, h3, h4, h5⟩ := M2.cell 0 (.lt xs) rfl
          obtain ⟨p', hp, rfl⟩ := d2
          rw [h1] at hp
          cases hp
          obtain ⟨ys, rfl, d⟩ := h5
          obtain ⟨M3, gr3⟩ := R1.toRepM.newC ws keep sS h2 h3 h4 (dens_flat hf d)
          refine k _ _ _ _ _ (.h g1.mem.length) (R1.withM2 gr3 M3) (gr1.trans gr3) ⟨p, ?_, rfl⟩ q3
          rw [← R1.len, List.getElem?_append_right (Nat.le_refl _), Nat.sub_self]
          rfl
        | _ => exact q2.elim
      · exact q2.elim
  · exact q1.elim
variable {X : Cx} {e : Expr} {es : List Expr} {pos : Pos}
theorem de_callL {k : Nat} {f : Addr} {fd : FuncData} {ps : List Str} {C : PC} {x : Str} {p : Pos} (F : FnOk X.prog X.w X.K X.mg X.base CX0 k f fd ps (sps X.K C.s)) (hr : Room k X.A) (hm : X.mg x = some (.ref f)) (hk : PySem.W.keepIn X.K (.ref f) = true) (hb : Binds X.K fd ps [])
    (ha : DA X (e :: es) τs ts) (hg : Gl X x := by rfl) (hdb : (x == ("__debug__" : Str)) = false := by decide) (he : starEach (e :: es) X.env = (false, eval e X.env) :: starEach es X.env := by rfl) (hpl : (backTo pos (starEach es X.env)).any (·.1) = false := by rfl) :
    DE X (.Call (.Name x p) (e :: es) [] pos) (tCall (sps X.K C.s) [] E0 τs) (dCallL C ts) :=
  ⟨pe_call F hr hg hm hk hb .nil pass0 ha.pe hdb he hpl, der_callL ha.r⟩
end
/-! steps -/
def onLend (g1 : G) (ws : List W) (P : List T → Prop) : Prop := match lendW g1 ws with
  | some ts => P ts
  | none => False
theorem i_callL {g : G} {Q : W → G → Prop} {C : PC} {t : DAt} (h : t g fun ws g1 => onLend g1 ws fun us => C us fun r => onFlat g1 r Q) : dCallL C t g Q := h
theorem o_lend {g1 : G} {ws : List W} {us : List T} {P : List T → Prop} (e : lendW g1 ws = some us) (h : P us) : onLend g1 ws P := by unfold onLend; rw [e]; exact h
theorem o_flT {g1 : G} {Q : W → G → Prop} {x : T} (h1 : x.isFlat = true) (h : Q (.t x) g1) : onFlat g1 (.t x) Q := ⟨h1, h⟩
theorem o_flH {g1 : G} {Q : W → G → Prop} {us : List T} (h1 : ∀ u ∈ us, u.isFlat = true) (h : Q (.h g1.mem.length) (g1.push (.lt us))) : onFlat g1 (.f (.lt us)) Q := ⟨h1, h⟩
theorem isFlat_ints (ns : List Int) : ∀ u ∈ ns.map T.int, u.isFlat = true := fun u hu => by
  obtain ⟨i, _, rfl⟩ := List.mem_map.mp hu
  rfl
end DL

namespace DL
open PySem PySem.Spec L2
/-! lists of whole numbers: a <= b -/
def lexLe : List Int → List Int → Bool
  | [], _ => true
  | _ :: _, [] => false
  | x :: xs, y :: ys => if x = y then lexLe xs ys else decide (x ≤ y)
theorem lexLe_first : ∀ ns ms : List Int, SeqAt.firstLt (fun j => decide (ns.getD j 0 = ms.getD j 0)) (fun j => decide (ns.getD j 0 ≤ ms.getD j 0)) (decide (ns.length ≤ ms.length)) (List.range (min ns.length ms.length)) = lexLe ns ms
  | [], ms => by
    show SeqAt.firstLt _ _ _ (List.range (min 0 ms.length)) = true
    rw [Nat.zero_min]
    show decide (0 ≤ ms.length) = true
    simp
  | x :: ns, [] => by
    show SeqAt.firstLt _ _ _ (List.range (min (ns.length + 1) 0)) = false
    rw [Nat.min_zero]
    show decide (ns.length + 1 ≤ 0) = false
    simp
  | x :: ns, y :: ms => by
    rw [List.length_cons, List.length_cons, Nat.add_min_add_right, List.range_succ_eq_map]
    show (if decide (x = y) = true then SeqAt.firstLt _ _ _ ((List.range (min ns.length ms.length)).map Nat.succ) else decide (x ≤ y)) = _
    rw [PySem.W.firstLt_map]
    have ih := lexLe_first ns ms
    have hd : decide (ns.length + 1 ≤ ms.length + 1) = decide (ns.length ≤ ms.length) := by
      by_cases h : ns.length ≤ ms.length
      · rw [decide_eq_true h, decide_eq_true (by omega)]
      · rw [decide_eq_false h, decide_eq_false (by omega)]
    rw [hd]
    unfold lexLe
    by_cases h : x = y
    · rw [if_pos (decide_eq_true h), if_pos h]
      exact ih
    · rw [if_neg (by simpa using h), if_neg h]
def rLeL (K : PySem.W.Frag) : R2 := fun x y H Q => ∃ (a b : Addr) (ns ms : List Int), x = .ref a ∧ y = .ref b ∧ SqL K H a (ns.map V.int) ∧ SqL K H b (ms.map V.int) ∧ Q (.bl (lexLe ns ms)) H
theorem op_leL {X : Cx} (hu : X.A.units < cLine) : OpR X (compareOp .LtE) (rLeL X.K) := by
  intro pins s σ H x y v u Q I rx ry h
  obtain ⟨a, b, ns, ms, rfl, rfl, ha, hb, q⟩ := h
  cases rx
  cases ry
  obtain ⟨us, r1, p1, _⟩ := I.list ha
  obtain ⟨ws, r2, p2, _⟩ := I.list hb
  have i1 := r1.ints
  have i2 := r2.ints
  have n1 : us.toArray.size = ns.length := by rw [List.size_toArray]; exact i1.length
  have n2 : ws.toArray.size = ms.length := by rw [List.size_toArray]; exact i2.length
  have g1 : ∀ j (h1 : j < us.toArray.size), ∃ t, us.toArray[j] = .int (ns.getD j 0) t := fun j h1 => PyProof.Rows.IntsAre.int_at i1 _ _ (by simp at h1; simp [h1])
  have g2 : ∀ j (h1 : j < ws.toArray.size), ∃ t, ws.toArray[j] = .int (ms.getD j 0) t := fun j h1 => PyProof.Rows.IntsAre.int_at i2 _ _ (by simp at h1; simp [h1])
  have R := SeqAt.RcOp.lists_le (A := X.A) (s := s) (e := fun j => decide (ns.getD j 0 = ms.getD j 0)) (r := fun j => decide (ns.getD j 0 ≤ ms.getD j 0)) p1.isList p2.isList hu (fun j h1 h2 => by
    obtain ⟨t, et⟩ := g1 j h1
    obtain ⟨t', et'⟩ := g2 j h2
    rw [et, et', show decide (ns.getD j 0 = ms.getD j 0) = (ns.getD j 0 == ms.getD j 0) by
      by_cases q : ns.getD j 0 = ms.getD j 0
      · rw [decide_eq_true q]; exact (beq_iff_eq.mpr q).symm
      · rw [decide_eq_false q]; exact (beq_eq_false_iff_ne.mpr q).symm]
    exact SeqAt.EqAt.int_int _ _ _ _) (fun j h1 h2 _ => by
    obtain ⟨t, et⟩ := g1 j h1
    obtain ⟨t', et'⟩ := g2 j h2
    rw [et, et']
    exact Ob.RcOp.le_int _ _ _ _)
  rw [n1, n2, lexLe_first] at R
  exact R X.prog X.w X.xe (EP X pins σ Q) ⟨.bl _, H, I, rfl, q⟩
def fLeL : F2 := fun g x y Q => match g.lq? x, g.lq? y with
  | some tx, some ty => ∃ ns ms : List Int, tx = ns.map T.int ∧ ty = ms.map T.int ∧ Q (.t (.bl (lexLe ns ms))) g
  | _, _ => False
theorem op2_leL {K : PySem.W.Frag} : Op2 K (rLeL K) fLeL := by
  intro al S F H σ g x y wx wy Q QV R dx dy q k
  unfold fLeL at q
  split at q
  · rename_i tx ty ex ey
    obtain ⟨ns, ms, rfl, rfl, q⟩ := q
    obtain ⟨a, rfl, h1⟩ := R.viewI dx ex
    obtain ⟨b, rfl, h2⟩ := R.viewI dy ey
    exact ⟨a, b, ns, ms, rfl, rfl, h1, h2, k.tr R (denB _) q⟩
  · exact q.elim
section
variable {X : Cx} {a b : Expr} {τa τb : TE} {ta tb : Dt} {pos : Pos} {kk : Nat}
theorem de_leL (hr : Room kk X.A) (ha : DE X a τa ta) (hb : DE X b τb tb) : DE X (.Compare a [.LtE] [b] pos) (tOp (rLeL X.K) τa τb) (d2 fLeL ta tb) := de_cmp (op_leL hr.units0) op2_leL ha hb
theorem dt_leL (hr : Room kk X.A) (ha : DE X a τa ta) (hb : DE X b τb tb) : DT X (.Compare a [.LtE] [b] pos) (L2.tB (tOp (rLeL X.K) τa τb)) (dB (d2 fLeL ta tb)) := dt_cmp (op_leL hr.units0) op2_leL ha hb
end
theorem i_leL {g : G} {Q : W → G → Prop} {x y : W} {ns ms : List Int} (e1 : g.lq? x = some (ns.map T.int)) (e2 : g.lq? y = some (ms.map T.int)) (h : Q (.t (.bl (lexLe ns ms))) g) : fLeL g x y Q := by
  unfold fLeL; rw [e1, e2]; exact ⟨ns, ms, rfl, rfl, h⟩
end DL

namespace DL
open PySem PySem.Spec L2
/-! handles looked at as trees, down to a depth -/
def allS {α : Type} : List (Option α) → Option (List α)
  | [] => some []
  | some x :: r => (match allS r with | some xs => some (x :: xs) | none => none)
  | none :: _ => none
def G.treeD (g : G) : Nat → W → Option T
  | _, .t t => some t
  | 0, .h _ => none
  | d + 1, .h n => match g.mem[n]? with
    | some (some (.lt ts)) => some (.lst ts)
    | some (some (.dt ks ts)) => some (.dk ks ts)
    | some (some (.lw ws)) => (match allS (ws.map (g.treeD d)) with | some ts => some (.lst ts) | none => none)
    | some (some (.tw ws)) => (match allS (ws.map (g.treeD d)) with | some ts => some (.tup ts) | none => none)
    | _ => none
theorem allS_cons {α : Type} {x : α} {xs : List α} {r : List (Option α)} (h : allS r = some xs) : allS (some x :: r) = some (x :: xs) := by
  unfold allS
  rw [h]
theorem allS_map {α : Type} : ∀ xs : List α, allS (xs.map some) = some xs
  | [] => rfl
  | x :: xs => allS_cons (allS_map xs)
/-- a heap that holds what is stable and the cells -/
structure Holds (K : PySem.W.Frag) (al : List Addr) (S : Hp) (m : Sto) (S1 : Hp) : Prop where
  s : Same S S1
  c : ∀ (n : Nat) (c : Cell), m[n]? = some (some c) → ∃ a o, al[n]? = some a ∧ S1 a = some o ∧ CellOk K al S c o
theorem allS_den {K : PySem.W.Frag} {al : List Addr} {S S1 : Hp} {f : W → Option T} (h : ∀ w t v, f w = some t → DenW K al S w v → Den K S1 t v) : ∀ {ws : List W} {ts : List T} {vs : List V}, allS (ws.map f) = some ts → Paired (DenW K al S) ws vs → Paired (Den K S1) ts vs
  | [], _, _, e, p => by
    cases p
    cases e
    exact .nil
  | w :: ws, ts, vs, e, p => by
    cases p with
    | cons p1 p2 =>
      rw [List.map_cons] at e
      cases e1 : f w with
      | none => rw [e1] at e; cases e
      | some t =>
        rw [e1] at e
        unfold allS at e
        split at e
        · rename_i xs e2
          cases e
          exact .cons (h w t _ e1 p1) (allS_den h e2 p2)
        · cases e
theorem treeD_den {K : PySem.W.Frag} {al : List Addr} {S S1 : Hp} {g : G} (hS : Holds K al S g.mem S1) : ∀ (d : Nat) (w : W) (t : T) (v : V), g.treeD d w = some t → DenW K al S w v → Den K S1 t v
  | 0, .t x, t, v, e, dv => by
    cases e
    exact Den.mono hS.s _ _ dv
  | 0, .h n, t, v, e, dv => by cases e
  | d + 1, .t x, t, v, e, dv => by
    cases e
    exact Den.mono hS.s _ _ dv
  | d + 1, .h n, t, v, e, dv => by
    unfold G.treeD at e
    obtain ⟨a, ha, rfl⟩ := dv
    split at e
    · rename_i ts em
      cases e
      obtain ⟨a', o, h1, h2, vs, rfl, h3⟩ := hS.c n _ em
      rw [ha] at h1
      cases h1
      unfold Den
      exact ⟨a, vs, rfl, h2, Dens.iff.mpr (Denp.grow hS.s h3)⟩
    · rename_i ks ts em
      cases e
      obtain ⟨a', o, h1, h2, vs, rfl, h3, h4⟩ := hS.c n _ em
      rw [ha] at h1
      cases h1
      unfold Den
      exact ⟨a, vs, rfl, h2, h3, Dens.iff.mpr (Denp.grow hS.s h4)⟩
    · rename_i ws em
      split at e
      · rename_i ts e2
        cases e
        obtain ⟨a', o, h1, h2, vs, rfl, h3⟩ := hS.c n _ em
        rw [ha] at h1
        cases h1
        unfold Den
        exact ⟨a, vs, rfl, h2, Dens.iff.mpr (allS_den (fun w t v x y => treeD_den hS d w t v x y) e2 h3)⟩
      · cases e
    · rename_i ws em
      split at e
      · rename_i ts e2
        cases e
        obtain ⟨a', o, h1, h2, vs, rfl, h3⟩ := hS.c n _ em
        rw [ha] at h1
        cases h1
        unfold Den
        exact ⟨a, vs, rfl, .inl (.inl h2), Dens.iff.mpr (allS_den (fun w t v x y => treeD_den hS d w t v x y) e2 h3)⟩
      · cases e
    · cases e
theorem Rep.holds {K : PySem.W.Frag} {al : List Addr} {S F H : Hp} {σ : L2.St} {g : G} (R : Rep K al S F H σ g) : Holds K al S g.mem H :=
  ⟨R.same, fun n c e => let ⟨a, o, h1, _, _, h4, h5⟩ := R.cell n c e; ⟨a, o, h1, h4, h5⟩⟩
/-! == of what holds handles -/
def fEqN (neg : Bool) : F2 := fun g x y Q => match g.treeD 6 x, g.treeD 6 y with
  | some tx, some ty => tx.sh 8 = true ∧ ty.sh 8 = true ∧ Q (.t (.bl (if neg then !teq tx ty else teq tx ty))) g
  | _, _ => False
theorem op2_eqN (neg : Bool) {K : PySem.W.Frag} : Op2 K (fun x y H Q => (scal x y = true ∧ Q (.bl (if neg then !decide (x = y) else decide (x = y))) H) ∨
    (∃ d e, Dp K H x d ∧ Dp K H y e ∧ SeqAt.shaped d = true ∧ SeqAt.shaped e = true ∧ Q (.bl (if neg then !PyData.eqv d e else PyData.eqv d e)) H)) (fEqN neg) := by
  intro al S F H σ g x y wx wy Q QV R dx dy q k
  unfold fEqN at q
  split at q
  · rename_i tx ty ex ey
    obtain ⟨h1, h2, q⟩ := q
    exact .inr ⟨tx.pd, ty.pd, dp_of 8 _ _ h1 (treeD_den R.holds _ _ _ _ ex dx), dp_of 8 _ _ h2 (treeD_den R.holds _ _ _ _ ey dy), shaped_of h1 (by decide), shaped_of h2 (by decide), k.tr R (denB _) q⟩
  · exact q.elim
section
variable {X : Cx} {a b : Expr} {τa τb : TE} {ta tb : Dt} {pos : Pos} {kk : Nat}
theorem de_eqN (hr : Room kk X.A) (ha : DE X a τa ta) (hb : DE X b τb tb) : DE X (.Compare a [.Eq] [b] pos) (tOp (fun x y H Q => (scal x y = true ∧ Q (.bl (if false then !decide (x = y) else decide (x = y))) H) ∨
    (∃ d e, Dp X.K H x d ∧ Dp X.K H y e ∧ SeqAt.shaped d = true ∧ SeqAt.shaped e = true ∧ Q (.bl (if false then !PyData.eqv d e else PyData.eqv d e)) H)) τa τb) (d2 (fEqN false) ta tb) := de_cmp (op_eq.or (op_eqD hr.units)) (op2_eqN false) ha hb
theorem de_neN (hr : Room kk X.A) (ha : DE X a τa ta) (hb : DE X b τb tb) : DE X (.Compare a [.NotEq] [b] pos) (tOp (fun x y H Q => (scal x y = true ∧ Q (.bl (if true then !decide (x = y) else decide (x = y))) H) ∨
    (∃ d e, Dp X.K H x d ∧ Dp X.K H y e ∧ SeqAt.shaped d = true ∧ SeqAt.shaped e = true ∧ Q (.bl (if true then !PyData.eqv d e else PyData.eqv d e)) H)) τa τb) (d2 (fEqN true) ta tb) := de_cmp (op_ne.or (op_neD hr.units)) (op2_eqN true) ha hb
theorem dt_eqN (hr : Room kk X.A) (ha : DE X a τa ta) (hb : DE X b τb tb) : DT X (.Compare a [.Eq] [b] pos) (L2.tB (tOp (fun x y H Q => (scal x y = true ∧ Q (.bl (if false then !decide (x = y) else decide (x = y))) H) ∨
    (∃ d e, Dp X.K H x d ∧ Dp X.K H y e ∧ SeqAt.shaped d = true ∧ SeqAt.shaped e = true ∧ Q (.bl (if false then !PyData.eqv d e else PyData.eqv d e)) H)) τa τb)) (dB (d2 (fEqN false) ta tb)) := dt_cmp (op_eq.or (op_eqD hr.units)) (op2_eqN false) ha hb
theorem dt_neN (hr : Room kk X.A) (ha : DE X a τa ta) (hb : DE X b τb tb) : DT X (.Compare a [.NotEq] [b] pos) (L2.tB (tOp (fun x y H Q => (scal x y = true ∧ Q (.bl (if true then !decide (x = y) else decide (x = y))) H) ∨
    (∃ d e, Dp X.K H x d ∧ Dp X.K H y e ∧ SeqAt.shaped d = true ∧ SeqAt.shaped e = true ∧ Q (.bl (if true then !PyData.eqv d e else PyData.eqv d e)) H)) τa τb)) (dB (d2 (fEqN true) ta tb)) := dt_cmp (op_ne.or (op_neD hr.units)) (op2_eqN true) ha hb
end
theorem i_eqN {g : G} {Q : W → G → Prop} {x y : W} {u v : T} (e1 : g.treeD 6 x = some u) (e2 : g.treeD 6 y = some v) (h1 : u.sh 8 = true) (h2 : v.sh 8 = true) (h : Q (.t (.bl (teq u v))) g) : fEqN false g x y Q := by
  unfold fEqN; rw [e1, e2]; exact ⟨h1, h2, h⟩
theorem i_neN {g : G} {Q : W → G → Prop} {x y : W} {u v : T} (e1 : g.treeD 6 x = some u) (e2 : g.treeD 6 y = some v) (h1 : u.sh 8 = true) (h2 : v.sh 8 = true) (h : Q (.t (.bl (!teq u v))) g) : fEqN true g x y Q := by
  unfold fEqN; rw [e1, e2]; exact ⟨h1, h2, h⟩
/-! is, of truths -/
def fIsB (neg : Bool) : F2 := fun g x y Q => match x, y with
  | .t (.bl a), .t (.bl b) => Q (.t (.bl (if neg then !decide (a = b) else decide (a = b)))) g
  | _, _ => False
theorem op2_isB {K : PySem.W.Frag} : Op2 K (fun x y H Q => ∃ a b, x = .bl a ∧ y = .bl b ∧ Q (.bl (decide (a = b))) H) (fIsB false) := by
  intro al S F H σ g x y wx wy Q QV R dx dy q k
  unfold fIsB at q
  split at q
  · unfold DenW Den at dx dy
    exact ⟨_, _, dx, dy, k.tr R (denB _) q⟩
  · exact q.elim
theorem op2_notB {K : PySem.W.Frag} : Op2 K (fun x y H Q => ∃ a b, x = .bl a ∧ y = .bl b ∧ Q (.bl (!decide (a = b))) H) (fIsB true) := by
  intro al S F H σ g x y wx wy Q QV R dx dy q k
  unfold fIsB at q
  split at q
  · unfold DenW Den at dx dy
    exact ⟨_, _, dx, dy, k.tr R (denB _) q⟩
  · exact q.elim
section
variable {X : Cx} {a b : Expr} {τa τb : TE} {ta tb : Dt} {pos : Pos}
theorem de_isB (ha : DE X a τa ta) (hb : DE X b τb tb) : DE X (.Compare a [.Is] [b] pos) (tOp (fun x y H Q => ∃ a b, x = .bl a ∧ y = .bl b ∧ Q (.bl (decide (a = b))) H) τa τb) (d2 (fIsB false) ta tb) := de_cmp op_is_bl op2_isB ha hb
theorem de_notB (ha : DE X a τa ta) (hb : DE X b τb tb) : DE X (.Compare a [.IsNot] [b] pos) (tOp (fun x y H Q => ∃ a b, x = .bl a ∧ y = .bl b ∧ Q (.bl (!decide (a = b))) H) τa τb) (d2 (fIsB true) ta tb) := de_cmp op_isnot_bl op2_notB ha hb
theorem dt_isB (ha : DE X a τa ta) (hb : DE X b τb tb) : DT X (.Compare a [.Is] [b] pos) (L2.tB (tOp (fun x y H Q => ∃ a b, x = .bl a ∧ y = .bl b ∧ Q (.bl (decide (a = b))) H) τa τb)) (dB (d2 (fIsB false) ta tb)) := dt_cmp op_is_bl op2_isB ha hb
theorem dt_notB (ha : DE X a τa ta) (hb : DE X b τb tb) : DT X (.Compare a [.IsNot] [b] pos) (L2.tB (tOp (fun x y H Q => ∃ a b, x = .bl a ∧ y = .bl b ∧ Q (.bl (!decide (a = b))) H) τa τb)) (dB (d2 (fIsB true) ta tb)) := dt_cmp op_isnot_bl op2_notB ha hb
end
theorem i_isB {g : G} {Q : W → G → Prop} {a b : Bool} (h : Q (.t (.bl (decide (a = b)))) g) : fIsB false g (.t (.bl a)) (.t (.bl b)) Q := h
theorem i_notB {g : G} {Q : W → G → Prop} {a b : Bool} (h : Q (.t (.bl (!decide (a = b)))) g) : fIsB true g (.t (.bl a)) (.t (.bl b)) Q := h
/-! a tuple that holds handles -/
def dTupW (t : DAt) : Dt := fun g Q => t g fun ws g1 => ws.length ≤ sizeLine ∧ Q (.h g1.mem.length) (g1.push (.tw ws))
def fIxP : F2 := fun g x y Q => match x, y with
  | .h n, .t (.int i) => (match g.mem[n]? with
    | some (some (.tw ws)) => ∃ w, atI ws i = some w ∧ Q w g
    | _ => False)
  | _, _ => False
section
variable {X : Cx} {a b : Expr} {es : List Expr} {τa τb : TE} {τs : TA} {ta tb : Dt} {ts : DAt} {pos : Pos}
theorem de_tupW {x1} (h : DA X es τs ts) : DE X (.Tuple es x1 pos) (tTup τs) (dTupW ts) := by
  refine ⟨pe_tup h.pe, ?_⟩
  intro al S F H σ g Q QV R q k
  refine h.r al S F H σ g _ _ R q fun al1 S1 H1 g1 vs ws R1 gr1 e1 q1 => ?_
  refine ⟨by rw [← e1.length]; exact q1.1, fun p np => ?_⟩
  obtain ⟨R2, gr2, d⟩ := R1.pushC (c := .tw ws) (o := .tup vs) np ⟨vs, rfl, DenWs.grow ⟨⟨[p], rfl⟩, Same.refl _⟩ e1⟩
  exact k _ _ _ _ _ _ R2 (gr1.trans gr2) d q1.2
theorem op2_ixP {K : PySem.W.Frag} : Op2 K (fun x y H Q => rIxL K x y H Q ∨ rIxT K x y H Q) fIxP := by
  intro al S F H σ g x y wx wy Q QV R dx dy q k
  unfold fIxP at q
  split at q
  · rename_i n i
    split at q
    · rename_i ws em
      obtain ⟨w, hw, q⟩ := q
      obtain ⟨p, o, rfl, h1, vs, rfl, h3⟩ := R.view dx (c := .tw ws) (by unfold G.cell?; dsimp only; rw [em])
      unfold DenW Den at dy
      subst dy
      obtain ⟨v, hv, dv⟩ := patW h3 hw
      exact .inr ⟨p, vs, i, v, rfl, rfl, .inl (.inl h1), hv, k.val R dv q⟩
    · exact q.elim
  · exact q.elim
theorem de_ixP (ha : DE X a τa ta) (hb : DE X b τb tb) (hs : PlainIx b := by intro _ _; rfl) : DE X (.Subscript a b pos) (tOp (fun x y H Q => rIxL X.K x y H Q ∨ rIxT X.K x y H Q) τa τb) (d2 fIxP ta tb) :=
  de_ixR (ix_list.or ix_tup) op2_ixP ha hb hs
/-- a, b = such a tuple -/
def dgUnP (n : Nat) (t : DGwt) : DGt := fun w g Q => match w with
  | .h m => (match g.mem[m]? with
    | some (some (.tw ts)) => ts.length = n ∧ t ts g Q
    | _ => False)
  | _ => False
theorem dg_unp {kk : Nat} {ps : Pos} {τ1 : TGs} {t1 : DGwt} {n : Nat} (hc : X.calm = true) (h : DGw X es τ1 t1)
    (hn : (assignEach es X.env).length = n := by rfl) (hst : (assignEach es X.env).findIdx? (·.1) = none := by rfl) : DG X (.Tuple es kk ps) (gTup X.K n τ1) (dgUnP n t1) := by
  refine ⟨pg_tup hc h.pe hn hst, fun al S F H σ g v w Q QV R d q k => ?_⟩
  unfold dgUnP at q
  split at q
  · rename_i m
    split at q
    · rename_i ts em
      obtain ⟨p, o, rfl, h1, vs, rfl, h3⟩ := R.view d (c := .tw ts) (by unfold G.cell?; dsimp only; rw [em])
      exact ⟨p, vs, rfl, .inl (.inl h1), by rw [← h3.length]; exact q.1, h.r al S F H σ g vs ts Q QV R h3 q.2 k⟩
    · exact q.elim
  · exact q.elim
end
theorem i_tupW {g : G} {ts : DAt} {Q : W → G → Prop} (h : ts g fun ws g1 => ws.length ≤ sizeLine ∧ Q (.h g1.mem.length) (g1.push (.tw ws))) : dTupW ts g Q := h
theorem i_ixP {g : G} {Q : W → G → Prop} {n : Nat} {i : Int} {ws : List W} {w : W} (em : g.mem[n]? = some (some (.tw ws))) (hw : atI ws i = some w) (h : Q w g) : fIxP g (.h n) (.t (.int i)) Q := by
  unfold fIxP; dsimp only; rw [em]; exact ⟨w, hw, h⟩
theorem i_unp {g : G} {n m : Nat} {ws : List W} {t : DGwt} {P : G → Prop} (em : g.mem[m]? = some (some (.tw ws))) (hn : ws.length = n) (h : t ws g P) : dgUnP n t (.h m) g P := by
  unfold dgUnP; dsimp only; rw [em]; exact ⟨hn, h⟩
/-! all cells lent to a pure def -/
section
variable {K : PySem.W.Frag} {al : List Addr} {S S' F H H' : Hp} {m : Sto}
open Classical in
noncomputable def stAll (al : List Addr) (S H : Hp) (m : Sto) : Hp := fun a => if ∃ (n : Nat) (c : Cell), m[n]? = some (some c) ∧ al[n]? = some a then H a else S a
theorem RepM.all_same (R : RepM K al S F H m) : Same S (stAll al S H m) := fun a o e => by
  unfold stAll
  split
  · exact R.same a o e
  · exact e
theorem RepM.all_h (R : RepM K al S F H m) : Same (stAll al S H m) H := fun a o e => by
  unfold stAll at e
  split at e
  · exact e
  · exact R.same a o e
theorem RepM.all_holds (R : RepM K al S F H m) : Holds K al S m (stAll al S H m) := ⟨R.all_same, fun n c e => by
  obtain ⟨a, o, h1, _, _, h4, h5⟩ := R.cell n c e
  refine ⟨a, o, h1, ?_, h5⟩
  unfold stAll
  rw [if_pos ⟨n, c, e, h1⟩]
  exact h4⟩
theorem RepM.lentAll (R : RepM K al S F H m) : RepM K [] (stAll al S H m) (fOf (stAll al S H m) (frOf al F H m [])) H (([] : List Cell).map some) := by
  refine ⟨R.all_h, fun a u e => ?_, fun a u e => ?_, rfl, fun n c e => by simp at e, fun n k c d a e => by simp at e⟩
  · unfold fOf at e
    split at e
    · cases e
    · unfold frOf at e
      split at e
      · exact e
      · cases e
  · unfold fOf
    rw [if_pos (by rw [e]; rfl)]
theorem RepM.keptAll (R : RepM K al S F H m) {S2 : Hp} (h1 : Same (stAll al S H m) S2) (h2 : Same S2 H') (h3 : Same (fOf (stAll al S H m) (frOf al F H m [])) H') : RepM K al S F H' m := by
  have any : ∀ a o, H a = some o → ((F a).isSome = true ∨ ∃ (n : Nat) (c : Cell), m[n]? = some (some c) ∧ n ∉ ([] : List Nat) ∧ al[n]? = some a) → H' a = some o := fun a o e hx => by
    cases q : stAll al S H m a with
    | some u =>
      have := R.all_h a u q
      rw [e] at this
      cases this
      exact h2 a _ (h1 a _ q)
    | none =>
      refine h3 a o ?_
      unfold fOf
      rw [q, if_neg (by simp)]
      unfold frOf
      rw [if_pos hx]
      exact e
  refine ⟨fun a o e => h2 a o (h1 a o (R.all_same a o e)), fun a o e => any a o (R.fr a o e) (.inl (by rw [e]; rfl)), R.dis, R.len, fun n c e => ?_, R.inj⟩
  obtain ⟨a, o, g1, g2, g3, g4, g5⟩ := R.cell n c e
  exact ⟨a, o, g1, g2, g3, any a o g4 (.inr ⟨n, c, e, by simp, g1⟩), g5⟩
end
def onFlatT (g1 : G) (r : R0) (Q : W → G → Prop) : Prop := match r with
  | .t x => x.isFlat = true ∧ Q (.t x) g1
  | _ => False
def onCT (g1 : G) (Q : W → G → Prop) : W → List Cell → List Cell → Prop
  | .t t, _, [] => onFlatT g1 (.t t) Q
  | _, _, _ => False
def dCallN (C : PC) (t : DAt) : Dt := fun g Q => t g fun ws g1 => match allS (ws.map (g1.treeD 6)) with
  | some ts => C ts fun r => onFlatT g1 r Q
  | none => False
section
variable {K : PySem.W.Frag} {τs : TA} {ts : DAt}
theorem der_callN {C : PC} {E : XK} (h : DAr K τs ts) : DEr K (tCall (sps K C.s) [] E τs) (dCallN C ts) := by
  intro al S F H σ g Q QV R q k
  refine h al S F H σ g _ _ R q fun al1 S1 H1 g1 vs ws R1 gr1 e1 q1 => ?_
  rw [List.append_nil]
  split at q1
  · rename_i us eu
    refine ⟨[], stAll al1 S1 H1 g1.mem, fOf (stAll al1 S1 H1 g1.mem) (frOf al1 F H1 g1.mem []), [], us.map W.t, onCT g1 Q,
      R1.toRepM.lentAll, den_trees (allS_den (fun w t v x y => treeD_den R1.toRepM.all_holds 6 w t v x y) eu e1), ⟨us, treesW_map us, rfl, ?_⟩, fun al2 S2 H2 m1 cs v w M2 l2 sS d2 q2 => ?_⟩
    · refine cast (congrArg (C us) ?_) q1
      funext r
      cases r <;> rfl
    · rw [List.nil_append] at M2 d2
      have lm : m1 = [] := List.length_eq_zero_iff.mp l2
      subst lm
      have keep := R1.toRepM.keptAll sS M2.same M2.fr
      unfold onCT at q2
      split at q2
      · rename_i t
        obtain ⟨hf, q3⟩ := q2
        exact k _ _ _ _ _ (.t t) (R1.withM2 (Grow.refl _ _) keep) gr1 (den_flat hf d2) q3
      · exact q2.elim
  · exact q1.elim
variable {X : Cx} {e : Expr} {es : List Expr} {pos : Pos}
theorem de_callN {k : Nat} {f : Addr} {fd : FuncData} {ps : List Str} {C : PC} {x : Str} {p : Pos} (F : FnOk X.prog X.w X.K X.mg X.base CX0 k f fd ps (sps X.K C.s)) (hr : Room k X.A) (hm : X.mg x = some (.ref f)) (hk : PySem.W.keepIn X.K (.ref f) = true) (hb : Binds X.K fd ps [])
    (ha : DA X (e :: es) τs ts) (hg : Gl X x := by rfl) (hdb : (x == ("__debug__" : Str)) = false := by decide) (he : starEach (e :: es) X.env = (false, eval e X.env) :: starEach es X.env := by rfl) (hpl : (backTo pos (starEach es X.env)).any (·.1) = false := by rfl) :
    DE X (.Call (.Name x p) (e :: es) [] pos) (tCall (sps X.K C.s) [] E0 τs) (dCallN C ts) :=
  ⟨pe_call F hr hg hm hk hb .nil pass0 ha.pe hdb he hpl, der_callN ha.r⟩
end
def onNest (g1 : G) (ws : List W) (P : List T → Prop) : Prop := match allS (ws.map (g1.treeD 6)) with
  | some ts => P ts
  | none => False
theorem i_callN {g : G} {Q : W → G → Prop} {C : PC} {t : DAt} (h : t g fun ws g1 => onNest g1 ws fun us => C us fun r => onFlatT g1 r Q) : dCallN C t g Q := h
theorem o_nest {g1 : G} {ws : List W} {us : List T} {P : List T → Prop} (e : allS (ws.map (g1.treeD 6)) = some us) (h : P us) : onNest g1 ws P := by unfold onNest; rw [e]; exact h
theorem o_ftT {g1 : G} {Q : W → G → Prop} {x : T} (h1 : x.isFlat = true) (h : Q (.t x) g1) : onFlatT g1 (.t x) Q := ⟨h1, h⟩
end DL

namespace DL
open PySem PySem.Spec L2
local macro_rules | `(tactic| walk_at "dn") => `(tactic| simp only [purse_set2, purse_set3, purse_set4, purse_set5, purse_app, purse_len, purse_start, purse_l, G.set, G.put, G.push, G.wipe, wipeW, G.rs, rsW, List.set_cons_zero, List.set_cons_succ, List.map_cons, List.map_nil, List.length_cons, List.length_nil, List.nil_append, List.cons_append, List.replicate_succ, List.replicate_zero, Nat.reduceAdd, Nat.reduceSub, List.getD_cons_zero, List.getD_cons_succ, Option.getD_some, Option.getD_none])
local macro_rules | `(tactic| walk_at "d1") => `(tactic| first
  | with_reducible refine i_seq ?_
  | with_reducible refine i_asg ?_
  | with_reducible refine i_d2 ?_
  | ((with_reducible refine' i_var ?e ?_); (case e => rfl))
  | with_reducible refine i_c ?_
  | ((with_reducible refine' i_ix ?e ?v ?_); (case e => rfl); (case v => first | assumption | rfl))
  | with_reducible refine i_fI0 ?_
  | with_reducible refine i_gN ?_
  | with_reducible refine i_cons ?_
  | with_reducible refine i_nil ?_
  | with_reducible refine i_dN ?_
  | ((with_reducible refine' i_len ?e ?_); (case e => rfl))
  | with_reducible refine i_d1 ?_
  | with_reducible refine i_neg ?_
  | with_reducible refine i_B ?_
  | with_reducible refine o_B ?_
  | with_reducible refine o_I ?_
  | with_reducible refine i_ifS ?_
  | with_reducible refine i_or ?_
  | with_reducible refine i_and ?_
  | with_reducible refine i_not ?_
  | with_reducible refine i_andV ?_
  | with_reducible refine i_orV ?_
  | with_reducible refine i_notV ?_
  | with_reducible refine i_if ?_
  | with_reducible refine i_yes ?_
  | with_reducible refine k_T ?_
  | with_reducible refine k_F ?_
  | with_reducible refine k_True ?_
  | with_reducible refine k_False ?_
  | with_reducible refine i_eqI ?_
  | with_reducible refine i_neI ?_
  | with_reducible refine i_addI ?_
  | with_reducible refine i_addHI ?_
  | with_reducible refine i_callT ?_
  | with_reducible refine i_callH ?_
  | ((with_reducible refine' o_Ts ?e ?_); (case e => rfl))
  | with_reducible refine o_T ?_
  | ((with_reducible refine' o_TF ?e ?_); (case e => rfl))
  | with_reducible refine o_H ?_
  | ((with_reducible refine' o_HF ?e ?_); (case e => rfl))
  | with_reducible refine i_next ?_
  | with_reducible refine i_drop ?_
  | with_reducible refine i_ret ?_
  | with_reducible refine i_retN ?_
  | ((with_reducible refine' i_gTup ?e ?_); (case e => rfl))
  | with_reducible refine i_gCons ?_
  | with_reducible refine i_gNil ?_
  | with_reducible refine i_min2 ?_
  | with_reducible refine i_max2 ?_
  | with_reducible refine i_par ?_
  | with_reducible refine o_W2 ?_
  | ((with_reducible refine' i_aug ?e ?_); (case e => rfl))
  | with_reducible refine i_intI ?_
  | with_reducible refine i_intB ?_
  | with_reducible refine i_lc ?_
  | with_reducible refine i_for ?_
  | with_reducible refine i_while ?_
  | with_reducible refine i_itL ?_
  | ((with_reducible refine' o_Lq ?e ?_); (case e => rfl))
  | with_reducible refine i_itR1 ?_
  | with_reducible refine i_itR2 ?_
  | with_reducible refine o_I1 ?_
  | with_reducible refine o_I2 ?_
  | with_reducible refine e_t ?_
  | ((with_reducible refine' e_h ?e ?p ?_); (case e => rfl); (case p => rfl))
  | with_reducible refine i_M ?_
  | with_reducible refine i_M0 ?_
  | with_reducible refine i_gSub ?_
  | with_reducible refine i_finH ?_
  | with_reducible refine i_finT ?_
  | with_reducible refine i_sl ?_
  | with_reducible refine i_slH ?_
  | with_reducible refine i_slT ?_
  | with_reducible refine i_noPart ?_
  | with_reducible refine i_part ?_
  | ((with_reducible refine' i_frzT ?e ?_); (case e => rfl))
  | ((with_reducible refine' i_frzH ?e ?m ?t ?_); (case e => rfl); (case m => rfl); (case t => rfl))
  | ((with_reducible refine' i_din ?k ?e ?_); (case k => rfl); (case e => rfl))
  | ((with_reducible refine' i_dnotin ?k ?e ?_); (case k => rfl); (case e => rfl))
  | with_reducible refine i_dput ?_
  | with_reducible refine i_newD ?_
  | with_reducible refine i_lstH ?_
  | with_reducible refine i_lst ?_
  | with_reducible refine i_tup ?_
  | with_reducible refine i_break ?_
  | with_reducible refine i_cont ?_
  | with_reducible refine i_callS ?_
  | ((with_reducible refine' i_ixHW ?e ?v ?_); (case e => first | rfl | assumption); (case v => first | assumption | rfl))
  | ((with_reducible refine' i_ixHT ?e ?v ?_); (case e => first | rfl | assumption); (case v => first | assumption | rfl))
  | ((with_reducible refine' i_lenHT ?e ?_); (case e => first | rfl | assumption))
  | ((with_reducible refine' i_lenHW ?e ?_); (case e => first | rfl | assumption))
  | ((with_reducible refine' i_frzH ?e ?m ?t ?_); (case e => rfl); (case m => rfl); (case t => rfl))
  | ((with_reducible refine' i_unw ?e ?n ?_); (case e => rfl); (case n => rfl))
  | with_reducible refine i_gwCons ?_
  | with_reducible refine i_gwNil ?_
  | with_reducible refine i_lstW ?_
  | ((with_reducible refine' i_gList ?e ?n ?_); (case e => rfl); (case n => rfl))
  | with_reducible refine i_listRgH ?_
  | with_reducible refine i_listRg ?_
  | with_reducible refine i_R1 ?_
  | with_reducible refine i_getD ?_
  | ((with_reducible refine' i_none ?k ?_); (case k => rfl))
  | walk_at "dn")
local macro_rules | `(tactic| walk_at "dl") => `(tactic| ((try walk_at "dn"); repeat walk_at "d1"))
/-! small things -/
theorem cut_hi {α : Type} (xs : List α) (k : Nat) : cut xs none (some (k : Int)) = xs.take k := by
  unfold cut
  rw [HT.sIx_none, HT.sIx_nat, List.drop_zero, Nat.sub_zero]
  by_cases h : k ≤ xs.length
  · rw [Nat.min_eq_left h]
  · rw [Nat.min_eq_right (by omega), List.take_length, List.take_of_length_le (by omega)]
theorem teq_nil (xs : List T) : teq (.lst xs) (.lst []) = xs.isEmpty := by
  cases xs <;> simp [teq, T.pd, PyData.eqv, PyData.eqvAll]
theorem sh_ints (n : Nat) (xs : List Int) : (T.lst (xs.map T.int)).sh (n + 1) = true := by
  simp [T.sh]
theorem mulR {a b : Int} (h1 : -(2 ^ 64) < b) (h2 : b < 2 ^ 64) : IntMulOk a b := IntMulOk.of_right (intBits_le_64 h1 h2)
theorem mulL {a b : Int} (h1 : -(2 ^ 64) < a) (h2 : a < 2 ^ 64) : IntMulOk a b := IntMulOk.of_left (intBits_le_64 h1 h2)
/-- a loop by an invariant of the turn -/
theorem forR {D : De} {g1 : G} {gt : DGt} {tb : DSt} {ws : List W} {St : G → Prop} {ι : Type} (items : List ι) (enc : ι → W) (I : Nat → G → Prop) (hws : ws = items.map enc) (h0 : I 0 g1) (hSt : ∀ i g, I i g → St g)
    (hstep : ∀ i x, items[i]? = some x → ∀ g', I i g' → ∀ N : G → Prop, (∀ g'', I (i + 1) g'' → N g'') → gt (enc x) g' fun g2 => tb { D with nx := N, ct := N, bk := D.nx } g2)
    (hQ : ∀ g', I items.length g' → D.nx g') : forI ws St g1 gt tb D := by
  subst hws
  refine ⟨I, h0, hSt, fun i w g' hw h => ?_, fun g' h => hQ g' (by rw [List.length_map] at h; exact h)⟩
  rw [List.getElem?_map] at hw
  cases e : items[i]? with
  | none => rw [e] at hw; cases hw
  | some x =>
    rw [e] at hw
    cases hw
    exact hstep i x e g' h _ fun g'' h'' => h''
/-! the purse -/
def C__law_purse : SC := fun ws m QC => ∃ ns : List Int, ws = [.t (.sq (ns.map T.int))] ∧ m = [] ∧ ∀ cells : List Int, 0 < cells.length → cells.length ≤ 1000 → QC (.h 0) [] (purse 0 cells)
theorem ln__law_purse : ∀ ws m Q, C__law_purse ws m Q → ws.length = ["_law_script"].length := by rintro ws m Q ⟨_, rfl, _⟩; rfl
def rd__law_purse : DSt :=
  dSeq (dAsg (dSlH (dVar 0) (dNoPart) (dPart (dC (.int 63)))) (dgN 1))
  (dSeq (dIfS (dB (d2 (fEq false) (dVar 1) (dLst (dNil)))) (dAsg (dLstH (dCons (dC (.int 0)) (dNil))) (dgN 1)) (dNext))
  (dRet (dLstW (dCons (dVar 1) (dCons (dC (.int 0)) (dNil))))))

theorem fin_new {QC : W → List Cell → List Cell → Prop} {w : W} {g : G} (ks : List Nat) (cs : List Cell) (w' : W) (nd : ks.Nodup) (lt : ∀ j ∈ ks, j < g.mem.length) (hw : w'.up ks = some w) (l2 : cs.length = ks.length)
    (hc : ∀ (i : Nat) (c' : Cell), cs[i]? = some c' → ∃ j c, ks[i]? = some j ∧ c'.up ks = some c ∧ g.mem[j]? = some (some c)) (q : QC w' [] cs) : FinS 0 QC w g :=
  ⟨ks, [], cs, w', by simpa using nd, by simpa using lt, by simpa using hw, rfl, l2, by simpa using hc, q⟩
theorem rp__law_purse : ∀ ws m QC, C__law_purse ws m QC → rd__law_purse ⟨FinS m.length QC (.t .non), FinS m.length QC, fun _ => False, fun _ => False⟩ ⟨ws.map some ++ List.replicate (2 - ws.length) none, m.map some⟩ := by
  rintro ws m Q ⟨ns, rfl, rfl, hQ⟩
  unfold rd__law_purse
  walk_at "dl"
  refine o_cutH (us := ns.map T.int) rfl ?_
  have ec := cut_hi (ns.map T.int) 63
  have ec : cut (ns.map T.int) none (some 63) = (ns.map T.int).take 63 := ec
  rw [ec, ← List.map_take]
  have hl : (ns.take 63).length ≤ 63 := by rw [List.length_take]; omega
  generalize ns.take 63 = cs at hl
  walk_at "dl"
  refine ⟨by decide, ?_⟩
  refine i_eqT (u := .lst (cs.map T.int)) (v := .lst []) rfl rfl (sh_ints 7 _) rfl ?_
  rw [teq_nil]
  cases cs with
  | nil =>
    simp only [List.map_nil, List.isEmpty_nil]
    walk_at "dl"
    refine ⟨by decide, ?_⟩
    walk_at "dl"
    refine ⟨by decide, ?_⟩
    refine fin_new [2, 1] (purse 0 [0]) (.h 0) (by decide) (by intro j hj; simp at hj ⊢; omega) rfl rfl ?_ (hQ [0] (by decide) (by decide))
    intro i c e
    match i, e with
    | 0, e => cases e; exact ⟨2, _, rfl, rfl, rfl⟩
    | 1, e => cases e; exact ⟨1, _, rfl, rfl, rfl⟩
    | i + 2, e => simp [purse] at e
  | cons x r =>
    simp only [List.map_cons, List.isEmpty_cons]
    walk_at "dl"
    refine ⟨by decide, ?_⟩
    refine fin_new [1, 0] (purse 0 (x :: r)) (.h 0) (by decide) (by intro j hj; simp at hj ⊢; omega) rfl rfl ?_ (hQ (x :: r) (by simp) (by omega))
    intro i c e
    match i, e with
    | 0, e => cases e; exact ⟨1, _, rfl, rfl, rfl⟩
    | 1, e => cases e; exact ⟨0, _, rfl, rfl, rfl⟩
    | i + 2, e => simp [purse] at e
/-! draws -/
abbrev C__law_draw : SC := C_draw
theorem ln__law_draw : ∀ ws m Q, C__law_draw ws m Q → ws.length = ["_law_purse_here", "_law_out_of"].length := by rintro ws m Q ⟨_, _, _, rfl, _⟩; rfl
def rd__law_draw : DSt :=
  dSeq (dAsg (dVar 0) (dgUnw 2 (dgwCons (dgN 2) (dgwCons (dgN 3) (dgwNil)))))
  (dSeq (dAsg (d2 (fI (fun _ j => j ≠ 0) fun i j => .int (i.fmod j)) (dVar 3) (dN fLen (dCons (dVar 2) (dNil)))) (dgN 4))
  (dSeq (dAsg (d2 fIx (dVar 2) (dVar 4)) (dgN 5))
  (dSeq (dAsg (d2 fAdd (dVar 3) (dC (.int 1))) (dgSub (dVar 0) (dC (.int 1))))
  (dSeq (dIfS (dB (d2 (fI0 fun i j => .bl (decide (j ≤ i))) (dVar 5) (d2 (fI CPow fun i j => .int (i ^ j.toNat)) (dC (.int 10)) (dC (.int 18))))) (dSeq (dAsg (d2 (fI CDivW fun i j => .int (i / j)) (dVar 5) (dVar 1)) (dgSub (dVar 2) (dVar 4)))
  (dRet (d2 (fI (fun _ j => j ≠ 0) fun i j => .int (i.fmod j)) (dVar 5) (dVar 1)))) (dNext))
  (dSeq (dAsg (d2 (fI (fun _ j => j ≠ 0) fun i j => .int (i.fmod j)) (d2 fAdd (d2 fAdd (d2 (fI IntMulOk fun i j => .int (i * j)) (dVar 5) (dC (.int 48271))) (d2 (fI IntMulOk fun i j => .int (i * j)) (d2 (fI IntMulOk fun i j => .int (i * j)) (dVar 3) (dVar 3)) (dC (.int 69621)))) (dC (.int 7))) (dC (.int 2147483647))) (dgN 6))
  (dSeq (dAsg (d2 (fI (fun _ j => j ≠ 0) fun i j => .int (i.fmod j)) (d2 (fI IntMulOk fun i j => .int (i * j)) (dVar 6) (dVar 6)) (dC (.int 2147483629))) (dgN 6))
  (dRet (d2 (fI (fun _ j => j ≠ 0) fun i j => .int (i.fmod j)) (d2 (fI (fun _ j => j ≠ 0) fun i j => .int (i.fmod j)) (d2 (fI IntMulOk fun i j => .int (i * j)) (dVar 6) (dVar 6)) (dC (.int 2147483587))) (dVar 1)))))))))

theorem fmod_rng {a n : Int} (h : 0 < n) : 0 ≤ a.fmod n ∧ a.fmod n < n := ⟨Int.fmod_nonneg_of_pos a h, Int.fmod_lt_of_pos a h⟩
theorem rp__law_draw : ∀ ws m QC, C__law_draw ws m QC → rd__law_draw ⟨FinS m.length QC (.t .non), FinS m.length QC, fun _ => False, fun _ => False⟩ ⟨ws.map some ++ List.replicate (7 - ws.length) none, m.map some⟩ := by
  rintro ws m QC ⟨n, turn, cells, rfl, rfl, h0, h1, h2, h3, h4, hQ⟩
  unfold rd__law_draw
  walk_at "dl"
  refine i_fI (by rw [List.length_map]; omega) ?_
  rw [List.length_map]
  have hat := fmod_rng (a := (turn : Int)) (n := (cells.length : Int)) (by omega)
  generalize (turn : Int).fmod (cells.length : Int) = at0 at hat
  obtain ⟨j, rfl⟩ := Int.eq_ofNat_of_zero_le hat.1
  have hj : j < cells.length := by omega
  have hc : atI (cells.map T.int) (j : Int) = some (.int (cells.getD j 0)) := atI_map T.int (atI_getD 0 hj)
  generalize cells.getD j 0 = cell at hc
  walk_at "dl"
  refine o_putW rfl (j := 1) rfl ?_
  walk_at "dl"
  refine i_fI (by unfold CPow; decide) ?_
  walk_at "dl"
  refine k_d (fun h5 => ?_) (fun h5 => ?_)
  · walk_at "dl"
    refine i_fI (wide_div h2 (b := 64) (by omega) (by decide) (by decide)) ?_
    walk_at "dl"
    refine o_put rfl (ixN_nat (by rw [List.length_map]; exact hj)) ?_
    walk_at "dl"
    refine i_fI (by omega) ?_
    have hr := fmod_rng (a := cell) h2
    have q := hQ _ (cells.set j (cell / n)) hr.1 hr.2 (by simp)
    have := fin_purse (sl := [some (W.h 0), some (W.t (T.int n)), some (W.h 1), some (W.t (T.int turn)), some (W.t (T.int j)), some (W.t (T.int cell)), none]) (mem := []) q
    unfold purseM at this
    rw [List.map_set] at this
    exact this
  · walk_at "dl"
    refine i_fI (mulR (by decide) (by decide)) ?_
    walk_at "dl"
    refine i_fI (mulL (by omega) (by omega)) ?_
    walk_at "dl"
    refine i_fI (mulR (by decide) (by decide)) ?_
    walk_at "dl"
    refine i_fI (by decide) ?_
    have r1 := fmod_rng (a := cell * 48271 + (turn : Int) * turn * 69621 + 7) (n := 2147483647) (by decide)
    generalize (cell * 48271 + (turn : Int) * turn * 69621 + 7).fmod 2147483647 = n1 at r1
    walk_at "dl"
    refine i_fI (mulL (by omega) (by omega)) ?_
    walk_at "dl"
    refine i_fI (by decide) ?_
    have r2 := fmod_rng (a := n1 * n1) (n := 2147483629) (by decide)
    generalize (n1 * n1).fmod 2147483629 = n2 at r2
    walk_at "dl"
    refine i_fI (mulL (by omega) (by omega)) ?_
    walk_at "dl"
    refine i_fI (by decide) ?_
    walk_at "dl"
    refine i_fI (by omega) ?_
    have hr := fmod_rng (a := (n2 * n2).fmod 2147483587) h2
    exact fin_purse (mem := []) (hQ _ cells hr.1 hr.2 rfl)

end DL

namespace DL
open PySem PySem.Spec L2
local macro_rules | `(tactic| walk_at "dn") => `(tactic| simp only [purse_set2, purse_set3, purse_set4, purse_set5, purse_app, purse_len, purse_start, purse_l, G.set, G.put, G.push, G.wipe, wipeW, G.rs, rsW, List.set_cons_zero, List.set_cons_succ, List.map_cons, List.map_nil, List.length_cons, List.length_nil, List.nil_append, List.cons_append, List.replicate_succ, List.replicate_zero, Nat.reduceAdd, Nat.reduceSub, List.getD_cons_zero, List.getD_cons_succ, Option.getD_some, Option.getD_none])
local macro_rules | `(tactic| walk_at "d1") => `(tactic| first
  | with_reducible refine i_seq ?_
  | with_reducible refine i_asg ?_
  | with_reducible refine i_d2 ?_
  | ((with_reducible refine' i_var ?e ?_); (case e => rfl))
  | with_reducible refine i_c ?_
  | ((with_reducible refine' i_ix ?e ?v ?_); (case e => rfl); (case v => first | assumption | rfl))
  | with_reducible refine i_fI0 ?_
  | with_reducible refine i_gN ?_
  | with_reducible refine i_cons ?_
  | with_reducible refine i_nil ?_
  | with_reducible refine i_dN ?_
  | ((with_reducible refine' i_len ?e ?_); (case e => rfl))
  | with_reducible refine i_d1 ?_
  | with_reducible refine i_neg ?_
  | with_reducible refine i_B ?_
  | with_reducible refine o_B ?_
  | with_reducible refine o_I ?_
  | with_reducible refine i_ifS ?_
  | with_reducible refine i_or ?_
  | with_reducible refine i_and ?_
  | with_reducible refine i_not ?_
  | with_reducible refine i_andV ?_
  | with_reducible refine i_orV ?_
  | with_reducible refine i_notV ?_
  | with_reducible refine i_if ?_
  | with_reducible refine i_yes ?_
  | with_reducible refine k_T ?_
  | with_reducible refine k_F ?_
  | with_reducible refine k_True ?_
  | with_reducible refine k_False ?_
  | with_reducible refine i_eqI ?_
  | with_reducible refine i_neI ?_
  | with_reducible refine i_addI ?_
  | with_reducible refine i_addHI ?_
  | with_reducible refine i_callT ?_
  | with_reducible refine i_callH ?_
  | ((with_reducible refine' o_Ts ?e ?_); (case e => rfl))
  | with_reducible refine o_T ?_
  | ((with_reducible refine' o_TF ?e ?_); (case e => rfl))
  | with_reducible refine o_H ?_
  | ((with_reducible refine' o_HF ?e ?_); (case e => rfl))
  | with_reducible refine i_next ?_
  | with_reducible refine i_drop ?_
  | with_reducible refine i_ret ?_
  | with_reducible refine i_retN ?_
  | ((with_reducible refine' i_gTup ?e ?_); (case e => rfl))
  | with_reducible refine i_gCons ?_
  | with_reducible refine i_gNil ?_
  | with_reducible refine i_min2 ?_
  | with_reducible refine i_max2 ?_
  | with_reducible refine i_par ?_
  | with_reducible refine o_W2 ?_
  | ((with_reducible refine' i_aug ?e ?_); (case e => rfl))
  | with_reducible refine i_intI ?_
  | with_reducible refine i_intB ?_
  | with_reducible refine i_lc ?_
  | with_reducible refine i_for ?_
  | with_reducible refine i_while ?_
  | with_reducible refine i_itL ?_
  | ((with_reducible refine' o_Lq ?e ?_); (case e => rfl))
  | with_reducible refine i_itR1 ?_
  | with_reducible refine i_itR2 ?_
  | with_reducible refine o_I1 ?_
  | with_reducible refine o_I2 ?_
  | with_reducible refine e_t ?_
  | ((with_reducible refine' e_h ?e ?p ?_); (case e => rfl); (case p => rfl))
  | with_reducible refine i_M ?_
  | with_reducible refine i_M0 ?_
  | with_reducible refine i_gSub ?_
  | with_reducible refine i_finH ?_
  | with_reducible refine i_finT ?_
  | with_reducible refine i_sl ?_
  | with_reducible refine i_slH ?_
  | with_reducible refine i_slT ?_
  | with_reducible refine i_noPart ?_
  | with_reducible refine i_part ?_
  | ((with_reducible refine' i_frzT ?e ?_); (case e => rfl))
  | ((with_reducible refine' i_frzH ?e ?m ?t ?_); (case e => rfl); (case m => rfl); (case t => rfl))
  | ((with_reducible refine' i_din ?k ?e ?_); (case k => rfl); (case e => rfl))
  | ((with_reducible refine' i_dnotin ?k ?e ?_); (case k => rfl); (case e => rfl))
  | with_reducible refine i_dput ?_
  | with_reducible refine i_newD ?_
  | with_reducible refine i_lstH ?_
  | with_reducible refine i_lst ?_
  | with_reducible refine i_tup ?_
  | with_reducible refine i_break ?_
  | with_reducible refine i_cont ?_
  | with_reducible refine i_callS ?_
  | ((with_reducible refine' i_ixHW ?e ?v ?_); (case e => first | rfl | assumption); (case v => first | assumption | rfl))
  | ((with_reducible refine' i_ixHT ?e ?v ?_); (case e => first | rfl | assumption); (case v => first | assumption | rfl))
  | ((with_reducible refine' i_lenHT ?e ?_); (case e => first | rfl | assumption))
  | ((with_reducible refine' i_lenHW ?e ?_); (case e => first | rfl | assumption))
  | ((with_reducible refine' i_frzH ?e ?m ?t ?_); (case e => rfl); (case m => rfl); (case t => rfl))
  | ((with_reducible refine' i_unw ?e ?n ?_); (case e => rfl); (case n => rfl))
  | with_reducible refine i_gwCons ?_
  | with_reducible refine i_gwNil ?_
  | with_reducible refine i_lstW ?_
  | ((with_reducible refine' i_gList ?e ?n ?_); (case e => rfl); (case n => rfl))
  | with_reducible refine i_listRgH ?_
  | with_reducible refine i_listRg ?_
  | with_reducible refine i_R1 ?_
  | with_reducible refine i_getD ?_
  | ((with_reducible refine' i_none ?k ?_); (case k => rfl))
  | walk_at "dn")
local macro_rules | `(tactic| walk_at "dl") => `(tactic| ((try walk_at "dn"); repeat walk_at "d1"))
structure Row where
  p : Int
  s : Int
  e : Int
  c : Int
structure Web where
  places : List Int
  rows : List Row
def Row.t (r : Row) : T := .tup [.int r.p, .int r.s, .int r.e, .int r.c]
def Web.t (w : Web) : T := .tup [.lst (w.places.map T.int), .lst (w.rows.map Row.t)]
def row0 : Row := ⟨0, 0, 0, 0⟩
def Web.row (w : Web) (k : Nat) : Row := w.rows.getD k row0
def Web.rowsOf (w : Web) (p : Int) : List Nat := (List.range w.rows.length).filter fun k => decide ((w.row k).p = p)
def natT (k : Nat) : T := .int (k : Nat)
theorem row_at {w : Web} {k : Nat} (h : k < w.rows.length) : atI (w.rows.map Row.t) (k : Int) = some (w.row k).t := atI_map Row.t (atI_getD row0 h)
theorem mem_rowsOf {w : Web} {p : Int} {k : Nat} : k ∈ w.rowsOf p ↔ k < w.rows.length ∧ (w.row k).p = p := by
  unfold Web.rowsOf
  rw [List.mem_filter, List.mem_range]
  simp
def C_rows_of : PC := fun ts Q => ∃ (w : Web) (p : Int), ts = [w.t, .int p] ∧ w.rows.length ≤ 1000 ∧ Q (.f (.lt ((w.rowsOf p).map natT)))
theorem ln_rows_of : ∀ ts Q, C_rows_of ts Q → ts.length = ["web", "part"].length := by rintro ts Q ⟨_, _, rfl, _⟩; rfl
def rd_rows_of : DSt :=
  dRet (dLc finH (diR1 (dCons (dN fLen (dCons (d2 fIx (dVar 0) (dC (.int 1))) (dNil))) (dNil))) (dgN 2) (dB (d2 (fEq false) (d2 fIx (d2 fIx (d2 fIx (dVar 0) (dC (.int 1))) (dVar 2)) (dC (.int 0))) (dVar 1))) (dVar 2) [2])

theorem rp_rows_of : ∀ ts Q, C_rows_of ts Q → rd_rows_of ⟨FinP Q (.t .non), FinP Q, fun _ => False, fun _ => False⟩ ⟨ts.map (fun t => some (W.t t)) ++ List.replicate (3 - ts.length) none, []⟩ := by
  rintro ts Q ⟨w, p, rfl, hl, hQ⟩
  unfold rd_rows_of Web.t
  walk_at "dl"
  rw [List.length_map]
  refine ⟨by omega, ?_⟩
  refine lcP (List.range w.rows.length) (fun k => W.t (natT k)) (fun k => decide ((w.row k).p = p)) natT (by rw [Int.toNat_natCast, rgW0]; rfl) (by rw [List.length_range]; exact lineLe (by omega)) trivial ?_ rfl ?_
  · intro k hk Y N hY hN
    have hk' : k < w.rows.length := by simpa using hk
    have hr := row_at hk'
    unfold natT Row.t at *
    walk_at "dl"
    refine k_d (fun h => ?_) (fun h => ?_)
    · walk_at "dl"
      exact hY (decide_eq_true h) _ rfl
    · exact hN (decide_eq_false h) _ rfl
  · walk_at "dl"
    exact hQ
/-! reached -/
inductive Reach (E : List (Int × Int)) (s : Int) : Int → Prop
  | refl : Reach E s s
  | step {a b : Int} : Reach E s a → (a, b) ∈ E → Reach E s b
def Web.edge (w : Web) (tn : Bool) (k : Nat) : Int × Int := if tn = true then ((w.row k).e, (w.row k).s) else ((w.row k).s, (w.row k).e)
def Web.edges (w : Web) (p : Int) (tn : Bool) : List (Int × Int) := (w.rowsOf p).map (w.edge tn)
def ins (ks : List Int) (b : Int) : List Int := if b ∈ ks then ks else ks ++ [b]
def pass1 (ks : List Int) (ab : Int × Int) : List Int := if ab.1 ∈ ks then ins ks ab.2 else ks
theorem ins_mem {ks : List Int} {b x : Int} : x ∈ ins ks b ↔ x ∈ ks ∨ x = b := by
  unfold ins
  split
  · constructor
    · exact .inl
    · rintro (h | rfl)
      · exact h
      · assumption
  · rw [List.mem_append, List.mem_singleton]
theorem ins_nd {ks : List Int} {b : Int} (h : ks.Nodup) : (ins ks b).Nodup := by
  unfold ins
  split
  · exact h
  · rename_i hb
    rw [List.nodup_append]
    exact ⟨h, by simp, by intro a ha c hc; simp at hc; subst hc; intro z; subst z; exact hb ha⟩
theorem ins_len (ks : List Int) (b : Int) : ks.length ≤ (ins ks b).length := by
  unfold ins; split
  · exact Nat.le_refl _
  · simp
theorem pass1_sub {ks : List Int} {ab : Int × Int} {x : Int} (h : x ∈ ks) : x ∈ pass1 ks ab := by
  unfold pass1; split
  · exact ins_mem.mpr (.inl h)
  · exact h
theorem pass_sub {E : List (Int × Int)} : ∀ {ks : List Int} {x : Int}, x ∈ ks → x ∈ E.foldl pass1 ks := by
  induction E with
  | nil => intro ks x h; exact h
  | cons ab E ih => intro ks x h; rw [List.foldl_cons]; exact ih (pass1_sub h)
theorem pass1_len (ks : List Int) (ab : Int × Int) : ks.length ≤ (pass1 ks ab).length := by
  unfold pass1; split
  · exact ins_len _ _
  · exact Nat.le_refl _
theorem pass_len {E : List (Int × Int)} : ∀ ks : List Int, ks.length ≤ (E.foldl pass1 ks).length := by
  induction E with
  | nil => intro ks; exact Nat.le_refl _
  | cons ab E ih => intro ks; rw [List.foldl_cons]; exact Nat.le_trans (pass1_len _ _) (ih _)
theorem pass_nd {E : List (Int × Int)} : ∀ {ks : List Int}, ks.Nodup → (E.foldl pass1 ks).Nodup := by
  induction E with
  | nil => intro ks h; exact h
  | cons ab E ih =>
    intro ks h
    rw [List.foldl_cons]
    refine ih ?_
    unfold pass1; split
    · exact ins_nd h
    · exact h
theorem pass_reach {E : List (Int × Int)} {s : Int} : ∀ (E2 : List (Int × Int)) {ks : List Int}, (∀ ab ∈ E2, ab ∈ E) → (∀ x ∈ ks, Reach E s x) → ∀ x ∈ E2.foldl pass1 ks, Reach E s x
  | [], _, _, h => h
  | ab :: E2, ks, hE, h => by
    rw [List.foldl_cons]
    refine pass_reach E2 (fun c hc => hE c (by simp [hc])) fun x hx => ?_
    unfold pass1 at hx
    split at hx
    · rename_i ha
      rcases ins_mem.mp hx with hx | rfl
      · exact h x hx
      · exact .step (h _ ha) (hE ab (by simp))
    · exact h x hx
theorem pass_has {E : List (Int × Int)} : ∀ {ks : List Int} {a b : Int}, (a, b) ∈ E → a ∈ ks → b ∈ E.foldl pass1 ks := by
  induction E with
  | nil => intro ks a b h; simp at h
  | cons ab E ih =>
    intro ks a b h ha
    rw [List.foldl_cons]
    rcases List.mem_cons.mp h with rfl | h
    · refine pass_sub ?_
      unfold pass1
      rw [if_pos ha]
      exact ins_mem.mpr (.inr rfl)
    · exact ih h (pass1_sub ha)
theorem ins_eq {ks : List Int} {b : Int} (h : (ins ks b).length = ks.length) : ins ks b = ks := by
  unfold ins at h ⊢
  split at h
  · rename_i hb; rw [if_pos hb]
  · simp at h
theorem pass_eq {E : List (Int × Int)} : ∀ {ks : List Int}, (E.foldl pass1 ks).length = ks.length → E.foldl pass1 ks = ks := by
  induction E with
  | nil => intro ks _; rfl
  | cons ab E ih =>
    intro ks h
    rw [List.foldl_cons] at h ⊢
    have h1 := pass1_len ks ab
    have h2 := pass_len (E := E) (pass1 ks ab)
    have h3 : (pass1 ks ab).length = ks.length := by omega
    have h4 : pass1 ks ab = ks := by
      unfold pass1 at h3 ⊢
      split at h3
      · rename_i ha; rw [if_pos ha]; exact ins_eq h3
      · rename_i ha; rw [if_neg ha]
    rw [h4] at h ⊢
    exact ih h
theorem reach_closed {E : List (Int × Int)} {s : Int} {ks : List Int} (hs : s ∈ ks) (hc : ∀ a b, (a, b) ∈ E → a ∈ ks → b ∈ ks) {x : Int} (h : Reach E s x) : x ∈ ks := by
  induction h with
  | refl => exact hs
  | step _ he ih => exact hc _ _ he ih
/-- a set of ints, as a dict's cell -/
def bset (ks : List Int) : Cell := .dt (ks.map Sum.inl) (ks.map fun _ => T.bl true)
theorem hasK_ints {b : Int} : ∀ ks : List Int, hasK (ks.map Sum.inl) (Sum.inl b) = decide (b ∈ ks)
  | [] => by simp [hasK]
  | k :: ks => by
    have ih := hasK_ints (b := b) ks
    unfold hasK at ih ⊢
    rw [List.map_cons, List.any_cons, ih]
    by_cases h : k = b
    · subst h; simp
    · have h1 : ¬ (Sum.inl k : Key) = Sum.inl b := fun z => h (Sum.inl.inj z)
      have h2 : ¬ b = k := fun z => h z.symm
      simp [h1, h2, List.mem_cons]
theorem look_bset {b : Int} (ks : List Int) : (look (ks.map Sum.inl) (ks.map fun _ => T.bl true) (Sum.inl b)).isSome = decide (b ∈ ks) := by
  rw [← has_look (Sum.inl b) (by simp), hasK_ints]
theorem putAll_same {k : Key} {x : T} : ∀ ks : List Key, putAll k x ks (ks.map fun _ => x) = ks.map fun _ => x
  | [] => rfl
  | j :: ks => by
    rw [List.map_cons]
    unfold putAll
    rw [putAll_same ks]
    split <;> rfl
theorem putKs_bset {b : Int} (ks : List Int) : putKs (ks.map Sum.inl) (Sum.inl b) = (ins ks b).map Sum.inl := by
  unfold putKs ins
  rw [hasK_ints]
  by_cases h : b ∈ ks
  · rw [if_pos (decide_eq_true h), if_pos h]
  · rw [if_neg (by simpa using h), if_neg h, List.map_append]; rfl
theorem putXs_bset {b : Int} (ks : List Int) : putXs (ks.map Sum.inl) (ks.map fun _ => T.bl true) (Sum.inl b) (T.bl true) = (ins ks b).map fun _ => T.bl true := by
  unfold putXs ins
  rw [hasK_ints]
  by_cases h : b ∈ ks
  · rw [if_pos (decide_eq_true h), if_pos h]
    have := putAll_same (k := Sum.inl b) (x := T.bl true) (ks.map Sum.inl)
    rw [List.map_map] at this
    exact this
  · rw [if_neg (by simpa using h), if_neg h, List.map_append]; rfl
def C_reached : PC := fun ts Q => ∃ (w : Web) (p s : Int) (tn : Bool), ts = [w.t, .int p, .int s, .bl tn] ∧ w.rows.length ≤ 1000 ∧ ∀ ks : List Int, ks.Nodup → (∀ x, x ∈ ks ↔ Reach (w.edges p tn) s x) → Q (.f (bset ks))
theorem ln_reached : ∀ ts Q, C_reached ts Q → ts.length = ["web", "part", "start", "turned"].length := by rintro ts Q ⟨_, _, _, _, rfl, _⟩; rfl
def rd_reached : DSt :=
  dSeq (dAsg (dDisp [(dVar 2, dC (.bl true))]) (dgN 4))
  (dSeq (dAsg (dC (.int 0)) (dgN 5))
  (dSeq (dWhile (dB (d2 (fI0 fun i j => .bl (decide (i < j))) (dVar 5) (dN fLen (dCons (dVar 4) (dNil))))) (dSeq (dAsg (dN fLen (dCons (dVar 4) (dNil))) (dgN 5))
  (dFor (diL (dCallT C_rows_of (dCons (dVar 0) (dCons (dVar 1) (dNil))))) (dgN 6) (dSeq (dPar 7 8 (dCons (d2 fIx (d2 fIx (d2 fIx (dVar 0) (dC (.int 1))) (dVar 6)) (dC (.int 1))) (dCons (d2 fIx (d2 fIx (d2 fIx (dVar 0) (dC (.int 1))) (dVar 6)) (dC (.int 2))) (dNil))))
  (dSeq (dIfS (dB (dVar 3)) (dPar 7 8 (dCons (dVar 8) (dCons (dVar 7) (dNil)))) (dNext))
  (dIfS (dB (d2 (fDin false) (dVar 7) (dVar 4))) (dDput (dVar 4) (dVar 8) (dC (.bl true))) (dNext)))))))
  (dRet (dVar 4))))

/-! one written pair -/
def onKey (w : W) (P : Key → Prop) : Prop := match w with | .t kt => (match keyT kt with | some k => P k | none => False) | _ => False
def onTr (w : W) (P : T → Prop) : Prop := match w with | .t x => P x | _ => False
theorem o_Key {kt : T} {k : Key} {P : Key → Prop} (e : keyT kt = some k) (h : P k) : onKey (.t kt) P := by unfold onKey; dsimp only; rw [e]; exact h
theorem i_disp1 {tk tv : Dt} {g : G} {Q : W → G → Prop} (h : tk g fun w g1 => onKey w fun k => tv g1 fun w2 g2 => onTr w2 fun x => 1 ≤ 15 ∧ Q (.h g2.mem.length) (g2.push (.dt [k] [x]))) : dDisp [(tk, tv)] g Q := h
theorem rp_reached : ∀ ts Q, C_reached ts Q → rd_reached ⟨FinP Q (.t .non), FinP Q, fun _ => False, fun _ => False⟩ ⟨ts.map (fun t => some (W.t t)) ++ List.replicate (9 - ts.length) none, []⟩ := by
  rintro ts Q ⟨w, p, s, tn, rfl, hl, hQ⟩
  unfold rd_reached Web.t
  walk_at "dl"
  refine i_disp1 ?_
  walk_at "dl"
  refine o_Key rfl ?_
  walk_at "dl"
  refine ⟨by decide, ?_⟩
  walk_at "dl"
  have sub0 : ∀ ks : List Int, (∀ x ∈ ks, x ∈ s :: (w.edges p tn).map (·.2)) → ks.Nodup → ks.length ≤ 1001 := fun ks h nd => by
    have h1 := nd.length_le_of_subset h
    have h2 : (w.edges p tn).length ≤ w.rows.length := by
      unfold Web.edges Web.rowsOf
      rw [List.length_map]
      exact Nat.le_trans (List.length_filter_le _ _) (by rw [List.length_range]; exact Nat.le_refl _)
    rw [List.length_cons, List.length_map] at h1
    omega
  have rsub : ∀ x, Reach (w.edges p tn) s x → x ∈ s :: (w.edges p tn).map (·.2) := fun x h => by
    cases h with
    | refl => simp
    | step _ he => exact List.mem_cons_of_mem _ (List.mem_map.mpr ⟨_, he, rfl⟩)
  refine ⟨fun n g' => ∃ (ks : List Int) (m : Nat) (o6 o7 o8 : Option W), g' = ⟨[some (.t (.tup [.lst (w.places.map T.int), .lst (w.rows.map Row.t)])), some (.t (.int p)), some (.t (.int s)), some (.t (.bl tn)), some (.h 0), some (.t (.int m)), o6, o7, o8], [some (bset ks)]⟩ ∧
      ks.Nodup ∧ s ∈ ks ∧ (∀ x ∈ ks, Reach (w.edges p tn) s x) ∧ m ≤ ks.length ∧ (m = ks.length → ∀ a b, (a, b) ∈ w.edges p tn → a ∈ ks → b ∈ ks) ∧ n = 2000 - m, ⟨_, [s], 0, none, none, none, rfl, by simp, by simp, ?_, by simp, by simp, rfl⟩, ?_⟩
  · intro x hx
    simp at hx
    subst hx
    exact .refl
  · rintro n g' ⟨ks, m, o6, o7, o8, rfl, nd, hs, hr, hm, hcl, rfl⟩
    have hb : ks.length ≤ 1001 := sub0 ks (fun x hx => rsub x (hr x hx)) nd
    unfold bset
    walk_at "dl"
    rw [List.length_map]
    refine k_d (fun hlt => ?_) (fun hge => ?_)
    · walk_at "dl"
      rw [List.length_map]
      refine ⟨w, p, rfl, hl, ?_⟩
      walk_at "dl"
      refine forP (w.rowsOf p) (fun k => W.t (natT k)) (fun ks k => pass1 ks (w.edge tn k))
        (fun ks' g' => ∃ (o6 o7 o8 : Option W), g' = ⟨[some (.t (.tup [.lst (w.places.map T.int), .lst (w.rows.map Row.t)])), some (.t (.int p)), some (.t (.int s)), some (.t (.bl tn)), some (.h 0), some (.t (.int ks.length)), o6, o7, o8], [some (bset ks')]⟩)
        ks (by rw [List.map_map]; rfl) ⟨o6, o7, o8, rfl⟩ (fun _ _ _ => rfl) ?_ ?_
      · rintro pre k post hsp g' ⟨o6, o7, o8, rfl⟩ N hN
        have hk : k < w.rows.length := (mem_rowsOf.mp (by rw [hsp]; simp : k ∈ w.rowsOf p)).1
        have hrow := row_at hk
        generalize hks : pre.foldl (fun ks k => pass1 ks (w.edge tn k)) ks = ks2 at hN
        have hb2 : ks2.length ≤ 1001 := by
          have e1 : ks2 = ((pre.map (w.edge tn)).foldl pass1 ks) := by rw [← hks, List.foldl_map]
          have hin : ∀ ab ∈ pre.map (w.edge tn), ab ∈ w.edges p tn := fun ab hab => by
            obtain ⟨j, hj, rfl⟩ := List.mem_map.mp hab
            exact List.mem_map.mpr ⟨j, by rw [hsp]; simp [hj], rfl⟩
          rw [e1]
          exact sub0 _ (fun x hx => rsub x (pass_reach _ hin hr x hx)) (pass_nd nd)
        unfold natT Row.t bset at *
        walk_at "dl"
        cases tn with
        | true =>
          walk_at "dl"
          rw [look_bset]
          refine k_d (fun hin => ?_) (fun hin => ?_)
          · walk_at "dl"
            refine o_dput rfl rfl (by rw [List.length_map]; exact lineLt (by omega)) ?_
            walk_at "dn"
            rw [putKs_bset, putXs_bset]
            have e : pass1 ks2 (w.edge true k) = ins ks2 _ := if_pos hin
            rw [e] at hN
            exact hN _ ⟨_, _, _, rfl⟩
          · walk_at "dl"
            have e : pass1 ks2 (w.edge true k) = ks2 := if_neg hin
            rw [e] at hN
            exact hN _ ⟨_, _, _, rfl⟩
        | false =>
          walk_at "dl"
          rw [look_bset]
          refine k_d (fun hin => ?_) (fun hin => ?_)
          · walk_at "dl"
            refine o_dput rfl rfl (by rw [List.length_map]; exact lineLt (by omega)) ?_
            walk_at "dn"
            rw [putKs_bset, putXs_bset]
            have e : pass1 ks2 (w.edge false k) = ins ks2 _ := if_pos hin
            rw [e] at hN
            exact hN _ ⟨_, _, _, rfl⟩
          · walk_at "dl"
            have e : pass1 ks2 (w.edge false k) = ks2 := if_neg hin
            rw [e] at hN
            exact hN _ ⟨_, _, _, rfl⟩
      · rintro g' ⟨o6, o7, o8, rfl⟩
        have e1 : (w.rowsOf p).foldl (fun ks k => pass1 ks (w.edge tn k)) ks = (w.edges p tn).foldl pass1 ks := by unfold Web.edges; rw [List.foldl_map]
        rw [e1]
        refine ⟨2000 - ks.length, by omega, _, ks.length, o6, o7, o8, rfl, pass_nd nd, pass_sub hs, pass_reach _ (fun _ h => h) hr, pass_len ks, fun he a b hab ha => ?_, rfl⟩
        have e2 := pass_eq he.symm
        rw [e2] at ha ⊢
        rw [← e2]
        exact pass_has hab ha
    · walk_at "dl"
      have he : m = ks.length := by omega
      exact hQ ks nd fun x => ⟨hr x, reach_closed hs (hcl he)⟩

end DL

namespace DL
open PySem PySem.Spec L2
local macro_rules | `(tactic| walk_at "dn") => `(tactic| simp only [purse_set2, purse_set3, purse_set4, purse_set5, purse_app, purse_len, purse_start, purse_l, G.set, G.put, G.push, G.wipe, wipeW, G.rs, rsW, List.set_cons_zero, List.set_cons_succ, List.map_cons, List.map_nil, List.length_cons, List.length_nil, List.nil_append, List.cons_append, List.replicate_succ, List.replicate_zero, Nat.reduceAdd, Nat.reduceSub, List.getD_cons_zero, List.getD_cons_succ, Option.getD_some, Option.getD_none])
local macro_rules | `(tactic| walk_at "d1") => `(tactic| first
  | with_reducible refine i_seq ?_
  | with_reducible refine i_asg ?_
  | with_reducible refine i_d2 ?_
  | ((with_reducible refine' i_var ?e ?_); (case e => rfl))
  | with_reducible refine i_c ?_
  | ((with_reducible refine' i_ix ?e ?v ?_); (case e => rfl); (case v => first | assumption | rfl))
  | with_reducible refine i_fI0 ?_
  | with_reducible refine i_gN ?_
  | with_reducible refine i_cons ?_
  | with_reducible refine i_nil ?_
  | with_reducible refine i_dN ?_
  | ((with_reducible refine' i_len ?e ?_); (case e => rfl))
  | with_reducible refine i_d1 ?_
  | with_reducible refine i_neg ?_
  | with_reducible refine i_B ?_
  | with_reducible refine o_B ?_
  | with_reducible refine o_I ?_
  | with_reducible refine i_ifS ?_
  | with_reducible refine i_or ?_
  | with_reducible refine i_and ?_
  | with_reducible refine i_not ?_
  | with_reducible refine i_andV ?_
  | with_reducible refine i_orV ?_
  | with_reducible refine i_notV ?_
  | with_reducible refine i_if ?_
  | with_reducible refine i_yes ?_
  | with_reducible refine k_T ?_
  | with_reducible refine k_F ?_
  | with_reducible refine k_True ?_
  | with_reducible refine k_False ?_
  | with_reducible refine i_eqI ?_
  | with_reducible refine i_neI ?_
  | with_reducible refine i_addI ?_
  | with_reducible refine i_addHI ?_
  | with_reducible refine i_callT ?_
  | with_reducible refine i_callH ?_
  | ((with_reducible refine' o_Ts ?e ?_); (case e => rfl))
  | with_reducible refine o_T ?_
  | ((with_reducible refine' o_TF ?e ?_); (case e => rfl))
  | with_reducible refine o_H ?_
  | ((with_reducible refine' o_HF ?e ?_); (case e => rfl))
  | with_reducible refine i_next ?_
  | with_reducible refine i_drop ?_
  | with_reducible refine i_ret ?_
  | with_reducible refine i_retN ?_
  | ((with_reducible refine' i_gTup ?e ?_); (case e => rfl))
  | with_reducible refine i_gCons ?_
  | with_reducible refine i_gNil ?_
  | with_reducible refine i_min2 ?_
  | with_reducible refine i_max2 ?_
  | with_reducible refine i_par ?_
  | with_reducible refine o_W2 ?_
  | ((with_reducible refine' i_aug ?e ?_); (case e => rfl))
  | with_reducible refine i_intI ?_
  | with_reducible refine i_intB ?_
  | with_reducible refine i_lc ?_
  | with_reducible refine i_for ?_
  | with_reducible refine i_while ?_
  | with_reducible refine i_itL ?_
  | ((with_reducible refine' o_Lq ?e ?_); (case e => rfl))
  | with_reducible refine i_itR1 ?_
  | with_reducible refine i_itR2 ?_
  | with_reducible refine o_I1 ?_
  | with_reducible refine o_I2 ?_
  | with_reducible refine e_t ?_
  | ((with_reducible refine' e_h ?e ?p ?_); (case e => rfl); (case p => rfl))
  | with_reducible refine i_M ?_
  | with_reducible refine i_M0 ?_
  | with_reducible refine i_gSub ?_
  | with_reducible refine i_finH ?_
  | with_reducible refine i_finT ?_
  | with_reducible refine i_sl ?_
  | with_reducible refine i_slH ?_
  | with_reducible refine i_slT ?_
  | with_reducible refine i_noPart ?_
  | with_reducible refine i_part ?_
  | ((with_reducible refine' i_frzT ?e ?_); (case e => rfl))
  | ((with_reducible refine' i_frzH ?e ?m ?t ?_); (case e => rfl); (case m => rfl); (case t => rfl))
  | ((with_reducible refine' i_din ?k ?e ?_); (case k => rfl); (case e => rfl))
  | ((with_reducible refine' i_dnotin ?k ?e ?_); (case k => rfl); (case e => rfl))
  | with_reducible refine i_dput ?_
  | with_reducible refine i_newD ?_
  | with_reducible refine i_lstH ?_
  | with_reducible refine i_lst ?_
  | with_reducible refine i_tup ?_
  | with_reducible refine i_break ?_
  | with_reducible refine i_cont ?_
  | with_reducible refine i_callS ?_
  | ((with_reducible refine' i_ixHW ?e ?v ?_); (case e => first | rfl | assumption); (case v => first | assumption | rfl))
  | ((with_reducible refine' i_ixHT ?e ?v ?_); (case e => first | rfl | assumption); (case v => first | assumption | rfl))
  | ((with_reducible refine' i_lenHT ?e ?_); (case e => first | rfl | assumption))
  | ((with_reducible refine' i_lenHW ?e ?_); (case e => first | rfl | assumption))
  | ((with_reducible refine' i_frzH ?e ?m ?t ?_); (case e => rfl); (case m => rfl); (case t => rfl))
  | ((with_reducible refine' i_unw ?e ?n ?_); (case e => rfl); (case n => rfl))
  | with_reducible refine i_gwCons ?_
  | with_reducible refine i_gwNil ?_
  | with_reducible refine i_lstW ?_
  | ((with_reducible refine' i_gList ?e ?n ?_); (case e => rfl); (case n => rfl))
  | with_reducible refine i_listRgH ?_
  | with_reducible refine i_listRg ?_
  | with_reducible refine i_R1 ?_
  | with_reducible refine i_getD ?_
  | ((with_reducible refine' i_none ?k ?_); (case k => rfl))
  | walk_at "dn")
local macro_rules | `(tactic| walk_at "dl") => `(tactic| ((try walk_at "dn"); repeat walk_at "d1"))
def Web.place (w : Web) (i : Int) : Int := w.places.getD i.toNat 0
def Web.rowOk (w : Web) (r : Row) : Prop := 0 ≤ r.p ∧ r.p < w.places.length ∧ 0 ≤ r.s ∧ 0 ≤ r.e ∧ r.s < w.place r.p ∧ r.e < w.place r.p ∧ r.s ≠ 1 ∧ r.c < w.places.length ∧ (r.c = -1 ∨ r.p < r.c)
theorem place_at {w : Web} {i : Int} (h0 : 0 ≤ i) (h1 : i < w.places.length) : atI (w.places.map T.int) i = some (.int (w.place i)) := by
  obtain ⟨n, rfl⟩ := Int.eq_ofNat_of_zero_le h0
  exact atI_map T.int (atI_getD 0 (by omega))
def C_fits_row : PC := fun ts Q => ∃ (w : Web) (r : Row), ts = [w.t, r.t] ∧ (w.rowOk r → Q (.t (.bl true))) ∧ (¬ w.rowOk r → Q (.t (.bl false)))
theorem ln_fits_row : ∀ ts Q, C_fits_row ts Q → ts.length = ["web", "row"].length := by rintro ts Q ⟨_, _, rfl, _⟩; rfl
def rd_fits_row : DSt :=
  dSeq (dAsg (dVar 0) (dgTup 2 (dgCons (dgN 2) (dgCons (dgN 3) (dgNil)))))
  (dSeq (dAsg (dVar 1) (dgTup 4 (dgCons (dgN 4) (dgCons (dgN 5) (dgCons (dgN 6) (dgCons (dgN 7) (dgNil)))))))
  (dSeq (dIfS (dOr (dB (d2 (fI0 fun i j => .bl (decide (i < j))) (dVar 4) (dC (.int 0)))) (dOr (dB (d2 (fI0 fun i j => .bl (decide (j ≤ i))) (dVar 4) (dN fLen (dCons (dVar 2) (dNil))))) (dOr (dB (d2 (fI0 fun i j => .bl (decide (i < j))) (dN fMin (dCons (dVar 5) (dCons (dVar 6) (dNil)))) (dC (.int 0)))) (dB (d2 (fI0 fun i j => .bl (decide (j ≤ i))) (dN fMax (dCons (dVar 5) (dCons (dVar 6) (dNil)))) (d2 fIx (dVar 2) (dVar 4))))))) (dRet (dC (.bl false))) (dNext))
  (dRet (dAndV (d2 (fEq true) (dVar 5) (dC (.int 1))) (dAndV (d2 (fI0 fun i j => .bl (decide (i < j))) (dVar 7) (dN fLen (dCons (dVar 2) (dNil)))) (dOrV (d2 (fEq false) (dVar 7) (d1 fNeg (dC (.int 1)))) (d2 (fI0 fun i j => .bl (decide (j < i))) (dVar 7) (dVar 4))))))))

theorem rp_fits_row : ∀ ts Q, C_fits_row ts Q → rd_fits_row ⟨FinP Q (.t .non), FinP Q, fun _ => False, fun _ => False⟩ ⟨ts.map (fun t => some (W.t t)) ++ List.replicate (8 - ts.length) none, []⟩ := by
  rintro ts Q ⟨w, r, rfl, hT, hF⟩
  unfold rd_fits_row Web.t Row.t
  unfold Web.rowOk at hT hF
  walk_at "dl"
  refine k_d (fun h1 => ?_) (fun h1 => ?_)
  · walk_at "dl"
    exact hF (by omega)
  · walk_at "dl"
    rw [List.length_map]
    refine k_d (fun h2 => ?_) (fun h2 => ?_)
    · walk_at "dl"
      exact hF (by omega)
    · have hp := place_at (w := w) (i := r.p) (by omega) (by omega)
      walk_at "dl"
      refine k_d (fun h3 => ?_) (fun h3 => ?_)
      · walk_at "dl"
        exact hF (by split at h3 <;> omega)
      · walk_at "dl"
        refine k_d (fun h4 => ?_) (fun h4 => ?_)
        · walk_at "dl"
          exact hF (by split at h4 <;> omega)
        · have h5 : 0 ≤ r.s ∧ 0 ≤ r.e ∧ r.s < w.place r.p ∧ r.e < w.place r.p := by split at h3 <;> split at h4 <;> omega
          walk_at "dl"
          refine k_n (fun h6 => ?_) (fun h6 => ?_)
          · walk_at "dl"
            rw [List.length_map]
            refine k_d (fun h7 => ?_) (fun h7 => ?_)
            · walk_at "dl"
              refine k_d (fun h8 => ?_) (fun h8 => ?_)
              · walk_at "dl"
                exact hT (by omega)
              · walk_at "dl"
                by_cases h9 : r.p < r.c
                · rw [decide_eq_true h9]
                  exact hT (by omega)
                · rw [decide_eq_false h9]
                  exact hF (by omega)
            · walk_at "dl"
              exact hF (by omega)
          · walk_at "dl"
            exact hF (by omega)
/-! is_web -/
def Web.partOk (w : Web) (p : Nat) : Prop := (∀ q : Int, 0 ≤ q → q < w.place p → Reach (w.edges p false) 0 q ∧ Reach (w.edges p true) 1 q) ∧ (0 < p → ∃ r ∈ w.rows, r.c = (p : Int))
def Web.Ok (w : Web) : Prop := (1 ≤ w.places.length ∧ w.places.length ≤ 4 ∧ 1 ≤ w.rows.length ∧ w.rows.length ≤ 60) ∧ (∀ p ∈ w.places, 2 ≤ p ∧ p ≤ 16) ∧ (∀ r ∈ w.rows, w.rowOk r) ∧ (∀ p : Nat, p < w.places.length → w.partOk p)
theorem row_mem {w : Web} {k : Nat} (h : k < w.rows.length) : w.row k ∈ w.rows := by
  unfold Web.row
  rw [List.getD_eq_getElem?_getD, List.getElem?_eq_getElem h]
  exact List.getElem_mem h
theorem place_mem {w : Web} {p : Nat} (h : p < w.places.length) : w.place p ∈ w.places := by
  unfold Web.place
  rw [Int.toNat_natCast, List.getD_eq_getElem?_getD, List.getElem?_eq_getElem h]
  exact List.getElem_mem h
theorem reach_in {w : Web} {p : Nat} {tn : Bool} {s : Int} (hr : ∀ r ∈ w.rows, w.rowOk r) (hs : 0 ≤ s ∧ s < w.place p) {x : Int} (h : Reach (w.edges p tn) s x) : 0 ≤ x ∧ x < w.place p := by
  cases h with
  | refl => exact hs
  | step _ he =>
    obtain ⟨k, hk, ek⟩ := List.mem_map.mp he
    obtain ⟨h1, h2⟩ := mem_rowsOf.mp hk
    have h3 := hr _ (row_mem h1)
    unfold Web.rowOk at h3
    rw [h2] at h3
    unfold Web.edge at ek
    split at ek
    · have : x = (w.row k).s := (Prod.mk.inj ek).2.symm
      omega
    · have : x = (w.row k).e := (Prod.mk.inj ek).2.symm
      omega
theorem full_iff {ks : List Int} {n : Int} (h0 : 0 ≤ n) (nd : ks.Nodup) (h : ∀ x ∈ ks, 0 ≤ x ∧ x < n) : (ks.length : Int) = n ↔ ∀ q : Int, 0 ≤ q → q < n → q ∈ ks := by
  obtain ⟨m, rfl⟩ := Int.eq_ofNat_of_zero_le h0
  have rg : ((List.range m).map fun k => ((k : Nat) : Int)).Nodup := by
    rw [List.nodup_iff_pairwise_ne, List.pairwise_map]
    exact List.Pairwise.imp (fun h z => h (by exact Int.ofNat.inj z)) List.nodup_range
  constructor
  · intro hl q h1 h2
    refine Classical.byContradiction fun hq => ?_
    have h3 : (q :: ks).Nodup := List.nodup_cons.mpr ⟨hq, nd⟩
    have h4 := h3.length_le_of_subset (l₂ := (List.range m).map fun k => ((k : Nat) : Int)) (by
      intro x hx
      rw [List.mem_map]
      rcases List.mem_cons.mp hx with rfl | hx
      · exact ⟨x.toNat, by rw [List.mem_range]; omega, by omega⟩
      · have := h x hx
        exact ⟨x.toNat, by rw [List.mem_range]; omega, by omega⟩)
    rw [List.length_cons, List.length_map, List.length_range] at h4
    omega
  · intro hq
    have h4 := rg.length_le_of_subset (l₂ := ks) (by
      intro x hx
      obtain ⟨k, hk, rfl⟩ := List.mem_map.mp hx
      rw [List.mem_range] at hk
      exact hq _ (by omega) (by omega))
    have h5 := nd.length_le_of_subset (l₂ := (List.range m).map fun k => ((k : Nat) : Int)) (by
      intro x hx
      have := h x hx
      rw [List.mem_map]
      exact ⟨x.toNat, by rw [List.mem_range]; omega, by omega⟩)
    rw [List.length_map, List.length_range] at h4 h5
    omega
/-- a loop that looks at each thing and leaves at the first that is not so -/
theorem forA {D : De} {g1 : G} {gt : DGt} {tb : DSt} {ws : List W} {St : G → Prop} {ι : Type} (items : List ι) (enc : ι → W) (ok : ι → Prop) (R : G → Prop) (hws : ws = items.map enc) (h0 : R g1) (hSt : ∀ g, R g → St g)
    (hstep : ∀ x ∈ items, ∀ g', R g' → ∀ N : G → Prop, (ok x → ∀ g'', R g'' → N g'') → gt (enc x) g' fun g2 => tb { D with nx := N, ct := N, bk := D.nx } g2)
    (hQ : (∀ x ∈ items, ok x) → ∀ g', R g' → D.nx g') : forI ws St g1 gt tb D := by
  subst hws
  refine ⟨fun i g' => (∀ x ∈ items.take i, ok x) ∧ R g', ⟨by simp, h0⟩, fun i g' h => hSt _ h.2, fun i w g' hw h => ?_, fun g' h => ?_⟩
  · rw [List.getElem?_map] at hw
    cases e : items[i]? with
    | none => rw [e] at hw; cases hw
    | some x =>
      rw [e] at hw
      cases hw
      refine hstep x (List.mem_of_getElem? e) g' h.2 _ fun hx g'' h'' => ⟨fun y hy => ?_, h''⟩
      rw [List.take_add_one, e, List.mem_append] at hy
      rcases hy with hy | hy
      · exact h.1 y hy
      · simp at hy; subst hy; exact hx
  · rw [List.length_map, List.take_length] at h
    exact hQ h.1 g' h.2
def C_is_web : PC := fun ts Q => ∃ (w : Web), ts = [w.t] ∧ w.rows.length ≤ 1000 ∧ w.places.length ≤ 1000 ∧ (w.Ok → Q (.t (.bl true))) ∧ (¬ w.Ok → Q (.t (.bl false)))
theorem ln_is_web : ∀ ts Q, C_is_web ts Q → ts.length = ["web"].length := by rintro ts Q ⟨_, rfl, _⟩; rfl
theorem inT_ints {x : Int} (xs : List Int) : inT (.int x) (xs.map T.int) = decide (x ∈ xs) := by
  unfold inT
  induction xs with
  | nil => simp
  | cons y ys ih =>
    rw [List.map_cons, List.any_cons, ih]
    simp only [T.flat, eqV]
    by_cases h : y = x
    · subst h; simp
    · have h2 : ¬ x = y := fun z => h z.symm
      simp [h, h2, List.mem_cons]
theorem flat_ints (xs : List Int) : ∀ t ∈ xs.map T.int, t.flat.isSome = true := by
  intro t ht
  obtain ⟨x, _, rfl⟩ := List.mem_map.mp ht
  rfl
def rd_is_web : DSt :=
  dSeq (dAsg (dVar 0) (dgTup 2 (dgCons (dgN 1) (dgCons (dgN 2) (dgNil)))))
  (dSeq (dIfS (dOr (dB (d2 (fI0 fun i j => .bl (decide (i < j))) (dN fLen (dCons (dVar 1) (dNil))) (dC (.int 1)))) (dOr (dB (d2 (fI0 fun i j => .bl (decide (j < i))) (dN fLen (dCons (dVar 1) (dNil))) (dC (.int 4)))) (dOr (dB (d2 (fI0 fun i j => .bl (decide (i < j))) (dN fLen (dCons (dVar 2) (dNil))) (dC (.int 1)))) (dB (d2 (fI0 fun i j => .bl (decide (j < i))) (dN fLen (dCons (dVar 2) (dNil))) (dC (.int 60))))))) (dRet (dC (.bl false))) (dNext))
  (dSeq (dIfS (dOr (dB (d2 (fI0 fun i j => .bl (decide (i < j))) (dN fMin (dCons (dVar 1) (dNil))) (dC (.int 2)))) (dB (d2 (fI0 fun i j => .bl (decide (j < i))) (dN fMax (dCons (dVar 1) (dNil))) (dC (.int 16))))) (dRet (dC (.bl false))) (dNext))
  (dSeq (dFor (diL (dVar 2)) (dgN 3) (dIfS (dNot (dB (dCallT C_fits_row (dCons (dVar 0) (dCons (dVar 3) (dNil)))))) (dRet (dC (.bl false))) (dNext)))
  (dSeq (dFor (diR1 (dCons (dN fLen (dCons (dVar 1) (dNil))) (dNil))) (dgN 4) (dSeq (dIfS (dOr (dB (d2 (fEq true) (dN fLen (dCons (dCallT C_reached (dCons (dVar 0) (dCons (dVar 4) (dCons (dC (.int 0)) (dCons (dC (.bl false)) (dNil)))))) (dNil))) (d2 fIx (dVar 1) (dVar 4)))) (dB (d2 (fEq true) (dN fLen (dCons (dCallT C_reached (dCons (dVar 0) (dCons (dVar 4) (dCons (dC (.int 1)) (dCons (dC (.bl true)) (dNil)))))) (dNil))) (d2 fIx (dVar 1) (dVar 4))))) (dRet (dC (.bl false))) (dNext))
  (dIfS (dAnd (dB (d2 (fI0 fun i j => .bl (decide (j < i))) (dVar 4) (dC (.int 0)))) (dB (d2 (fIn true) (dVar 4) (dLc finT (diL (dVar 2)) (dgN 3) (dYes) (d2 fIx (dVar 3) (dC (.int 3))) [3])))) (dRet (dC (.bl false))) (dNext))))
  (dRet (dC (.bl true)))))))

theorem rp_is_web : ∀ ts Q, C_is_web ts Q → rd_is_web ⟨FinP Q (.t .non), FinP Q, fun _ => False, fun _ => False⟩ ⟨ts.map (fun t => some (W.t t)) ++ List.replicate (5 - ts.length) none, []⟩ := by
  rintro ts Q ⟨w, rfl, hl, hl2, hT, hF⟩
  unfold rd_is_web Web.t
  walk_at "dl"
  rw [List.length_map]
  refine k_d (fun h1 => ?_) (fun h1 => ?_)
  · walk_at "dl"
    exact hF fun z => by have := z.1; omega
  walk_at "dl"
  rw [List.length_map]
  refine k_d (fun h2 => ?_) (fun h2 => ?_)
  · walk_at "dl"
    exact hF fun z => by have := z.1; omega
  walk_at "dl"
  rw [List.length_map]
  refine k_d (fun h3 => ?_) (fun h3 => ?_)
  · walk_at "dl"
    exact hF fun z => by have := z.1; omega
  walk_at "dl"
  rw [List.length_map]
  refine k_d (fun h4 => ?_) (fun h4 => ?_)
  · walk_at "dl"
    exact hF fun z => by have := z.1; omega
  walk_at "dl"
  refine i_min (ns := w.places) rfl (by omega) fun mn m1 m2 => ?_
  walk_at "dl"
  refine k_d (fun h5 => ?_) (fun h5 => ?_)
  · walk_at "dl"
    exact hF fun z => by have := z.2.1 mn m1; omega
  walk_at "dl"
  refine i_max (ns := w.places) rfl (by omega) fun mx m3 m4 => ?_
  walk_at "dl"
  refine k_d (fun h6 => ?_) (fun h6 => ?_)
  · walk_at "dl"
    exact hF fun z => by have := z.2.1 mx m3; omega
  walk_at "dl"
  refine forA w.rows (fun r => W.t r.t) w.rowOk (fun g' => ∃ o3 o4, g' = ⟨[some (.t w.t), some (.t (.lst (w.places.map T.int))), some (.t (.lst (w.rows.map Row.t))), o3, o4], []⟩) (by rw [List.map_map]; rfl) ⟨none, none, rfl⟩ (by rintro g ⟨_, _, rfl⟩; rfl) ?_ ?_
  · rintro r hr g' ⟨o3, o4, rfl⟩ N hN
    walk_at "dl"
    refine ⟨w, r, rfl, fun hok => ?_, fun hno => ?_⟩
    · walk_at "dl"
      exact hN hok _ ⟨_, _, rfl⟩
    · walk_at "dl"
      exact hF fun z => hno (z.2.2.1 r hr)
  rintro hrows g' ⟨o3, o4, rfl⟩
  walk_at "dl"
  rw [List.length_map]
  refine ⟨by omega, ?_⟩
  have hpl : ∀ p ∈ w.places, 2 ≤ p ∧ p ≤ 16 := fun p hp => ⟨by have := m2 p hp; omega, by have := m4 p hp; omega⟩
  refine forA (List.range w.places.length) (fun k => W.t (natT k)) w.partOk (fun g' => ∃ o3 o4, g' = ⟨[some (.t w.t), some (.t (.lst (w.places.map T.int))), some (.t (.lst (w.rows.map Row.t))), o3, o4], []⟩) (by rw [Int.toNat_natCast, rgW0]; rfl) ⟨_, _, rfl⟩ (by rintro g ⟨_, _, rfl⟩; trivial) ?_ ?_
  · rintro p hp g' ⟨o3, o4, rfl⟩ N hN
    have hp' : p < w.places.length := by simpa using hp
    have hpp := hpl _ (place_mem hp')
    have hat := place_at (w := w) (i := (p : Int)) (by omega) (by omega)
    unfold natT
    walk_at "dl"
    refine ⟨w, p, 0, false, rfl, hl, fun ks nd hks => ?_⟩
    unfold bset
    walk_at "dl"
    rw [List.length_map]
    have f1 := full_iff (n := w.place p) (by omega) nd (fun x hx => reach_in hrows (by omega) ((hks x).mp hx))
    refine k_n (fun h7 => ?_) (fun h7 => ?_)
    · walk_at "dl"
      exact hF fun z => h7 (f1.mpr fun q h8 h9 => (hks q).mpr ((z.2.2.2 p hp').1 q h8 h9).1)
    walk_at "dl"
    refine ⟨w, p, 1, true, rfl, hl, fun ks2 nd2 hks2 => ?_⟩
    unfold bset
    walk_at "dl"
    rw [List.length_map]
    have f2 := full_iff (n := w.place p) (by omega) nd2 (fun x hx => reach_in hrows (by omega) ((hks2 x).mp hx))
    refine k_n (fun h8 => ?_) (fun h8 => ?_)
    · walk_at "dl"
      exact hF fun z => h8 (f2.mpr fun q h9 h10 => (hks2 q).mpr ((z.2.2.2 p hp').1 q h9 h10).2)
    have hreach : ∀ q : Int, 0 ≤ q → q < w.place p → Reach (w.edges p false) 0 q ∧ Reach (w.edges p true) 1 q := fun q h9 h10 => ⟨(hks q).mp (f1.mp h7 q h9 h10), (hks2 q).mp (f2.mp h8 q h9 h10)⟩
    walk_at "dl"
    refine k_d (fun h9 => ?_) (fun h9 => ?_)
    · walk_at "dl"
      refine lcP w.rows (fun r => W.t r.t) (fun _ => true) (fun r => .int r.c) (by rw [List.map_map]; rfl) (lineLe (by omega)) rfl ?_ rfl ?_
      · intro r hr Y N2 hY hN2
        have h10 : atI [T.int r.p, T.int r.s, T.int r.e, T.int r.c] 3 = some (.int r.c) := rfl
        unfold Row.t
        walk_at "dl"
        exact hY rfl _ rfl
      · walk_at "dl"
        rw [List.filter_eq_self.mpr (fun _ _ => rfl), show (w.rows.map fun r => T.int r.c) = (w.rows.map Row.c).map T.int by rw [List.map_map]; rfl]
        walk_at "dl"
        refine i_notIn rfl rfl (flat_ints _) ?_
        rw [inT_ints]
        walk_at "dl"
        refine k_n (fun h10 => ?_) (fun h10 => ?_)
        · walk_at "dl"
          refine hF fun z => h10 ?_
          obtain ⟨r, hr, er⟩ := (z.2.2.2 p hp').2 (by omega)
          exact List.mem_map.mpr ⟨r, hr, er⟩
        · walk_at "dl"
          refine hN ⟨hreach, fun _ => ?_⟩ _ ⟨_, _, rfl⟩
          obtain ⟨r, hr, er⟩ := List.mem_map.mp h10
          exact ⟨r, hr, er⟩
    · walk_at "dl"
      exact hN ⟨hreach, fun z => by omega⟩ _ ⟨_, _, rfl⟩
  · rintro hparts g' ⟨o3, o4, rfl⟩
    walk_at "dl"
    exact hT ⟨by omega, hpl, hrows, fun p hp => hparts p (by simpa using hp)⟩
def C_must_be_web : PC := fun ts Q => ∃ (w : Web), ts = [w.t] ∧ w.Ok ∧ Q (.t .non)
theorem ln_must_be_web : ∀ ts Q, C_must_be_web ts Q → ts.length = ["web"].length := by rintro ts Q ⟨_, rfl, _⟩; rfl
def rd_must_be_web : DSt :=
  dIfS (dNot (dB (dCallT C_is_web (dCons (dVar 0) (dNil))))) (dNever) (dNext)

theorem rp_must_be_web : ∀ ts Q, C_must_be_web ts Q → rd_must_be_web ⟨FinP Q (.t .non), FinP Q, fun _ => False, fun _ => False⟩ ⟨ts.map (fun t => some (W.t t)) ++ List.replicate (1 - ts.length) none, []⟩ := by
  rintro ts Q ⟨w, rfl, hok, hQ⟩
  have h := hok.1
  unfold rd_must_be_web
  walk_at "dl"
  refine ⟨w, rfl, by omega, by omega, fun _ => ?_, fun z => absurd hok z⟩
  walk_at "dl"
  exact hQ

end DL

namespace DL
open PySem PySem.Spec L2
local macro_rules | `(tactic| walk_at "dn") => `(tactic| simp only [purse_set2, purse_set3, purse_set4, purse_set5, purse_app, purse_len, purse_start, purse_l, G.set, G.put, G.push, G.wipe, wipeW, G.rs, rsW, List.set_cons_zero, List.set_cons_succ, List.map_cons, List.map_nil, List.length_cons, List.length_nil, List.nil_append, List.cons_append, List.replicate_succ, List.replicate_zero, Nat.reduceAdd, Nat.reduceSub, List.getD_cons_zero, List.getD_cons_succ, Option.getD_some, Option.getD_none])
local macro_rules | `(tactic| walk_at "d1") => `(tactic| first
  | with_reducible refine i_seq ?_
  | with_reducible refine i_asg ?_
  | with_reducible refine i_d2 ?_
  | ((with_reducible refine' i_var ?e ?_); (case e => rfl))
  | with_reducible refine i_c ?_
  | ((with_reducible refine' i_ix ?e ?v ?_); (case e => rfl); (case v => first | assumption | rfl))
  | with_reducible refine i_fI0 ?_
  | with_reducible refine i_gN ?_
  | with_reducible refine i_cons ?_
  | with_reducible refine i_nil ?_
  | with_reducible refine i_dN ?_
  | ((with_reducible refine' i_len ?e ?_); (case e => rfl))
  | with_reducible refine i_d1 ?_
  | with_reducible refine i_neg ?_
  | with_reducible refine i_B ?_
  | with_reducible refine o_B ?_
  | with_reducible refine o_I ?_
  | with_reducible refine i_ifS ?_
  | with_reducible refine i_or ?_
  | with_reducible refine i_and ?_
  | with_reducible refine i_not ?_
  | with_reducible refine i_andV ?_
  | with_reducible refine i_orV ?_
  | with_reducible refine i_notV ?_
  | with_reducible refine i_if ?_
  | with_reducible refine i_yes ?_
  | with_reducible refine k_T ?_
  | with_reducible refine k_F ?_
  | with_reducible refine k_True ?_
  | with_reducible refine k_False ?_
  | with_reducible refine i_eqI ?_
  | with_reducible refine i_neI ?_
  | with_reducible refine i_addI ?_
  | with_reducible refine i_addHI ?_
  | with_reducible refine i_callT ?_
  | with_reducible refine i_callH ?_
  | ((with_reducible refine' o_Ts ?e ?_); (case e => rfl))
  | with_reducible refine o_T ?_
  | ((with_reducible refine' o_TF ?e ?_); (case e => rfl))
  | with_reducible refine o_H ?_
  | ((with_reducible refine' o_HF ?e ?_); (case e => rfl))
  | with_reducible refine i_next ?_
  | with_reducible refine i_drop ?_
  | with_reducible refine i_ret ?_
  | with_reducible refine i_retN ?_
  | ((with_reducible refine' i_gTup ?e ?_); (case e => rfl))
  | with_reducible refine i_gCons ?_
  | with_reducible refine i_gNil ?_
  | with_reducible refine i_min2 ?_
  | with_reducible refine i_max2 ?_
  | with_reducible refine i_par ?_
  | with_reducible refine o_W2 ?_
  | ((with_reducible refine' i_aug ?e ?_); (case e => rfl))
  | with_reducible refine i_intI ?_
  | with_reducible refine i_intB ?_
  | with_reducible refine i_lc ?_
  | with_reducible refine i_for ?_
  | with_reducible refine i_while ?_
  | with_reducible refine i_itL ?_
  | ((with_reducible refine' o_Lq ?e ?_); (case e => rfl))
  | with_reducible refine i_itR1 ?_
  | with_reducible refine i_itR2 ?_
  | with_reducible refine o_I1 ?_
  | with_reducible refine o_I2 ?_
  | with_reducible refine e_t ?_
  | ((with_reducible refine' e_h ?e ?p ?_); (case e => rfl); (case p => rfl))
  | with_reducible refine i_M ?_
  | with_reducible refine i_M0 ?_
  | with_reducible refine i_gSub ?_
  | with_reducible refine i_finH ?_
  | with_reducible refine i_finT ?_
  | with_reducible refine i_sl ?_
  | with_reducible refine i_slH ?_
  | with_reducible refine i_slT ?_
  | with_reducible refine i_noPart ?_
  | with_reducible refine i_part ?_
  | ((with_reducible refine' i_frzT ?e ?_); (case e => rfl))
  | ((with_reducible refine' i_frzH ?e ?m ?t ?_); (case e => rfl); (case m => rfl); (case t => rfl))
  | ((with_reducible refine' i_din ?k ?e ?_); (case k => rfl); (case e => rfl))
  | ((with_reducible refine' i_dnotin ?k ?e ?_); (case k => rfl); (case e => rfl))
  | with_reducible refine i_dput ?_
  | with_reducible refine i_newD ?_
  | with_reducible refine i_lstH ?_
  | with_reducible refine i_lst ?_
  | with_reducible refine i_tup ?_
  | with_reducible refine i_break ?_
  | with_reducible refine i_cont ?_
  | with_reducible refine i_callS ?_
  | ((with_reducible refine' i_ixHW ?e ?v ?_); (case e => first | rfl | assumption); (case v => first | assumption | rfl))
  | ((with_reducible refine' i_ixHT ?e ?v ?_); (case e => first | rfl | assumption); (case v => first | assumption | rfl))
  | ((with_reducible refine' i_lenHT ?e ?_); (case e => first | rfl | assumption))
  | ((with_reducible refine' i_lenHW ?e ?_); (case e => first | rfl | assumption))
  | ((with_reducible refine' i_frzH ?e ?m ?t ?_); (case e => rfl); (case m => rfl); (case t => rfl))
  | ((with_reducible refine' i_unw ?e ?n ?_); (case e => rfl); (case n => rfl))
  | with_reducible refine i_gwCons ?_
  | with_reducible refine i_gwNil ?_
  | with_reducible refine i_lstW ?_
  | ((with_reducible refine' i_gList ?e ?n ?_); (case e => rfl); (case n => rfl))
  | with_reducible refine i_listRgH ?_
  | with_reducible refine i_listRg ?_
  | with_reducible refine i_R1 ?_
  | with_reducible refine i_getD ?_
  | ((with_reducible refine' i_none ?k ?_); (case k => rfl))
  | walk_at "dn")
local macro_rules | `(tactic| walk_at "dl") => `(tactic| ((try walk_at "dn"); repeat walk_at "d1"))
/-! an order drawn -/
def C__law_order : SC := fun ws m QC => ∃ (n turn : Nat) (cells : List Int), ws = [.h 0, .t (.int n)] ∧ m = purse turn cells ∧ 0 < cells.length ∧ cells.length ≤ 1000 ∧ n ≤ 1000 ∧ turn + n ≤ 100000 ∧
  ∀ (xs : List Nat) (turn' : Nat) (cells' : List Int), xs.Perm (List.range n) → turn' ≤ turn + n → cells'.length = cells.length → QC (.h 2) (purse turn' cells') [.lt (xs.map natT)]
theorem ln__law_order : ∀ ws m Q, C__law_order ws m Q → ws.length = ["_law_purse_here", "_law_many_here"].length := by rintro ws m Q ⟨_, _, _, rfl, _⟩; rfl
def rd__law_order : DSt :=
  dSeq (dAsg (dLstH (dNil)) (dgN 2))
  (dSeq (dFor (diR1 (dCons (dVar 1) (dNil))) (dgN 3) (dDrop (dM fInsert (dVar 2) (dCons (dCallS C__law_draw (dCons (dVar 0) (dCons (d2 fAdd (dVar 3) (dC (.int 1))) (dNil)))) (dCons (dVar 3) (dNil))))))
  (dRet (dVar 2)))

theorem perm_ins {xs : List Nat} {n j : Nat} (h : xs.Perm (List.range n)) : (xs.take j ++ [n] ++ xs.drop j).Perm (List.range (n + 1)) := by
  rw [List.range_succ]
  have h1 : (xs.take j ++ [n] ++ xs.drop j).Perm (xs.take j ++ xs.drop j ++ [n]) := by
    rw [List.append_assoc, List.append_assoc]
    exact List.Perm.append_left _ List.perm_append_comm
  rw [List.take_append_drop] at h1
  exact h1.trans (List.Perm.append_right _ h)
theorem rp__law_order : ∀ ws m QC, C__law_order ws m QC → rd__law_order ⟨FinS m.length QC (.t .non), FinS m.length QC, fun _ => False, fun _ => False⟩ ⟨ws.map some ++ List.replicate (4 - ws.length) none, m.map some⟩ := by
  rintro ws m QC ⟨n, turn, cells, rfl, rfl, h0, h1, h2, h3, hQ⟩
  unfold rd__law_order
  walk_at "dl"
  refine ⟨by decide, ?_⟩
  walk_at "dl"
  refine ⟨by omega, ?_⟩
  refine forR (List.range n) (fun k => W.t (natT k)) (fun i g' => ∃ (xs : List Nat) (turn' : Nat) (cells' : List Int) (o3 : Option W), g' = ⟨[some (.h 0), some (.t (.int n)), some (.h 2), o3], purseM turn' cells' ++ [some (.lt (xs.map natT))]⟩ ∧ xs.Perm (List.range i) ∧ turn' ≤ turn + i ∧ cells'.length = cells.length)
    (by rw [Int.toNat_natCast, rgW0]; rfl) ⟨[], turn, cells, none, rfl, .nil, by omega, rfl⟩ (fun _ _ _ => trivial) ?_ ?_
  · rintro i k hk g' ⟨xs, turn', cells', o3, rfl, hp, ht, hc⟩ N hN
    have hi : i < n := by simpa using (List.getElem?_eq_some_iff.mp hk).1
    rw [List.getElem?_range hi] at hk
    cases hk
    have hx : xs.length = i := by rw [hp.length_eq, List.length_range]
    unfold natT
    walk_at "dl"
    refine ⟨isL_lt rfl, ?_⟩
    walk_at "dl"
    refine callS_draw (by omega) (by omega) (by omega) (by omega) (by omega) fun r cells2 r0 r1 hc2 => ?_
    walk_at "dl"
    refine' i_insert (us := xs.map natT) ?e ?l ?_
    (case e => rfl)
    (case l => exact ⟨lineLt (by rw [List.length_map]; omega), r0, by omega⟩)
    walk_at "dl"
    obtain ⟨j, rfl⟩ := Int.eq_ofNat_of_zero_le r0
    have e : (xs.map natT).take (j : Int).toNat ++ [T.int (i : Nat)] ++ (xs.map natT).drop (j : Int).toNat = (xs.take j ++ [i] ++ xs.drop j).map natT := by
      rw [Int.toNat_natCast, List.map_append, List.map_append, List.map_take, List.map_drop]; rfl
    rw [e]
    exact hN _ ⟨xs.take j ++ [i] ++ xs.drop j, turn' + 1, cells2, _, rfl, perm_ins hp, by omega, by omega⟩
  · rintro g' ⟨xs, turn', cells', o3, rfl, hp, ht, hc⟩
    rw [List.length_range] at hp ht
    walk_at "dl"
    exact fin_purseF (n := 0) rfl rfl (hQ xs turn' cells' hp ht hc)

end DL

namespace DL
open PySem PySem.Spec L2
local macro_rules | `(tactic| walk_at "dn") => `(tactic| simp only [purse_set2, purse_set3, purse_set4, purse_set5, purse_app, purse_len, purse_start, purse_l, G.set, G.put, G.push, G.wipe, wipeW, G.rs, rsW, List.set_cons_zero, List.set_cons_succ, List.map_cons, List.map_nil, List.length_cons, List.length_nil, List.nil_append, List.cons_append, List.replicate_succ, List.replicate_zero, Nat.reduceAdd, Nat.reduceSub, List.getD_cons_zero, List.getD_cons_succ, Option.getD_some, Option.getD_none])
local macro_rules | `(tactic| walk_at "d1") => `(tactic| first
  | with_reducible refine i_seq ?_
  | with_reducible refine i_asg ?_
  | with_reducible refine i_d2 ?_
  | ((with_reducible refine' i_var ?e ?_); (case e => rfl))
  | with_reducible refine i_c ?_
  | ((with_reducible refine' i_ix ?e ?v ?_); (case e => rfl); (case v => first | assumption | rfl))
  | with_reducible refine i_fI0 ?_
  | with_reducible refine i_gN ?_
  | with_reducible refine i_cons ?_
  | with_reducible refine i_nil ?_
  | with_reducible refine i_dN ?_
  | ((with_reducible refine' i_len ?e ?_); (case e => rfl))
  | with_reducible refine i_d1 ?_
  | with_reducible refine i_neg ?_
  | with_reducible refine i_B ?_
  | with_reducible refine o_B ?_
  | with_reducible refine o_I ?_
  | with_reducible refine i_ifS ?_
  | with_reducible refine i_or ?_
  | with_reducible refine i_and ?_
  | with_reducible refine i_not ?_
  | with_reducible refine i_andV ?_
  | with_reducible refine i_orV ?_
  | with_reducible refine i_notV ?_
  | with_reducible refine i_if ?_
  | with_reducible refine i_yes ?_
  | with_reducible refine k_T ?_
  | with_reducible refine k_F ?_
  | with_reducible refine k_True ?_
  | with_reducible refine k_False ?_
  | with_reducible refine i_eqI ?_
  | with_reducible refine i_neI ?_
  | with_reducible refine i_addI ?_
  | with_reducible refine i_addHI ?_
  | with_reducible refine i_callT ?_
  | with_reducible refine i_callH ?_
  | ((with_reducible refine' o_Ts ?e ?_); (case e => rfl))
  | with_reducible refine o_T ?_
  | ((with_reducible refine' o_TF ?e ?_); (case e => rfl))
  | with_reducible refine o_H ?_
  | ((with_reducible refine' o_HF ?e ?_); (case e => rfl))
  | with_reducible refine i_next ?_
  | with_reducible refine i_drop ?_
  | with_reducible refine i_ret ?_
  | with_reducible refine i_retN ?_
  | ((with_reducible refine' i_gTup ?e ?_); (case e => rfl))
  | with_reducible refine i_gCons ?_
  | with_reducible refine i_gNil ?_
  | with_reducible refine i_min2 ?_
  | with_reducible refine i_max2 ?_
  | with_reducible refine i_par ?_
  | with_reducible refine o_W2 ?_
  | ((with_reducible refine' i_aug ?e ?_); (case e => rfl))
  | with_reducible refine i_intI ?_
  | with_reducible refine i_intB ?_
  | with_reducible refine i_lc ?_
  | with_reducible refine i_for ?_
  | with_reducible refine i_while ?_
  | with_reducible refine i_itL ?_
  | ((with_reducible refine' o_Lq ?e ?_); (case e => rfl))
  | with_reducible refine i_itR1 ?_
  | with_reducible refine i_itR2 ?_
  | with_reducible refine o_I1 ?_
  | with_reducible refine o_I2 ?_
  | with_reducible refine e_t ?_
  | ((with_reducible refine' e_h ?e ?p ?_); (case e => rfl); (case p => rfl))
  | with_reducible refine i_M ?_
  | with_reducible refine i_M0 ?_
  | with_reducible refine i_gSub ?_
  | with_reducible refine i_finH ?_
  | with_reducible refine i_finT ?_
  | with_reducible refine i_sl ?_
  | with_reducible refine i_slH ?_
  | with_reducible refine i_slT ?_
  | with_reducible refine i_noPart ?_
  | with_reducible refine i_part ?_
  | ((with_reducible refine' i_frzT ?e ?_); (case e => rfl))
  | ((with_reducible refine' i_frzH ?e ?m ?t ?_); (case e => rfl); (case m => rfl); (case t => rfl))
  | ((with_reducible refine' i_din ?k ?e ?_); (case k => rfl); (case e => rfl))
  | ((with_reducible refine' i_dnotin ?k ?e ?_); (case k => rfl); (case e => rfl))
  | with_reducible refine i_dput ?_
  | with_reducible refine i_newD ?_
  | with_reducible refine i_lstH ?_
  | with_reducible refine i_lst ?_
  | with_reducible refine i_tup ?_
  | with_reducible refine i_break ?_
  | with_reducible refine i_cont ?_
  | with_reducible refine i_callS ?_
  | ((with_reducible refine' i_ixHW ?e ?v ?_); (case e => first | rfl | assumption); (case v => first | assumption | rfl))
  | ((with_reducible refine' i_ixHT ?e ?v ?_); (case e => first | rfl | assumption); (case v => first | assumption | rfl))
  | ((with_reducible refine' i_lenHT ?e ?_); (case e => first | rfl | assumption))
  | ((with_reducible refine' i_lenHW ?e ?_); (case e => first | rfl | assumption))
  | ((with_reducible refine' i_frzH ?e ?m ?t ?_); (case e => rfl); (case m => rfl); (case t => rfl))
  | ((with_reducible refine' i_unw ?e ?n ?_); (case e => rfl); (case n => rfl))
  | with_reducible refine i_gwCons ?_
  | with_reducible refine i_gwNil ?_
  | with_reducible refine i_lstW ?_
  | ((with_reducible refine' i_gList ?e ?n ?_); (case e => rfl); (case n => rfl))
  | with_reducible refine i_listRgH ?_
  | with_reducible refine i_listRg ?_
  | with_reducible refine i_R1 ?_
  | with_reducible refine i_getD ?_
  | ((with_reducible refine' i_none ?k ?_); (case k => rfl))
  | walk_at "dn")
local macro_rules | `(tactic| walk_at "dl") => `(tactic| ((try walk_at "dn"); repeat walk_at "d1"))
/-! parts that grow: plain -/
inductive Pth (E : List (Nat × Nat)) : Nat → Nat → Prop
  | refl (a : Nat) : Pth E a a
  | step {a b c : Nat} : Pth E a b → (b, c) ∈ E → Pth E a c
theorem Pth.trans {E : List (Nat × Nat)} {a b c : Nat} (h : Pth E a b) (k : Pth E b c) : Pth E a c := by
  induction k with
  | refl => exact h
  | step _ he ih => exact .step ih he
theorem Pth.one {E : List (Nat × Nat)} {a b : Nat} (h : (a, b) ∈ E) : Pth E a b := .step (.refl a) h
theorem Pth.via {E E' : List (Nat × Nat)} (he : ∀ a b, (a, b) ∈ E → Pth E' a b) {a b : Nat} (h : Pth E a b) : Pth E' a b := by
  induction h with
  | refl => exact .refl _
  | step _ hm ih => exact ih.trans (he _ _ hm)
theorem Pth.map {E : List (Nat × Nat)} (f : Nat → Nat) {a b : Nat} (h : Pth E a b) : Pth (E.map fun ab => (f ab.1, f ab.2)) (f a) (f b) := by
  induction h with
  | refl => exact .refl _
  | step _ hm ih => exact .step ih (List.mem_map.mpr ⟨_, hm, rfl⟩)
structure Grown (loose : Bool) (order : List Nat) (rows : List (Nat × Nat)) : Prop where
  perm : order.Perm (List.range order.length)
  lo : 2 ≤ order.length
  hi : order.length ≤ 16
  first : order[0]? = some 0
  last : order[order.length - 1]? = some 1
  inr : ∀ ab ∈ rows, ab.1 < order.length ∧ ab.2 < order.length ∧ ab.1 ≠ 1
  fw : ∀ q, q < order.length → Pth rows 0 q
  bw : ∀ q, q < order.length → Pth rows q 1
  asc : loose = true → ∀ ab ∈ rows, ∀ i j : Nat, order[i]? = some ab.1 → order[j]? = some ab.2 → i < j
theorem grown0 (loose : Bool) : Grown loose [0, 1] [(0, 1)] where
  perm := by decide
  lo := by decide
  hi := by decide
  first := rfl
  last := rfl
  inr := by simp
  fw := fun q hq => by
    have : q = 0 ∨ q = 1 := by simp at hq; omega
    rcases this with rfl | rfl
    · exact .refl 0
    · exact .one (by simp)
  bw := fun q hq => by
    have : q = 0 ∨ q = 1 := by simp at hq; omega
    rcases this with rfl | rfl
    · exact .one (by simp)
    · exact .refl 1
  asc := fun _ ab hab i j hi hj => by
    simp at hab
    subst hab
    match i, j with
    | 0, 0 => simp at hj
    | 0, j + 1 => omega
    | i + 1, j => 
      match i with
      | 0 => simp at hi
      | i + 1 => simp at hi
theorem Grown.nd {loose : Bool} {order : List Nat} {rows : List (Nat × Nat)} (G : Grown loose order rows) : order.Nodup := (G.perm.nodup_iff).mpr List.nodup_range
theorem at_ins {order : List Nat} {p s i x : Nat} (hp : p ≤ order.length) (h : (order.take p ++ [s] ++ order.drop p)[i]? = some x) : (i < p ∧ order[i]? = some x) ∨ (i = p ∧ x = s) ∨ (p < i ∧ order[i - 1]? = some x) := by
  have hl : (order.take p).length = p := by rw [List.length_take]; omega
  rw [List.append_assoc] at h
  rcases Nat.lt_trichotomy i p with hi | hi | hi
  · rw [List.getElem?_append_left (by omega), List.getElem?_take_of_lt hi] at h
    exact .inl ⟨hi, h⟩
  · subst hi
    rw [List.getElem?_append_right (by omega), hl, Nat.sub_self] at h
    simp at h
    exact .inr (.inl ⟨rfl, h.symm⟩)
  · rw [List.getElem?_append_right (by omega), hl] at h
    obtain ⟨d, hd⟩ : ∃ d, i - p = d + 1 := ⟨i - p - 1, by omega⟩
    rw [hd] at h
    simp at h
    refine .inr (.inr ⟨hi, ?_⟩)
    rw [← h]
    congr 1
    omega
/-- a place put into a row -/
theorem Grown.split {loose : Bool} {order : List Nat} {rows : List (Nat × Nat)} (G : Grown loose order rows) {at0 a b p : Nat} (hat : rows[at0]? = some (a, b)) (hs : order.length < 16) (h1 : 1 ≤ p) (h2 : p ≤ order.length - 1)
    (hl : loose = true → ∀ i j : Nat, order[i]? = some a → order[j]? = some b → i < p ∧ p ≤ j) : Grown loose (order.take p ++ [order.length] ++ order.drop p) (rows.set at0 (a, order.length) ++ [(order.length, b)]) := by
  have len : (order.take p ++ [order.length] ++ order.drop p).length = order.length + 1 := by
    rw [List.length_append, List.length_append, List.length_take, List.length_drop]
    simp only [List.length_cons, List.length_nil]
    omega
  have hlo := G.lo
  have hab := G.inr _ (List.mem_of_getElem? hat)
  have hat' : at0 < rows.length := (List.getElem?_eq_some_iff.mp hat).1
  have mA : (a, order.length) ∈ rows.set at0 (a, order.length) ++ [(order.length, b)] := by
    rw [List.mem_append]; exact .inl (List.mem_iff_getElem?.mpr ⟨at0, List.getElem?_set_self hat'⟩)
  have mB : (order.length, b) ∈ rows.set at0 (a, order.length) ++ [(order.length, b)] := by simp
  have via : ∀ x y, (x, y) ∈ rows → Pth (rows.set at0 (a, order.length) ++ [(order.length, b)]) x y := fun x y h => by
    obtain ⟨i, hi⟩ := List.getElem?_of_mem h
    by_cases e : i = at0
    · subst e
      rw [hat] at hi
      cases hi
      exact (Pth.one mA).trans (Pth.one mB)
    · refine Pth.one ?_
      rw [List.mem_append]
      exact .inl (List.mem_iff_getElem?.mpr ⟨i, by rw [List.getElem?_set_ne (fun z => e z.symm)]; exact hi⟩)
  have mem' : ∀ ab ∈ rows.set at0 (a, order.length) ++ [(order.length, b)], ab ∈ rows ∨ ab = (a, order.length) ∨ ab = (order.length, b) := fun ab h => by
    rcases List.mem_append.mp h with h | h
    · rcases List.mem_or_eq_of_mem_set h with h | h
      · exact .inl h
      · exact .inr (.inl h)
    · simp at h; exact .inr (.inr h)
  refine ⟨?_, by omega, by omega, ?_, ?_, ?_, ?_, ?_, ?_⟩
  · rw [len, List.range_succ]
    have h1 : (order.take p ++ [order.length] ++ order.drop p).Perm (order.take p ++ order.drop p ++ [order.length]) := by
      rw [List.append_assoc, List.append_assoc]
      exact List.Perm.append_left _ List.perm_append_comm
    rw [List.take_append_drop] at h1
    exact h1.trans (List.Perm.append_right _ G.perm)
  · rw [List.append_assoc, List.getElem?_append_left (by rw [List.length_take]; omega), List.getElem?_take_of_lt (by omega)]
    exact G.first
  · rw [len, Nat.add_sub_cancel, List.getElem?_append_right (by rw [List.length_append, List.length_take]; simp only [List.length_cons, List.length_nil]; omega), List.length_append, List.length_take, List.getElem?_drop]
    simp only [List.length_cons, List.length_nil]
    rw [← G.last]
    congr 1
    omega
  · intro ab h
    rw [len]
    rcases mem' ab h with h | rfl | rfl
    · have := G.inr ab h
      omega
    · exact ⟨by omega, by omega, hab.2.2⟩
    · exact ⟨by simp, by have := hab.2.1; simp at this ⊢; omega, by simp; omega⟩
  · intro q hq
    rw [len] at hq
    by_cases e : q = order.length
    · subst e
      exact .step (Pth.via via (G.fw a hab.1)) mA
    · exact Pth.via via (G.fw q (by omega))
  · intro q hq
    rw [len] at hq
    by_cases e : q = order.length
    · subst e
      exact (Pth.one mB).trans (Pth.via via (G.bw b hab.2.1))
    · exact Pth.via via (G.bw q (by omega))
  · intro hlo2 ab h i j hi hj
    have hx : ∀ (i x : Nat), order[i]? = some x → x < order.length := fun i x e => by
      have := (G.perm.mem_iff).mp (List.mem_of_getElem? e)
      simpa using this
    rcases mem' ab h with h | rfl | rfl
    · have hr := G.inr ab h
      rcases at_ins (by omega) hi with ⟨i1, i2⟩ | ⟨i1, i2⟩ | ⟨i1, i2⟩
      · rcases at_ins (by omega) hj with ⟨j1, j2⟩ | ⟨j1, j2⟩ | ⟨j1, j2⟩
        · exact G.asc hlo2 ab h i j i2 j2
        · omega
        · have := G.asc hlo2 ab h i (j - 1) i2 j2
          omega
      · omega
      · rcases at_ins (by omega) hj with ⟨j1, j2⟩ | ⟨j1, j2⟩ | ⟨j1, j2⟩
        · have := G.asc hlo2 ab h (i - 1) j i2 j2
          omega
        · omega
        · have := G.asc hlo2 ab h (i - 1) (j - 1) i2 j2
          omega
    · dsimp only at hi hj
      have hj2 : j = p := by
        rcases at_ins (by omega) hj with ⟨j1, j2⟩ | ⟨j1, j2⟩ | ⟨j1, j2⟩
        · have := hx j _ j2; omega
        · exact j1
        · have := hx _ _ j2; omega
      obtain ⟨jb, hjb⟩ := List.getElem?_of_mem ((G.perm.mem_iff).mpr (by simpa using hab.2.1 : b ∈ List.range order.length))
      rcases at_ins (by omega) hi with ⟨i1, i2⟩ | ⟨i1, i2⟩ | ⟨i1, i2⟩
      · omega
      · have := hab.1; simp at this; omega
      · have := hl hlo2 (i - 1) jb i2 hjb
        omega
    · dsimp only at hi hj
      have hi2 : i = p := by
        rcases at_ins (by omega) hi with ⟨j1, j2⟩ | ⟨j1, j2⟩ | ⟨j1, j2⟩
        · have := hx i _ j2; omega
        · exact j1
        · have := hx _ _ j2; omega
      obtain ⟨ia, hia⟩ := List.getElem?_of_mem ((G.perm.mem_iff).mpr (by simpa using hab.1 : a ∈ List.range order.length))
      rcases at_ins (by omega) hj with ⟨j1, j2⟩ | ⟨j1, j2⟩ | ⟨j1, j2⟩
      · have := hl hlo2 ia j hia j2
        omega
      · have := hab.2.1; simp at this; omega
      · omega
/-- a row put between places -/
theorem Grown.more {loose : Bool} {order : List Nat} {rows : List (Nat × Nat)} (G : Grown loose order rows) {a b i j : Nat} (ha : order[i]? = some a) (hb : order[j]? = some b) (hi : i < order.length - 1) (hl : loose = true → i < j) : Grown loose order (rows ++ [(a, b)]) := by
  have hlo := G.lo
  have hx : ∀ (i x : Nat), order[i]? = some x → x < order.length := fun i x e => by
    have := (G.perm.mem_iff).mp (List.mem_of_getElem? e)
    simpa using this
  have uniq : ∀ (x k l : Nat), order[k]? = some x → order[l]? = some x → k = l := fun x k l e1 e2 => by
    obtain ⟨h1, g1⟩ := List.getElem?_eq_some_iff.mp e1
    obtain ⟨h2, g2⟩ := List.getElem?_eq_some_iff.mp e2
    exact (List.getElem_inj G.nd).mp (g1.trans g2.symm)
  have via : ∀ x y, (x, y) ∈ rows → Pth (rows ++ [(a, b)]) x y := fun x y h => .one (by rw [List.mem_append]; exact .inl h)
  refine ⟨G.perm, G.lo, G.hi, G.first, G.last, ?_, fun q hq => Pth.via via (G.fw q hq), fun q hq => Pth.via via (G.bw q hq), ?_⟩
  · intro ab h
    rcases List.mem_append.mp h with h | h
    · exact G.inr ab h
    · simp at h
      subst h
      refine ⟨hx i a ha, hx j b hb, fun z => ?_⟩
      simp only at z
      subst z
      have := uniq 1 i _ ha G.last
      omega
  · intro hlo2 ab h k l hk hl2
    rcases List.mem_append.mp h with h | h
    · exact G.asc hlo2 ab h k l hk hl2
    · simp at h
      subst h
      rw [uniq a k i hk ha, uniq b l j hl2 hb]
      exact hl hlo2
/-- a part as it is told -/
structure PartSpec (loose : Bool) (n : Nat) (E : List (Nat × Nat)) : Prop where
  lo : 2 ≤ n
  hi : n ≤ 16
  inr : ∀ ab ∈ E, ab.1 < n ∧ ab.2 < n ∧ ab.1 ≠ 1
  fw : ∀ q, q < n → Pth E 0 q
  bw : ∀ q, q < n → Pth E q 1
  asc : loose = true → ∃ f : Nat → Nat, ∀ ab ∈ E, f ab.1 < f ab.2
theorem Grown.named {loose : Bool} {order : List Nat} {rows : List (Nat × Nat)} (G : Grown loose order rows) {xs : List Nat} (hx : xs.Perm (List.range (order.length - 2))) :
    PartSpec loose order.length (rows.map fun ab => (([0, 1] ++ xs.map (2 + ·)).getD ab.1 0, ([0, 1] ++ xs.map (2 + ·)).getD ab.2 0)) := by
  have hlo := G.lo
  have hlx : xs.length = order.length - 2 := by rw [hx.length_eq, List.length_range]
  have hp : ([0, 1] ++ xs.map (2 + ·)).Perm (List.range order.length) := by
    have e : List.range order.length = [0, 1] ++ (List.range (order.length - 2)).map (2 + ·) := by
      have : order.length = 2 + (order.length - 2) := by omega
      rw [this, List.range_add]
      simp [List.range, List.range.loop]
    rw [e]
    exact List.Perm.append_left _ (hx.map _)
  generalize hN : [0, 1] ++ xs.map (2 + ·) = names at hp
  have hn0 : names.getD 0 0 = 0 := by rw [← hN]; rfl
  have hn1 : names.getD 1 0 = 1 := by rw [← hN]; rfl
  have hln : names.length = order.length := by rw [hp.length_eq, List.length_range]
  have nd : names.Nodup := hp.nodup_iff.mpr List.nodup_range
  have inN : ∀ a, a < order.length → names.getD a 0 < order.length := fun a ha => by
    have h1 : names.getD a 0 ∈ names := by
      rw [List.getD_eq_getElem?_getD, List.getElem?_eq_getElem (by omega)]
      exact List.getElem_mem _
    simpa using hp.mem_iff.mp h1
  have surj : ∀ q, q < order.length → ∃ p, p < order.length ∧ names.getD p 0 = q := fun q hq => by
    obtain ⟨p, hpq⟩ := List.getElem?_of_mem (hp.mem_iff.mpr (by simpa using hq : q ∈ List.range order.length))
    have := (List.getElem?_eq_some_iff.mp hpq).1
    exact ⟨p, by omega, by rw [List.getD_eq_getElem?_getD, hpq]; rfl⟩
  have inj : ∀ a b, a < order.length → b < order.length → names.getD a 0 = names.getD b 0 → a = b := fun a b ha hb e => by
    rw [List.getD_eq_getElem?_getD, List.getD_eq_getElem?_getD, List.getElem?_eq_getElem (by omega), List.getElem?_eq_getElem (by omega)] at e
    exact (List.getElem_inj nd).mp e
  refine ⟨G.lo, G.hi, ?_, ?_, ?_, ?_⟩
  · intro ab h
    obtain ⟨cd, hc, rfl⟩ := List.mem_map.mp h
    have hr := G.inr cd hc
    refine ⟨inN _ hr.1, inN _ hr.2.1, fun z => hr.2.2 (inj _ 1 hr.1 (by omega) ?_)⟩
    rw [hn1]; exact z
  · intro q hq
    obtain ⟨p, hp1, rfl⟩ := surj q hq
    have := Pth.map (fun a => names.getD a 0) (G.fw p hp1)
    rw [hn0] at this
    exact this
  · intro q hq
    obtain ⟨p, hp1, rfl⟩ := surj q hq
    have := Pth.map (fun a => names.getD a 0) (G.bw p hp1)
    rw [hn1] at this
    exact this
  · intro hl
    refine ⟨fun q => order.idxOf (names.idxOf q), fun ab h => ?_⟩
    obtain ⟨cd, hc, rfl⟩ := List.mem_map.mp h
    have hr := G.inr cd hc
    have ix : ∀ a, a < order.length → names.idxOf (names.getD a 0) = a := fun a ha => by
      have h1 : names.getD a 0 ∈ names := by
        rw [List.getD_eq_getElem?_getD, List.getElem?_eq_getElem (by omega)]
        exact List.getElem_mem _
      have h2 := List.idxOf_lt_length_of_mem h1
      have h3 : names[names.idxOf (names.getD a 0)] = names.getD a 0 := List.getElem_idxOf h2
      refine inj _ _ (by omega) ha ?_
      rw [List.getD_eq_getElem?_getD, List.getElem?_eq_getElem h2]
      exact h3
    dsimp only
    rw [ix _ hr.1, ix _ hr.2.1]
    have om : ∀ a, a < order.length → order[order.idxOf a]? = some a := fun a ha => by
      have h1 : a ∈ order := G.perm.mem_iff.mpr (by simpa using ha)
      have h2 := List.idxOf_lt_length_of_mem h1
      rw [List.getElem?_eq_getElem h2]
      congr 1
      exact List.getElem_idxOf h2
    exact G.asc hl cd hc _ _ (om _ hr.1) (om _ hr.2.1)

end DL

namespace DL
open PySem PySem.Spec L2
local macro_rules | `(tactic| walk_at "dn") => `(tactic| simp only [purse_set2, purse_set3, purse_set4, purse_set5, purse_app, purse_len, purse_start, purse_l, G.set, G.put, G.push, G.wipe, wipeW, G.rs, rsW, List.set_cons_zero, List.set_cons_succ, List.map_cons, List.map_nil, List.length_cons, List.length_nil, List.nil_append, List.cons_append, List.replicate_succ, List.replicate_zero, Nat.reduceAdd, Nat.reduceSub, List.getD_cons_zero, List.getD_cons_succ, Option.getD_some, Option.getD_none])
local macro_rules | `(tactic| walk_at "d1") => `(tactic| first
  | with_reducible refine i_seq ?_
  | with_reducible refine i_asg ?_
  | with_reducible refine i_d2 ?_
  | ((with_reducible refine' i_var ?e ?_); (case e => rfl))
  | with_reducible refine i_c ?_
  | ((with_reducible refine' i_ix ?e ?v ?_); (case e => rfl); (case v => first | assumption | rfl))
  | with_reducible refine i_fI0 ?_
  | with_reducible refine i_gN ?_
  | with_reducible refine i_cons ?_
  | with_reducible refine i_nil ?_
  | with_reducible refine i_dN ?_
  | ((with_reducible refine' i_len ?e ?_); (case e => rfl))
  | with_reducible refine i_d1 ?_
  | with_reducible refine i_neg ?_
  | with_reducible refine i_B ?_
  | with_reducible refine o_B ?_
  | with_reducible refine o_I ?_
  | with_reducible refine i_ifS ?_
  | with_reducible refine i_or ?_
  | with_reducible refine i_and ?_
  | with_reducible refine i_not ?_
  | with_reducible refine i_andV ?_
  | with_reducible refine i_orV ?_
  | with_reducible refine i_notV ?_
  | with_reducible refine i_if ?_
  | with_reducible refine i_yes ?_
  | with_reducible refine k_T ?_
  | with_reducible refine k_F ?_
  | with_reducible refine k_True ?_
  | with_reducible refine k_False ?_
  | with_reducible refine i_eqI ?_
  | with_reducible refine i_neI ?_
  | with_reducible refine i_addI ?_
  | with_reducible refine i_addHI ?_
  | with_reducible refine i_callT ?_
  | with_reducible refine i_callH ?_
  | ((with_reducible refine' o_Ts ?e ?_); (case e => rfl))
  | with_reducible refine o_T ?_
  | ((with_reducible refine' o_TF ?e ?_); (case e => rfl))
  | with_reducible refine o_H ?_
  | ((with_reducible refine' o_HF ?e ?_); (case e => rfl))
  | with_reducible refine i_next ?_
  | with_reducible refine i_drop ?_
  | with_reducible refine i_ret ?_
  | with_reducible refine i_retN ?_
  | ((with_reducible refine' i_gTup ?e ?_); (case e => rfl))
  | with_reducible refine i_gCons ?_
  | with_reducible refine i_gNil ?_
  | with_reducible refine i_min2 ?_
  | with_reducible refine i_max2 ?_
  | with_reducible refine i_par ?_
  | with_reducible refine o_W2 ?_
  | ((with_reducible refine' i_aug ?e ?_); (case e => rfl))
  | with_reducible refine i_intI ?_
  | with_reducible refine i_intB ?_
  | with_reducible refine i_lc ?_
  | with_reducible refine i_for ?_
  | with_reducible refine i_while ?_
  | with_reducible refine i_itL ?_
  | ((with_reducible refine' o_Lq ?e ?_); (case e => rfl))
  | with_reducible refine i_itR1 ?_
  | with_reducible refine i_itR2 ?_
  | with_reducible refine o_I1 ?_
  | with_reducible refine o_I2 ?_
  | with_reducible refine e_t ?_
  | ((with_reducible refine' e_h ?e ?p ?_); (case e => rfl); (case p => rfl))
  | with_reducible refine i_M ?_
  | with_reducible refine i_M0 ?_
  | with_reducible refine i_gSub ?_
  | with_reducible refine i_finH ?_
  | with_reducible refine i_finT ?_
  | with_reducible refine i_sl ?_
  | with_reducible refine i_slH ?_
  | with_reducible refine i_slT ?_
  | with_reducible refine i_noPart ?_
  | with_reducible refine i_part ?_
  | ((with_reducible refine' i_frzT ?e ?_); (case e => rfl))
  | ((with_reducible refine' i_frzH ?e ?m ?t ?_); (case e => rfl); (case m => rfl); (case t => rfl))
  | ((with_reducible refine' i_din ?k ?e ?_); (case k => rfl); (case e => rfl))
  | ((with_reducible refine' i_dnotin ?k ?e ?_); (case k => rfl); (case e => rfl))
  | with_reducible refine i_dput ?_
  | with_reducible refine i_newD ?_
  | with_reducible refine i_lstH ?_
  | with_reducible refine i_lst ?_
  | with_reducible refine i_tup ?_
  | with_reducible refine i_break ?_
  | with_reducible refine i_cont ?_
  | with_reducible refine i_callS ?_
  | ((with_reducible refine' i_ixHW ?e ?v ?_); (case e => first | rfl | assumption); (case v => first | assumption | rfl))
  | ((with_reducible refine' i_ixHT ?e ?v ?_); (case e => first | rfl | assumption); (case v => first | assumption | rfl))
  | ((with_reducible refine' i_lenHT ?e ?_); (case e => first | rfl | assumption))
  | ((with_reducible refine' i_lenHW ?e ?_); (case e => first | rfl | assumption))
  | ((with_reducible refine' i_frzH ?e ?m ?t ?_); (case e => rfl); (case m => rfl); (case t => rfl))
  | ((with_reducible refine' i_unw ?e ?n ?_); (case e => rfl); (case n => rfl))
  | with_reducible refine i_gwCons ?_
  | with_reducible refine i_gwNil ?_
  | with_reducible refine i_lstW ?_
  | ((with_reducible refine' i_gList ?e ?n ?_); (case e => rfl); (case n => rfl))
  | with_reducible refine i_listRgH ?_
  | with_reducible refine i_listRg ?_
  | with_reducible refine i_R1 ?_
  | with_reducible refine i_getD ?_
  | ((with_reducible refine' i_none ?k ?_); (case k => rfl))
  | walk_at "dn")
local macro_rules | `(tactic| walk_at "dl") => `(tactic| ((try walk_at "dn"); repeat walk_at "d1"))
def intsOf (xs : List Nat) : List Int := xs.map fun k => ((k : Nat) : Int)
def pairT (ab : Nat × Nat) : T := .lst [.int ab.1, .int ab.2]
theorem ints_len (xs : List Nat) : (intsOf xs).length = xs.length := by unfold intsOf; rw [List.length_map]
theorem ints_get {xs : List Nat} {j a : Nat} (h : xs[j]? = some a) : (intsOf xs)[j]? = some (a : Int) := by unfold intsOf; rw [List.getElem?_map, h]; rfl
theorem ints_at {xs : List Nat} {j a : Nat} (h : xs[j]? = some a) : atI ((intsOf xs).map T.int) (j : Int) = some (.int a) := atI_map T.int (atI_nat (ints_get h))
theorem intsFirst {xs : List Nat} (nd : xs.Nodup) {j a : Nat} (h : xs[j]? = some a) : ∀ m : Nat, m < j → (intsOf xs)[m]? ≠ some (a : Int) := by
  intro m hm e
  unfold intsOf at e
  rw [List.getElem?_map] at e
  cases q : xs[m]? with
  | none => rw [q] at e; cases e
  | some b =>
    rw [q] at e
    have e2 : (b : Int) = (a : Int) := Option.some.inj e
    have e3 : b = a := by omega
    subst e3
    have := nodup_get nd q h
    omega
theorem pair_at {rows : List (Nat × Nat)} {j : Nat} {ab : Nat × Nat} (h : rows[j]? = some ab) : atI (rows.map pairT) (j : Int) = some (pairT ab) := atI_map pairT (atI_nat h)
theorem ints_ins (xs : List Nat) (p s : Nat) : ((intsOf xs).map T.int).take p ++ [T.int (s : Nat)] ++ ((intsOf xs).map T.int).drop p = (intsOf (xs.take p ++ [s] ++ xs.drop p)).map T.int := by
  unfold intsOf
  simp only [List.map_append, List.map_take, List.map_drop, List.map_cons, List.map_nil]
theorem getLt {α : Type} {xs : List α} {j : Nat} (h : j < xs.length) : ∃ x, xs[j]? = some x := ⟨_, List.getElem?_eq_getElem h⟩
theorem toI {i : Int} (h : 0 ≤ i) : ∃ n : Nat, i = (n : Int) := Int.eq_ofNat_of_zero_le h
theorem mono_order {ws : List W} {m : List Cell} : ∀ (P P' : W → List Cell → List Cell → Prop), (∀ w m cs, P w m cs → P' w m cs) → C__law_order ws m P → C__law_order ws m P' := by
  rintro P P' h ⟨n, turn, cells, a, b, c, d, e, f, q⟩
  exact ⟨n, turn, cells, a, b, c, d, e, f, fun xs t c' h1 h2 h3 => h _ _ _ (q xs t c' h1 h2 h3)⟩
def C__law_part : SC := fun ws m QC => ∃ (many turn : Nat) (loose : Bool) (cells : List Int), ws = [.h 0, .t (.int many), .t (.bl loose)] ∧ m = purse turn cells ∧ 0 < cells.length ∧ cells.length ≤ 1000 ∧ many ≤ 100 ∧ turn + 3 * many + 16 ≤ 100000 ∧
  ∀ (n : Nat) (E : List (Nat × Nat)) (turn' : Nat) (cells' : List Int), PartSpec loose n E → 1 ≤ E.length → E.length ≤ many + 1 → turn' ≤ turn + 3 * many + 16 → cells'.length = cells.length → QC (.t (.tup [.int n, .lst (E.map pairT)])) (purse turn' cells') []
theorem ln__law_part : ∀ ws m Q, C__law_part ws m Q → ws.length = ["_law_purse_here", "_law_many_here", "_law_loose"].length := by rintro ws m Q ⟨_, _, _, _, rfl, _⟩; rfl
def rd__law_part : DSt :=
  dSeq (dAsg (dLstH (dCons (dC (.int 0)) (dCons (dC (.int 1)) (dNil)))) (dgN 3))
  (dSeq (dAsg (dLstH (dCons (dLst (dCons (dC (.int 0)) (dCons (dC (.int 1)) (dNil)))) (dNil))) (dgN 4))
  (dSeq (dFor (diR1 (dCons (dVar 1) (dNil))) (dgN 5) (dSeq (dAsg (dN fLen (dCons (dVar 3) (dNil))) (dgN 6))
  (dIfS (dAnd (dB (d2 (fI0 fun i j => .bl (decide (i < j))) (dVar 6) (dC (.int 16)))) (dB (d2 (fEq false) (dCallS C__law_draw (dCons (dVar 0) (dCons (dC (.int 2)) (dNil)))) (dC (.int 1))))) (dSeq (dAsg (dCallS C__law_draw (dCons (dVar 0) (dCons (dN fLen (dCons (dVar 4) (dNil))) (dNil)))) (dgN 7))
  (dSeq (dAsg (d2 fIx (dVar 4) (dVar 7)) (dgList 2 (dgCons (dgN 8) (dgCons (dgN 9) (dgNil)))))
  (dSeq (dIfS (dB (dVar 2)) (dSeq (dAsg (dM fIndex (dVar 3) (dCons (dVar 8) (dNil))) (dgN 10))
  (dDrop (dM fInsert (dVar 3) (dCons (d2 fAdd (d2 fAdd (dVar 10) (dC (.int 1))) (dCallS C__law_draw (dCons (dVar 0) (dCons (d2 (fI0 fun i j => .int (i - j)) (dM fIndex (dVar 3) (dCons (dVar 9) (dNil))) (dVar 10)) (dNil))))) (dCons (dVar 6) (dNil)))))) (dDrop (dM fInsert (dVar 3) (dCons (d2 fAdd (dC (.int 1)) (dCallS C__law_draw (dCons (dVar 0) (dCons (d2 (fI0 fun i j => .int (i - j)) (dVar 6) (dC (.int 1))) (dNil))))) (dCons (dVar 6) (dNil))))))
  (dSeq (dAsg (dLst (dCons (dVar 8) (dCons (dVar 6) (dNil)))) (dgSub (dVar 4) (dVar 7)))
  (dDrop (dM fAppend (dVar 4) (dCons (dLst (dCons (dVar 6) (dCons (dVar 9) (dNil)))) (dNil)))))))) (dIfS (dB (dVar 2)) (dSeq (dAsg (dCallS C__law_draw (dCons (dVar 0) (dCons (d2 (fI0 fun i j => .int (i - j)) (dVar 6) (dC (.int 1))) (dNil)))) (dgN 10))
  (dDrop (dM fAppend (dVar 4) (dCons (dLst (dCons (d2 fIx (dVar 3) (dVar 10)) (dCons (d2 fIx (dVar 3) (d2 fAdd (d2 fAdd (dVar 10) (dC (.int 1))) (dCallS C__law_draw (dCons (dVar 0) (dCons (d2 (fI0 fun i j => .int (i - j)) (d2 (fI0 fun i j => .int (i - j)) (dVar 6) (dC (.int 1))) (dVar 10)) (dNil)))))) (dNil)))) (dNil))))) (dDrop (dM fAppend (dVar 4) (dCons (dLst (dCons (d2 fIx (dVar 3) (dCallS C__law_draw (dCons (dVar 0) (dCons (d2 (fI0 fun i j => .int (i - j)) (dVar 6) (dC (.int 1))) (dNil))))) (dCons (d2 fIx (dVar 3) (dCallS C__law_draw (dCons (dVar 0) (dCons (dVar 6) (dNil))))) (dNil)))) (dNil))))))))
  (dSeq (dAsg (d2 fAdd (dLst (dCons (dC (.int 0)) (dCons (dC (.int 1)) (dNil)))) (dLc finT (diL (dCallS C__law_order (dCons (dVar 0) (dCons (d2 (fI0 fun i j => .int (i - j)) (dN fLen (dCons (dVar 3) (dNil))) (dC (.int 2))) (dNil))))) (dgN 12) (dYes) (d2 fAdd (dC (.int 2)) (dVar 12)) [12])) (dgN 11))
  (dRet (dTup (dCons (dN fLen (dCons (dVar 3) (dNil))) (dCons (dLc finT (diL (dVar 4)) (dgList 2 (dgCons (dgN 8) (dgCons (dgN 9) (dgNil)))) (dYes) (dLst (dCons (d2 fIx (dVar 11) (dVar 8)) (dCons (d2 fIx (dVar 11) (dVar 9)) (dNil)))) [8, 9]) (dNil))))))))

/-- the state within the loop -/
def partG (loose : Bool) (many : Nat) (order : List Nat) (rows : List (Nat × Nat)) (t : Nat) (c : List Int) (o5 o6 o7 o8 o9 o10 : Option W) : G :=
  ⟨[some (.h 0), some (.t (.int many)), some (.t (.bl loose)), some (.h 2), some (.h 3), o5, o6, o7, o8, o9, o10, none, none], purseM t c ++ [some (.lt ((intsOf order).map T.int)), some (.lt (rows.map pairT))]⟩
def rdPartElse : DSt := dIfS (dB (dVar 2))
  (dSeq (dAsg (dCallS C__law_draw (dCons (dVar 0) (dCons (d2 (fI0 fun i j => .int (i - j)) (dVar 6) (dC (.int 1))) (dNil)))) (dgN 10))
    (dDrop (dM fAppend (dVar 4) (dCons (dLst (dCons (d2 fIx (dVar 3) (dVar 10)) (dCons (d2 fIx (dVar 3) (d2 fAdd (d2 fAdd (dVar 10) (dC (.int 1))) (dCallS C__law_draw (dCons (dVar 0) (dCons (d2 (fI0 fun i j => .int (i - j)) (d2 (fI0 fun i j => .int (i - j)) (dVar 6) (dC (.int 1))) (dVar 10)) (dNil)))))) (dNil)))) (dNil)))))
  (dDrop (dM fAppend (dVar 4) (dCons (dLst (dCons (d2 fIx (dVar 3) (dCallS C__law_draw (dCons (dVar 0) (dCons (d2 (fI0 fun i j => .int (i - j)) (dVar 6) (dC (.int 1))) (dNil))))) (dCons (d2 fIx (dVar 3) (dCallS C__law_draw (dCons (dVar 0) (dCons (dVar 6) (dNil))))) (dNil)))) (dNil))))
theorem part_else {D : De} {loose : Bool} {many t : Nat} {order : List Nat} {rows : List (Nat × Nat)} {c : List Int} {o5 o7 o8 o9 o10 : Option W} (G : Grown loose order rows) (hr : rows.length ≤ 1000) (h0 : 0 < c.length) (h1 : c.length ≤ 1000) (ht : t + 2 ≤ 100000)
    (hN : ∀ a b t' c' p10, Grown loose order (rows ++ [(a, b)]) → t' ≤ t + 2 → c'.length = c.length → D.nx (partG loose many order (rows ++ [(a, b)]) t' c' o5 (some (.t (.int order.length))) o7 o8 o9 p10)) :
    rdPartElse D (partG loose many order rows t c o5 (some (.t (.int order.length))) o7 o8 o9 o10) := by
  have lo := G.lo
  have hi16 := G.hi
  have ea : ∀ a b : Nat, rows.map pairT ++ [.lst [.int a, .int b]] = (rows ++ [(a, b)]).map pairT := fun a b => by rw [List.map_append]; rfl
  have hl4 : (rows.map pairT).length < sizeLine := lineLt (by rw [List.length_map]; omega)
  unfold rdPartElse partG
  walk_at "dl"
  cases loose with
  | true =>
    walk_at "dl"
    refine callS_draw h0 h1 (by omega) (by omega) (by omega) fun r c2 r0 r1 hc2 => ?_
    walk_at "dl"
    refine ⟨isL_lt rfl, ?_⟩
    obtain ⟨x, rfl⟩ := toI r0
    obtain ⟨a, ha⟩ := getLt (xs := order) (j := x) (by omega)
    have fa := ints_at ha
    walk_at "dl"
    refine callS_draw (by omega) (by omega) (by omega) (by omega) (by omega) fun r2 c3 s0 s1 hc3 => ?_
    obtain ⟨y, rfl⟩ := toI s0
    obtain ⟨b, hb⟩ := getLt (xs := order) (j := x + 1 + y) (by omega)
    have fb := ints_at hb
    have fb : atI ((intsOf order).map T.int) ((x : Int) + 1 + (y : Int)) = some (.int b) := fb
    walk_at "dl"
    refine ⟨by decide, ?_⟩
    walk_at "dl"
    refine i_append (us := rows.map pairT) rfl hl4 ?_
    walk_at "dl"
    rw [ea]
    exact hN a b _ _ _ (G.more ha hb (by omega) (fun _ => by omega)) (by omega) (by omega)
  | false =>
    walk_at "dl"
    refine ⟨isL_lt rfl, ?_⟩
    walk_at "dl"
    refine callS_draw h0 h1 (by omega) (by omega) (by omega) fun r c2 r0 r1 hc2 => ?_
    obtain ⟨x, rfl⟩ := toI r0
    obtain ⟨a, ha⟩ := getLt (xs := order) (j := x) (by omega)
    have fa := ints_at ha
    walk_at "dl"
    refine callS_draw (by omega) (by omega) (by omega) (by omega) (by omega) fun r2 c3 s0 s1 hc3 => ?_
    obtain ⟨y, rfl⟩ := toI s0
    obtain ⟨b, hb⟩ := getLt (xs := order) (j := y) (by omega)
    have fb := ints_at hb
    walk_at "dl"
    refine ⟨by decide, ?_⟩
    walk_at "dl"
    refine i_append (us := rows.map pairT) rfl hl4 ?_
    walk_at "dl"
    rw [ea]
    exact hN a b _ _ _ (G.more ha hb (by omega) (fun z => by cases z)) (by omega) (by omega)
theorem teq_sh1 : True := trivial
theorem rp__law_part : ∀ ws m QC, C__law_part ws m QC → rd__law_part ⟨FinS m.length QC (.t .non), FinS m.length QC, fun _ => False, fun _ => False⟩ ⟨ws.map some ++ List.replicate (13 - ws.length) none, m.map some⟩ := by
  rintro ws m QC ⟨many, turn, loose, cells, rfl, rfl, h0, h1, h2, h3, hQ⟩
  unfold rd__law_part
  walk_at "dl"
  refine ⟨by decide, ?_⟩
  walk_at "dl"
  refine ⟨by decide, ?_⟩
  walk_at "dl"
  refine ⟨by decide, ?_⟩
  walk_at "dl"
  refine ⟨by omega, ?_⟩
  refine forR (List.range many) (fun k => W.t (natT k)) (fun i g' => ∃ (order : List Nat) (rows : List (Nat × Nat)) (turn' : Nat) (cells' : List Int) (o5 o6 o7 o8 o9 o10 : Option W),
      g' = partG loose many order rows turn' cells' o5 o6 o7 o8 o9 o10 ∧
      Grown loose order rows ∧ turn' ≤ turn + 3 * i ∧ cells'.length = cells.length ∧ rows.length ≤ i + 1 ∧ 1 ≤ rows.length)
    (by rw [Int.toNat_natCast, rgW0]; rfl) ⟨[0, 1], [(0, 1)], turn, cells, none, none, none, none, none, none, rfl, grown0 loose, by omega, rfl, by simp, by simp⟩ (fun _ _ _ => trivial) ?_ ?_
  · rintro i k hk g' ⟨order, rows, turn', cells', o5, o6, o7, o8, o9, o10, rfl, hG, ht, hc, hr, hr1⟩ N hN
    have hi : i < many := by simpa using (List.getElem?_eq_some_iff.mp hk).1
    rw [List.getElem?_range hi] at hk
    cases hk
    have lo := hG.lo
    have hi16 := hG.hi
    have hN2 : ∀ a b t' c' p5 p6 p7 p8 p9 p10, Grown loose order (rows ++ [(a, b)]) → t' ≤ turn' + 3 → c'.length = cells'.length → N (partG loose many order (rows ++ [(a, b)]) t' c' p5 p6 p7 p8 p9 p10) := fun a b t' c' p5 p6 p7 p8 p9 p10 hg ht' hc' =>
      hN _ ⟨order, rows ++ [(a, b)], t', c', p5, p6, p7, p8, p9, p10, rfl, hg, by omega, by omega, by simp; omega, by simp⟩
    unfold natT partG
    walk_at "dl"
    rw [List.length_map, ints_len]
    refine k_d (fun hs => ?_) (fun hs => ?_)
    · walk_at "dl"
      refine callS_draw (by omega) (by omega) (by omega) (by omega) (by omega) fun r c2 r0 r1 hc2 => ?_
      walk_at "dl"
      refine k_d (fun hd => ?_) (fun hd => ?_)
      · walk_at "dl"
        rw [List.length_map]
        refine callS_draw (by omega) (by omega) (by omega) (by omega) (by omega) fun r2 c3 s0 s1 hc3 => ?_
        obtain ⟨at0, rfl⟩ := toI s0
        obtain ⟨⟨a, b⟩, hab⟩ := getLt (xs := rows) (j := at0) (by omega)
        have fab := pair_at hab
        unfold pairT at fab
        have inab := hG.inr _ (List.mem_of_getElem? hab)
        walk_at "dl"
        obtain ⟨x, hx⟩ := List.getElem?_of_mem (hG.perm.mem_iff.mpr (by simpa using inab.1 : a ∈ List.range order.length))
        obtain ⟨y, hy⟩ := List.getElem?_of_mem (hG.perm.mem_iff.mpr (by simpa using inab.2.1 : b ∈ List.range order.length))
        have hxl : x < order.length := (List.getElem?_eq_some_iff.mp hx).1
        have hyl : y < order.length := (List.getElem?_eq_some_iff.mp hy).1
        -- behind the place is put in
        have fin : ∀ (p t' : Nat) (c' : List Int) (p10 : Option W), 1 ≤ p → p ≤ order.length - 1 → (loose = true → x < p ∧ p ≤ y) → t' ≤ turn' + 3 → c'.length = cells'.length →
            N (partG loose many (order.take p ++ [order.length] ++ order.drop p) (rows.set at0 (a, order.length) ++ [(order.length, b)]) t' c' (some (.t (.int i))) (some (.t (.int order.length))) (some (.t (.int at0))) (some (.t (.int a))) (some (.t (.int b))) p10) := fun p t' c' p10 hp1 hp2 hp3 ht' hc' =>
          hN _ ⟨_, _, t', c', _, _, _, _, _, p10, rfl, hG.split hab (by omega) hp1 hp2 (fun hl i' j' e1 e2 => by
            rw [nodup_get hG.nd e1 hx, nodup_get hG.nd e2 hy]; exact hp3 hl), by omega, by omega, by simp; omega, by simp⟩
        have fin2 : ∀ (p t' : Nat) (c' : List Int) (p10 : Option W), 1 ≤ p → p ≤ order.length - 1 → (loose = true → x < p ∧ p ≤ y) → t' ≤ turn' + 3 → c'.length = cells'.length →
            (dSeq (dAsg (dLst (dCons (dVar 8) (dCons (dVar 6) (dNil)))) (dgSub (dVar 4) (dVar 7))) (dDrop (dM fAppend (dVar 4) (dCons (dLst (dCons (dVar 6) (dCons (dVar 9) (dNil)))) (dNil))))) ⟨N, FinS 2 QC, fun _ => True, N⟩
              (partG loose many (order.take p ++ [order.length] ++ order.drop p) rows t' c' (some (.t (.int i))) (some (.t (.int order.length))) (some (.t (.int at0))) (some (.t (.int a))) (some (.t (.int b))) p10) := fun p t' c' p10 hp1 hp2 hp3 ht' hc' => by
          unfold partG
          walk_at "dl"
          refine ⟨by decide, ?_⟩
          walk_at "dl"
          refine o_put rfl (ixN_nat (by rw [List.length_map]; omega)) ?_
          walk_at "dl"
          refine ⟨isL_lt rfl, ?_⟩
          walk_at "dl"
          refine ⟨by decide, ?_⟩
          walk_at "dl"
          refine i_append rfl (lineLt (by rw [List.length_set, List.length_map]; omega)) ?_
          walk_at "dl"
          have e : (rows.map pairT).set at0 (.lst [.int a, .int order.length]) ++ [.lst [.int order.length, .int b]] = (rows.set at0 (a, order.length) ++ [(order.length, b)]).map pairT := by
            rw [List.map_append, List.map_set]; rfl
          rw [e]
          exact fin p t' c' p10 hp1 hp2 hp3 ht' hc'
        cases loose with
        | true =>
          have hxy := hG.asc rfl _ (List.mem_of_getElem? hab) x y hx hy
          walk_at "dl"
          refine ⟨isL_lt rfl, ?_⟩
          walk_at "dl"
          refine i_index (j := x) rfl (ints_get hx) (intsFirst hG.nd hx) ?_
          walk_at "dl"
          refine ⟨isL_lt rfl, ?_⟩
          walk_at "dl"
          refine ⟨isL_lt rfl, ?_⟩
          walk_at "dl"
          refine i_index (j := y) rfl (ints_get hy) (intsFirst hG.nd hy) ?_
          walk_at "dl"
          refine callS_draw (by omega) (by omega) (by omega) (by omega) (by omega) fun r3 c4 q0 q1 hc4 => ?_
          obtain ⟨z, rfl⟩ := toI q0
          walk_at "dl"
          refine i_insert (us := (intsOf order).map T.int) rfl (⟨lineLt (by rw [List.length_map, ints_len]; omega), by omega, by omega⟩) ?_
          walk_at "dl"
          have ep : ((x : Int) + 1 + (z : Int)).toNat = x + 1 + z := by omega
          rw [ep, ints_ins]
          exact fin2 (x + 1 + z) _ c4 _ (by omega) (by omega) (fun _ => by omega) (by omega) (by omega)
        | false =>
          walk_at "dl"
          refine ⟨isL_lt rfl, ?_⟩
          walk_at "dl"
          refine callS_draw (by omega) (by omega) (by omega) (by omega) (by omega) fun r3 c4 q0 q1 hc4 => ?_
          obtain ⟨z, rfl⟩ := toI q0
          walk_at "dl"
          refine i_insert (us := (intsOf order).map T.int) rfl (⟨lineLt (by rw [List.length_map, ints_len]; omega), by omega, by omega⟩) ?_
          walk_at "dl"
          have ep : ((1 : Int) + (z : Int)).toNat = 1 + z := by omega
          rw [ep, ints_ins]
          exact fin2 (1 + z) _ c4 _ (by omega) (by omega) (fun h => by cases h) (by omega) (by omega)
      · exact part_else hG (by omega) (by omega) (by omega) (by omega) fun a b t' c' p10 hg ht' hc' => hN2 a b t' c' _ _ _ _ _ _ hg (by omega) (by omega)
    · exact part_else hG (by omega) (by omega) (by omega) (by omega) fun a b t' c' p10 hg ht' hc' => hN2 a b t' c' _ _ _ _ _ _ hg (by omega) (by omega)
  · rintro g' ⟨order, rows, turn', cells', o5, o6, o7, o8, o9, o10, rfl, hG, ht, hc, hr, hr1⟩
    rw [List.length_range] at ht hr
    have lo := hG.lo
    have hi16 := hG.hi
    unfold partG
    walk_at "dl"
    refine ⟨by decide, ?_⟩
    walk_at "dl"
    rw [List.length_map, ints_len]
    refine callS_p [.h 0, .t (.int ((order.length : Int) - 2))] rfl ?_ mono_order
    refine ⟨order.length - 2, turn', cells', by rw [show ((order.length - 2 : Nat) : Int) = (order.length : Int) - 2 by omega], rfl, by omega, by omega, by omega, by omega, fun xs t2 c2 hp ht2 hc2 => ⟨_, _, t2, c2, rfl, rfl, rfl, ?_⟩⟩
    walk_at "dl"
    have hlx : xs.length = order.length - 2 := by rw [hp.length_eq, List.length_range]
    refine lcP xs (fun k => W.t (natT k)) (fun _ => true) (fun k => .int (2 + (k : Int))) (by rw [List.map_map]; rfl) (lineLe (by omega)) rfl ?_ rfl ?_
    · intro k hk Y N2 hY hN2
      unfold natT
      walk_at "dl"
      exact hY rfl _ rfl
    walk_at "dl"
    rw [List.filter_eq_self.mpr (fun _ _ => rfl)]
    walk_at "dl"
    refine i_addL rfl rfl (lineLe (by simp; omega)) ?_
    have en : [T.int 0, T.int 1] ++ xs.map (fun k : Nat => T.int (2 + (k : Int))) = (intsOf ([0, 1] ++ xs.map (2 + ·))).map T.int := by
      unfold intsOf
      rw [List.map_append, List.map_append, List.map_map, List.map_map, List.map_map]
      refine congrArg _ (List.map_congr_left fun k _ => ?_)
      exact congrArg T.int (Int.natCast_add 2 k).symm
    rw [en]
    have hNm := hG.named hp
    have hln : ([0, 1] ++ xs.map (2 + ·)).length = order.length := by simp; omega
    generalize [0, 1] ++ xs.map (2 + ·) = names at hNm hln
    walk_at "dl"
    rw [List.length_map, ints_len]
    refine lcP rows (fun ab => W.t (pairT ab)) (fun _ => true) (fun ab => pairT (names.getD ab.1 0, names.getD ab.2 0)) (by rw [List.map_map]; rfl) (lineLe (by omega)) rfl ?_ rfl ?_
    · rintro ⟨a, b⟩ hab Y N2 hY hN2
      have inab := hG.inr _ hab
      have fa : atI ((intsOf names).map T.int) (a : Int) = some (.int (names.getD a 0 : Nat)) := ints_at (by rw [List.getD_eq_getElem?_getD, List.getElem?_eq_getElem (by omega)]; rfl)
      have fb : atI ((intsOf names).map T.int) (b : Int) = some (.int (names.getD b 0 : Nat)) := ints_at (by rw [List.getD_eq_getElem?_getD, List.getElem?_eq_getElem (by omega)]; rfl)
      unfold pairT
      walk_at "dl"
      refine ⟨by decide, ?_⟩
      exact hY rfl _ rfl
    walk_at "dl"
    rw [List.filter_eq_self.mpr (fun _ _ => rfl)]
    walk_at "dl"
    refine ⟨by decide, ?_⟩
    have q := hQ order.length (rows.map fun ab => (names.getD ab.1 0, names.getD ab.2 0)) t2 c2 hNm (by simpa using hr1) (by simpa using hr) (by omega) (by omega)
    rw [List.map_map] at q
    exact fin_purse q

end DL

namespace DL
open PySem PySem.Spec L2
local macro_rules | `(tactic| walk_at "dn") => `(tactic| simp only [purse_set2, purse_set3, purse_set4, purse_set5, purse_app, purse_len, purse_start, purse_l, G.set, G.put, G.push, G.wipe, wipeW, G.rs, rsW, List.set_cons_zero, List.set_cons_succ, List.map_cons, List.map_nil, List.length_cons, List.length_nil, List.nil_append, List.cons_append, List.replicate_succ, List.replicate_zero, Nat.reduceAdd, Nat.reduceSub, List.getD_cons_zero, List.getD_cons_succ, Option.getD_some, Option.getD_none])
local macro_rules | `(tactic| walk_at "d1") => `(tactic| first
  | with_reducible refine i_seq ?_
  | with_reducible refine i_asg ?_
  | with_reducible refine i_d2 ?_
  | ((with_reducible refine' i_var ?e ?_); (case e => rfl))
  | with_reducible refine i_c ?_
  | ((with_reducible refine' i_ix ?e ?v ?_); (case e => rfl); (case v => first | assumption | rfl))
  | with_reducible refine i_fI0 ?_
  | with_reducible refine i_gN ?_
  | with_reducible refine i_cons ?_
  | with_reducible refine i_nil ?_
  | with_reducible refine i_dN ?_
  | ((with_reducible refine' i_len ?e ?_); (case e => rfl))
  | with_reducible refine i_d1 ?_
  | with_reducible refine i_neg ?_
  | with_reducible refine i_B ?_
  | with_reducible refine o_B ?_
  | with_reducible refine o_I ?_
  | with_reducible refine i_ifS ?_
  | with_reducible refine i_or ?_
  | with_reducible refine i_and ?_
  | with_reducible refine i_not ?_
  | with_reducible refine i_andV ?_
  | with_reducible refine i_orV ?_
  | with_reducible refine i_notV ?_
  | with_reducible refine i_if ?_
  | with_reducible refine i_yes ?_
  | with_reducible refine k_T ?_
  | with_reducible refine k_F ?_
  | with_reducible refine k_True ?_
  | with_reducible refine k_False ?_
  | with_reducible refine i_eqI ?_
  | with_reducible refine i_neI ?_
  | with_reducible refine i_addI ?_
  | with_reducible refine i_addHI ?_
  | with_reducible refine i_callT ?_
  | with_reducible refine i_callH ?_
  | ((with_reducible refine' o_Ts ?e ?_); (case e => rfl))
  | with_reducible refine o_T ?_
  | ((with_reducible refine' o_TF ?e ?_); (case e => rfl))
  | with_reducible refine o_H ?_
  | ((with_reducible refine' o_HF ?e ?_); (case e => rfl))
  | with_reducible refine i_next ?_
  | with_reducible refine i_drop ?_
  | with_reducible refine i_ret ?_
  | with_reducible refine i_retN ?_
  | ((with_reducible refine' i_gTup ?e ?_); (case e => rfl))
  | with_reducible refine i_gCons ?_
  | with_reducible refine i_gNil ?_
  | with_reducible refine i_min2 ?_
  | with_reducible refine i_max2 ?_
  | with_reducible refine i_par ?_
  | with_reducible refine o_W2 ?_
  | ((with_reducible refine' i_aug ?e ?_); (case e => rfl))
  | with_reducible refine i_intI ?_
  | with_reducible refine i_intB ?_
  | with_reducible refine i_lc ?_
  | with_reducible refine i_for ?_
  | with_reducible refine i_while ?_
  | with_reducible refine i_itL ?_
  | ((with_reducible refine' o_Lq ?e ?_); (case e => rfl))
  | with_reducible refine i_itR1 ?_
  | with_reducible refine i_itR2 ?_
  | with_reducible refine o_I1 ?_
  | with_reducible refine o_I2 ?_
  | with_reducible refine e_t ?_
  | ((with_reducible refine' e_h ?e ?p ?_); (case e => rfl); (case p => rfl))
  | with_reducible refine i_M ?_
  | with_reducible refine i_M0 ?_
  | with_reducible refine i_gSub ?_
  | with_reducible refine i_finH ?_
  | with_reducible refine i_finT ?_
  | with_reducible refine i_sl ?_
  | with_reducible refine i_slH ?_
  | with_reducible refine i_slT ?_
  | with_reducible refine i_noPart ?_
  | with_reducible refine i_part ?_
  | ((with_reducible refine' i_frzT ?e ?_); (case e => rfl))
  | ((with_reducible refine' i_frzH ?e ?m ?t ?_); (case e => rfl); (case m => rfl); (case t => rfl))
  | ((with_reducible refine' i_din ?k ?e ?_); (case k => rfl); (case e => rfl))
  | ((with_reducible refine' i_dnotin ?k ?e ?_); (case k => rfl); (case e => rfl))
  | with_reducible refine i_dput ?_
  | with_reducible refine i_newD ?_
  | with_reducible refine i_lstH ?_
  | with_reducible refine i_lst ?_
  | with_reducible refine i_tup ?_
  | with_reducible refine i_break ?_
  | with_reducible refine i_cont ?_
  | with_reducible refine i_callS ?_
  | ((with_reducible refine' i_ixHW ?e ?v ?_); (case e => first | rfl | assumption); (case v => first | assumption | rfl))
  | ((with_reducible refine' i_ixHT ?e ?v ?_); (case e => first | rfl | assumption); (case v => first | assumption | rfl))
  | ((with_reducible refine' i_lenHT ?e ?_); (case e => first | rfl | assumption))
  | ((with_reducible refine' i_lenHW ?e ?_); (case e => first | rfl | assumption))
  | ((with_reducible refine' i_frzH ?e ?m ?t ?_); (case e => rfl); (case m => rfl); (case t => rfl))
  | ((with_reducible refine' i_unw ?e ?n ?_); (case e => rfl); (case n => rfl))
  | with_reducible refine i_gwCons ?_
  | with_reducible refine i_gwNil ?_
  | with_reducible refine i_lstW ?_
  | ((with_reducible refine' i_gList ?e ?n ?_); (case e => rfl); (case n => rfl))
  | with_reducible refine i_listRgH ?_
  | with_reducible refine i_listRg ?_
  | with_reducible refine i_R1 ?_
  | with_reducible refine i_getD ?_
  | ((with_reducible refine' i_none ?k ?_); (case k => rfl))
  | walk_at "dn")
local macro_rules | `(tactic| walk_at "dl") => `(tactic| ((try walk_at "dn"); repeat walk_at "d1"))
/-! rows at handles -/
def rowC (r : Row) : Cell := .lt [.int r.p, .int r.s, .int r.e, .int r.c]
def rowsM (rs : List Row) : Sto := rs.map fun r => some (rowC r)
def hsFrom (k n : Nat) : List W := (List.range n).map fun i => W.h (k + i)
theorem hs_at {k n i : Nat} (h : i < n) : atI (hsFrom k n) (i : Int) = some (.h (k + i)) := atI_nat (by unfold hsFrom; rw [List.getElem?_map, List.getElem?_range h]; rfl)
theorem hs_len (k n : Nat) : (hsFrom k n).length = n := by unfold hsFrom; rw [List.length_map, List.length_range]
/-- the store of _law_called: a purse, the rows' list, the rows, what is made -/
def cM (t : Nat) (c : List Int) (n : Nat) (rs : List Row) (loc : Sto) : Sto := purseM t c ++ (some (.lw (hsFrom 3 n)) :: (rowsM rs ++ loc))
theorem cM_row {t : Nat} {c : List Int} {n : Nat} {rs : List Row} {loc : Sto} {k : Nat} {r : Row} (h : rs[k]? = some r) : (cM t c n rs loc)[3 + k]? = some (some (rowC r)) := by
  have hk : k < rs.length := (List.getElem?_eq_some_iff.mp h).1
  show (some (Cell.lw [.h 1, .t (.int t)]) :: some (Cell.lt (c.map T.int)) :: some (.lw (hsFrom 3 n)) :: (rowsM rs ++ loc))[3 + k]? = _
  rw [show 3 + k = k + 3 by omega, List.getElem?_cons_succ, List.getElem?_cons_succ, List.getElem?_cons_succ, List.getElem?_append_left (by unfold rowsM; simpa using hk)]
  unfold rowsM
  rw [List.getElem?_map, h]
  rfl
theorem cM_loc {t : Nat} {c : List Int} {n : Nat} {rs : List Row} {loc : Sto} {j : Nat} : (cM t c n rs loc)[3 + rs.length + j]? = loc[j]? := by
  show (some (Cell.lw [.h 1, .t (.int t)]) :: some (Cell.lt (c.map T.int)) :: some (.lw (hsFrom 3 n)) :: (rowsM rs ++ loc))[3 + rs.length + j]? = _
  rw [show 3 + rs.length + j = (rs.length + j) + 3 by omega, List.getElem?_cons_succ, List.getElem?_cons_succ, List.getElem?_cons_succ, List.getElem?_append_right (by unfold rowsM; simp)]
  congr 1
  unfold rowsM
  rw [List.length_map]
  omega
theorem cM_setRow {t : Nat} {c : List Int} {n : Nat} {rs : List Row} {loc : Sto} {k : Nat} {r : Row} (h : k < rs.length) : (cM t c n rs loc).set (3 + k) (some (rowC r)) = cM t c n (rs.set k r) loc := by
  show (some (Cell.lw [.h 1, .t (.int t)]) :: some (Cell.lt (c.map T.int)) :: some (.lw (hsFrom 3 n)) :: (rowsM rs ++ loc)).set (3 + k) _ = _
  rw [show 3 + k = k + 3 by omega, List.set_cons_succ, List.set_cons_succ, List.set_cons_succ, List.set_append_left _ _ (by unfold rowsM; simpa using h)]
  unfold cM rowsM
  rw [List.map_set]
  rfl
theorem cM_setLoc {t : Nat} {c : List Int} {n : Nat} {rs : List Row} {loc : Sto} {j : Nat} {v : Option Cell} : (cM t c n rs loc).set (3 + rs.length + j) v = cM t c n rs (loc.set j v) := by
  show (some (Cell.lw [.h 1, .t (.int t)]) :: some (Cell.lt (c.map T.int)) :: some (.lw (hsFrom 3 n)) :: (rowsM rs ++ loc)).set (3 + rs.length + j) _ = _
  rw [show 3 + rs.length + j = (rs.length + j) + 3 by omega, List.set_cons_succ, List.set_cons_succ, List.set_cons_succ, List.set_append_right _ _ (by unfold rowsM; simp)]
  unfold cM
  have e : rs.length + j - (rowsM rs).length = j := by unfold rowsM; rw [List.length_map]; omega
  rw [e]
  rfl
theorem cM_len {t : Nat} {c : List Int} {n : Nat} {rs : List Row} {loc : Sto} : (cM t c n rs loc).length = 3 + rs.length + loc.length := by
  show (some (Cell.lw [.h 1, .t (.int t)]) :: some (Cell.lt (c.map T.int)) :: some (.lw (hsFrom 3 n)) :: (rowsM rs ++ loc)).length = _
  rw [List.length_cons, List.length_cons, List.length_cons, List.length_append]
  unfold rowsM
  rw [List.length_map]
  omega
theorem cM_push {t : Nat} {c : List Int} {n : Nat} {rs : List Row} {loc : Sto} {x : Option Cell} : cM t c n rs loc ++ [x] = cM t c n rs (loc ++ [x]) := by
  unfold cM
  rw [List.append_assoc, List.cons_append, List.append_assoc]
theorem cM_hs {t : Nat} {c : List Int} {n : Nat} {rs : List Row} {loc : Sto} : (cM t c n rs loc)[2]? = some (some (.lw (hsFrom 3 n))) := rfl
theorem callS_drawC {t n : Nat} {x : Int} {c : List Int} {rs : List Row} {loc : Sto} {sl : List (Option W)} {Q : W → G → Prop} (h0 : 0 < c.length) (h1 : c.length ≤ 1000) (h2 : 0 < x) (h3 : x < 1000000) (h4 : t ≤ 100000)
    (h : ∀ (r : Int) (c' : List Int), 0 ≤ r → r < x → c'.length = c.length → Q (.t (.int r)) ⟨sl, cM (t + 1) c' n rs loc⟩) : callS C_draw [.h 0, .t (.int x)] ⟨sl, cM t c n rs loc⟩ Q :=
  callS_draw h0 h1 h2 (by omega) h4 h
/-- what _law_called does to the rows -/
def CalledOk (parts : Nat) (rs rs' : List Row) : Prop := rs'.length = rs.length ∧ ∀ (k : Nat) (r : Row), rs[k]? = some r → ∃ c' : Int, rs'[k]? = some { r with c := c' } ∧ (c' = -1 ∨ (r.p < c' ∧ c' < parts))
def C__law_called : SC := fun ws m QC => ∃ (parts turn : Nat) (cells : List Int) (rs : List Row), ws = [.h 0, .h 2, .t (.int parts)] ∧ m = purse turn cells ++ (.lw (hsFrom 3 rs.length) :: rs.map rowC) ∧ 0 < cells.length ∧ cells.length ≤ 1000 ∧ 1 ≤ parts ∧ parts ≤ 4 ∧ rs.length ≤ 60 ∧ turn + 100 ≤ 100000 ∧
  (∀ r ∈ rs, 0 ≤ r.p ∧ r.p < parts ∧ r.c = -1) ∧ (∀ q : Nat, q < parts → ∃ r ∈ rs, r.p = q) ∧
  ∀ (rs' : List Row) (turn' : Nat) (cells' : List Int), CalledOk parts rs rs' → (∀ q : Nat, 1 ≤ q → q < parts → ∃ r ∈ rs', r.c = q) → turn' ≤ turn + 100 → cells'.length = cells.length → QC (.t .non) (purse turn' cells' ++ (.lw (hsFrom 3 rs.length) :: rs'.map rowC)) []
theorem ln__law_called : ∀ ws m Q, C__law_called ws m Q → ws.length = ["_law_purse_here", "_law_rows", "_law_parts"].length := by rintro ws m Q ⟨_, _, _, _, rfl, _⟩; rfl
def rd__law_called : DSt :=
  dSeq (dAsg (dLstRgH (dR1 (dN fLen (dCons (dVar 1) (dNil))))) (dgN 3))
  (dSeq (dFor (diR2 (dCons (dC (.int 1)) (dCons (dVar 2) (dNil)))) (dgN 4) (dSeq (dAsg (dLc finT (diL (dVar 3)) (dgN 6) (dB (d2 (fI0 fun i j => .bl (decide (i < j))) (d2 fIx (d2 fIx (dVar 1) (dVar 6)) (dC (.int 0))) (dVar 4))) (dVar 6) [6]) (dgN 5))
  (dSeq (dAsg (d2 fIx (dVar 5) (dCallS C__law_draw (dCons (dVar 0) (dCons (dN fLen (dCons (dVar 5) (dNil))) (dNil))))) (dgN 6))
  (dSeq (dAsg (dVar 4) (dgSub (d2 fIx (dVar 1) (dVar 6)) (dC (.int 3))))
  (dDrop (dM fRemove (dVar 3) (dCons (dVar 6) (dNil))))))))
  (dFor (diL (dVar 3)) (dgN 6) (dSeq (dAsg (d2 (fI0 fun i j => .int (i - j)) (d2 (fI0 fun i j => .int (i - j)) (dVar 2) (dC (.int 1))) (d2 fIx (d2 fIx (dVar 1) (dVar 6)) (dC (.int 0)))) (dgN 7))
  (dSeq (dAsg (dCallS C__law_draw (dCons (dVar 0) (dCons (d2 fAdd (d2 (fI IntMulOk fun i j => .int (i * j)) (dC (.int 3)) (dVar 7)) (dC (.int 1))) (dNil)))) (dgN 8))
  (dIfS (dB (d2 (fI0 fun i j => .bl (decide (i < j))) (dVar 8) (dVar 7))) (dAsg (d2 fAdd (d2 fAdd (d2 fIx (d2 fIx (dVar 1) (dVar 6)) (dC (.int 0))) (dC (.int 1))) (dVar 8)) (dgSub (d2 fIx (dVar 1) (dVar 6)) (dC (.int 3)))) (dNext))))))

/-- what holds within the first loop, before part q: rows taken, those still free -/
structure Tk (parts : Nat) (rs0 rs : List Row) (free : List Nat) (q : Nat) : Prop where
  ok : CalledOk parts rs0 rs
  nd : free.Nodup
  lt : ∀ k ∈ free, k < rs0.length
  fr : ∀ (k : Nat) (r : Row), k ∈ free → rs[k]? = some r → r.c = -1
  cnt : free.length + q = rs0.length + 1
  got : ∀ p : Nat, 1 ≤ p → p < q → ∃ (k : Nat) (r : Row), k ∉ free ∧ rs[k]? = some r ∧ r.c = p
theorem calledOk_refl {parts : Nat} {rs : List Row} (h : ∀ r ∈ rs, r.c = -1) : CalledOk parts rs rs := ⟨rfl, fun k r e => ⟨-1, by
  have := h r (List.mem_of_getElem? e)
  rw [e]
  cases r
  simp at this
  subst this
  rfl, .inl rfl⟩⟩
theorem CalledOk.at {parts : Nat} {rs0 rs : List Row} (h : CalledOk parts rs0 rs) {k : Nat} (hk : k < rs0.length) : ∃ (r0 r : Row), rs0[k]? = some r0 ∧ rs[k]? = some r ∧ r.p = r0.p ∧ r.s = r0.s ∧ r.e = r0.e := by
  obtain ⟨r0, e0⟩ := getLt hk
  obtain ⟨c', e1, _⟩ := h.2 k r0 e0
  exact ⟨r0, _, e0, e1, rfl, rfl, rfl⟩
theorem CalledOk.set {parts : Nat} {rs0 rs : List Row} (h : CalledOk parts rs0 rs) {k : Nat} {r : Row} (hk : rs[k]? = some r) {c : Int} (hc : r.p < c ∧ c < parts) : CalledOk parts rs0 (rs.set k { r with c := c }) := by
  have hl : k < rs.length := (List.getElem?_eq_some_iff.mp hk).1
  refine ⟨by rw [List.length_set]; exact h.1, fun j r0 e0 => ?_⟩
  obtain ⟨c', e1, h1⟩ := h.2 j r0 e0
  by_cases e : k = j
  · subst e
    rw [hk] at e1
    cases e1
    exact ⟨c, by rw [List.getElem?_set_self hl], .inr hc⟩
  · exact ⟨c', by rw [List.getElem?_set_ne e]; exact e1, h1⟩
/-- some row of a lesser part is free -/
theorem some_free {rs : List Row} {free : List Nat} {q : Nat} (nd : free.Nodup) (lt : ∀ k ∈ free, k < rs.length) (cnt : free.length + q = rs.length + 1) (h1 : 1 ≤ q) (hp : ∀ p : Nat, p < q → ∃ (k : Nat) (r : Row), rs[k]? = some r ∧ r.p = p) : ∃ k ∈ free, ∃ r, rs[k]? = some r ∧ r.p < q ∧ 0 ≤ r.p := by
  refine Classical.byContradiction fun hno => ?_
  have hex : ∃ f : Nat → Nat, ∀ p, p < q → ∃ r, rs[f p]? = some r ∧ r.p = (p : Int) :=
    ⟨fun p => if h : p < q then Classical.choose (hp p h) else 0, fun p h => by dsimp only; rw [dif_pos h]; exact Classical.choose_spec (hp p h)⟩
  obtain ⟨f, hf⟩ := hex
  have nd2 : (free ++ (List.range q).map f).Nodup := by
    rw [List.nodup_append]
    refine ⟨nd, ?_, ?_⟩
    · rw [List.nodup_iff_pairwise_ne, List.pairwise_map]
      refine List.Pairwise.imp_of_mem ?_ List.nodup_range
      intro a b ha hb hab e
      rw [List.mem_range] at ha hb
      obtain ⟨r, e1, e2⟩ := hf a ha
      obtain ⟨r', e3, e4⟩ := hf b hb
      rw [e, e3] at e1
      cases e1
      omega
    · intro a ha b hb e
      subst e
      obtain ⟨p, hpq, rfl⟩ := List.mem_map.mp hb
      rw [List.mem_range] at hpq
      obtain ⟨r, e1, e2⟩ := hf p hpq
      exact hno ⟨f p, ha, r, e1, by omega, by omega⟩
  have h2 := nd2.length_le_of_subset (l₂ := List.range rs.length) (by
    intro a ha
    rw [List.mem_range]
    rcases List.mem_append.mp ha with ha | ha
    · exact lt a ha
    · obtain ⟨p, hpq, rfl⟩ := List.mem_map.mp ha
      rw [List.mem_range] at hpq
      obtain ⟨r, e1, e2⟩ := hf p hpq
      exact (List.getElem?_eq_some_iff.mp e1).1)
  rw [List.length_append, List.length_map, List.length_range, List.length_range] at h2
  omega
theorem rgT0 (n : Nat) : rgT 0 (n : Int) = (intsOf (List.range n)).map T.int := by
  unfold rgT intsOf
  rw [List.map_map, show ((n : Int) - 0).toNat = n by omega]
  congr 1
  funext k
  show T.int (0 + (k : Nat)) = T.int (k : Nat)
  rw [Int.zero_add]
theorem eraseIdx_nodup {xs : List Nat} (nd : xs.Nodup) {j k : Nat} (h : xs[j]? = some k) : ∀ x, x ∈ xs.eraseIdx j ↔ x ∈ xs ∧ x ≠ k := by
  intro x
  have hj : j < xs.length := (List.getElem?_eq_some_iff.mp h).1
  constructor
  · intro hx
    obtain ⟨i, hi⟩ := List.getElem?_of_mem hx
    rw [List.getElem?_eraseIdx] at hi
    split at hi
    · refine ⟨List.mem_of_getElem? hi, fun e => ?_⟩
      subst e
      have := nodup_get nd hi h
      omega
    · refine ⟨List.mem_of_getElem? hi, fun e => ?_⟩
      subst e
      have := nodup_get nd hi h
      omega
  · rintro ⟨hx, hne⟩
    obtain ⟨i, hi⟩ := List.getElem?_of_mem hx
    have hij : i ≠ j := fun e => by
      subst e
      rw [h] at hi
      cases hi
      exact hne rfl
    by_cases hlt : i < j
    · refine List.mem_of_getElem? (i := i) ?_
      rw [List.getElem?_eraseIdx, if_pos hlt]
      exact hi
    · refine List.mem_of_getElem? (i := i - 1) ?_
      rw [List.getElem?_eraseIdx, if_neg (by omega), show i - 1 + 1 = i by omega]
      exact hi
theorem Tk.next {parts : Nat} {rs0 rs : List Row} {free : List Nat} {q : Nat} (h : Tk parts rs0 rs free q) {j k : Nat} {r : Row} (hj : free[j]? = some k) (hk : rs[k]? = some r) (hc : r.p < q) (hq : q < parts) : Tk parts rs0 (rs.set k { r with c := q }) (free.eraseIdx j) (q + 1) := by
  have hl : k < rs.length := (List.getElem?_eq_some_iff.mp hk).1
  have hm := eraseIdx_nodup h.nd hj
  have hjl : j < free.length := (List.getElem?_eq_some_iff.mp hj).1
  refine ⟨h.ok.set hk ⟨hc, by omega⟩, h.nd.eraseIdx j, fun x hx => h.lt x ((hm x).mp hx).1, fun x r' hx e => ?_, ?_, fun p h1 h2 => ?_⟩
  · obtain ⟨h3, h4⟩ := (hm x).mp hx
    rw [List.getElem?_set_ne (fun z => h4 z.symm)] at e
    exact h.fr x r' h3 e
  · have := h.cnt
    rw [List.length_eraseIdx_of_lt hjl]
    omega
  · by_cases e : p = q
    · subst e
      exact ⟨k, _, fun z => ((hm k).mp z).2 rfl, List.getElem?_set_self hl, rfl⟩
    · obtain ⟨x, r', h3, h4, h5⟩ := h.got p h1 (by omega)
      have hxk : x ≠ k := fun z => by
        subst z
        exact h3 (List.mem_of_getElem? hj)
      exact ⟨x, r', fun z => h3 ((hm x).mp z).1, by rw [List.getElem?_set_ne (fun z => hxk z.symm)]; exact h4, h5⟩
theorem ups_hs {n0 : Nat} : ∀ (ks : List Nat), (∀ k ∈ ks, k < n0) → ups (List.range n0) (ks.map W.h) = some (ks.map W.h)
  | [], _ => rfl
  | k :: ks, h => by
    have e1 : (W.h k).up (List.range n0) = some (.h k) := by
      unfold W.up
      dsimp only
      rw [List.getElem?_range (h k (by simp))]
    unfold List.map ups
    rw [e1, ups_hs ks fun x hx => h x (by simp [hx])]
theorem hs_map (k n : Nat) : hsFrom k n = ((List.range n).map fun i => k + i).map W.h := by unfold hsFrom; rw [List.map_map]; rfl
theorem ups_hsFrom {n0 k n : Nat} (h : k + n ≤ n0) : ups (List.range n0) (hsFrom k n) = some (hsFrom k n) := by
  rw [hs_map]
  refine ups_hs _ fun x hx => ?_
  obtain ⟨i, hi, rfl⟩ := List.mem_map.mp hx
  rw [List.mem_range] at hi
  omega
theorem cM_start (t : Nat) (c : List Int) (rs : List Row) : (purse t c ++ (Cell.lw (hsFrom 3 rs.length) :: rs.map rowC)).map some = cM t c rs.length rs [] := by
  unfold cM rowsM
  rw [List.append_nil, List.map_append, List.map_cons, List.map_map]
  rfl
theorem cM_app {t : Nat} {c : List Int} {n : Nat} {rs : List Row} {loc : Sto} : cM t c n rs loc = cM t c n rs [] ++ loc := by
  unfold cM
  rw [List.append_nil, List.append_assoc, List.cons_append]
theorem fin_called {QC : W → List Cell → List Cell → Prop} {t : Nat} {c : List Int} {rs : List Row} {loc : Sto} {sl : List (Option W)} {n : Nat} (hn : n = rs.length) (q : QC (.t .non) (purse t c ++ (Cell.lw (hsFrom 3 n) :: rs.map rowC)) []) : FinS (3 + n) QC (.t .non) ⟨sl, cM t c n rs loc⟩ := by
  subst hn
  refine fin_s [] _ [] (.t .non) ?_ ?_ rfl ?_ rfl ?_ q
  · rw [List.append_nil]; exact List.nodup_range
  · intro j hj
    rw [List.append_nil, List.mem_range] at hj
    show j < (cM _ _ _ _ _).length
    rw [cM_len]
    omega
  · show (_ :: _ :: _ :: rs.map rowC).length = _
    simp
    omega
  · intro i c' e
    rw [List.append_nil] at e ⊢
    have hi : i < 3 + rs.length := by
      have := (List.getElem?_eq_some_iff.mp e).1
      have e2 : (purse t c ++ (Cell.lw (hsFrom 3 rs.length) :: rs.map rowC)).length = 3 + rs.length := by
        show (_ :: _ :: _ :: rs.map rowC).length = _
        simp
        omega
      omega
    refine ⟨i, c', by rw [List.getElem?_range hi], ?_, ?_⟩
    · match i, e with
      | 0, e =>
        cases e
        have e1 : (List.range (3 + rs.length))[1]? = some 1 := List.getElem?_range (by omega)
        unfold Cell.up ups W.up
        dsimp only
        rw [e1]
        rfl
      | 1, e => cases e; rfl
      | 2, e =>
        cases e
        unfold Cell.up
        dsimp only
        rw [ups_hsFrom (by omega)]
      | i + 3, e =>
        have e2 : (rs.map rowC)[i]? = some c' := e
        rw [List.getElem?_map] at e2
        cases q2 : rs[i]? with
        | none => rw [q2] at e2; cases e2
        | some r => rw [q2] at e2; cases e2; rfl
    · rw [cM_app, List.getElem?_append_left (by rw [cM_len, List.length_nil]; omega), ← cM_start, List.getElem?_map, e]
      rfl
theorem erase_map {α β : Type} (f : α → β) : ∀ (xs : List α) (j : Nat), (xs.map f).eraseIdx j = (xs.eraseIdx j).map f
  | [], _ => rfl
  | _ :: _, 0 => rfl
  | x :: xs, j + 1 => by
    show f x :: (xs.map f).eraseIdx j = f x :: (xs.eraseIdx j).map f
    rw [erase_map f xs j]
def rowD (rs : List Row) (k : Nat) : Row := rs.getD k row0
theorem rowD_eq {rs : List Row} {k : Nat} {r : Row} (h : rs[k]? = some r) : rowD rs k = r := by
  unfold rowD
  rw [List.getD_eq_getElem?_getD, h]
  rfl
theorem ints_map (xs : List Nat) : ((intsOf xs).map T.int) = xs.map natT := by unfold intsOf; rw [List.map_map]; rfl
theorem atI_nats {xs : List Nat} {j a : Nat} (h : xs[j]? = some a) : atI (xs.map natT) (j : Int) = some (natT a) := atI_map natT (atI_nat h)
theorem rp__law_called : ∀ ws m QC, C__law_called ws m QC → rd__law_called ⟨FinS m.length QC (.t .non), FinS m.length QC, fun _ => False, fun _ => False⟩ ⟨ws.map some ++ List.replicate (9 - ws.length) none, m.map some⟩ := by
  rintro ws m QC ⟨parts, turn, cells, rs, rfl, rfl, h0, h1, h2, h3, h4, h5, hr, hp, hQ⟩
  rw [cM_start]
  have ml : (purse turn cells ++ (Cell.lw (hsFrom 3 rs.length) :: rs.map rowC)).length = 3 + rs.length := by
    show (_ :: _ :: _ :: rs.map rowC).length = _
    simp
    omega
  rw [ml]
  unfold rd__law_called
  walk_at "dl"
  rw [hs_len]
  refine ⟨⟨by decide, by decide, by omega, by omega⟩, ?_⟩
  rw [rgT0, cM_len, cM_push]
  walk_at "dl"
  refine ⟨by omega, ?_⟩
  refine forR (List.range (parts - 1)) (fun k => W.t (.int (1 + (k : Nat)))) (fun i g' => ∃ (rs' : List Row) (free : List Nat) (turn' : Nat) (cells' : List Int) (o4 o5 o6 o7 o8 : Option W),
      g' = ⟨[some (.h 0), some (.h 2), some (.t (.int parts)), some (.h (3 + rs.length)), o4, o5, o6, o7, o8], cM turn' cells' rs.length rs' [some (.lt ((intsOf free).map T.int))]⟩ ∧
      Tk parts rs rs' free (i + 1) ∧ turn' ≤ turn + i ∧ cells'.length = cells.length)
    (by rw [show ((parts : Int) - 1).toNat = parts - 1 by omega]; rfl) ⟨rs, List.range rs.length, turn, cells, none, none, none, none, none, rfl, ⟨calledOk_refl fun r h => (hr r h).2.2, List.nodup_range, fun k hk => by simpa using hk, fun k r _ e => (hr r (List.mem_of_getElem? e)).2.2, by simp, fun p h1 h2 => by omega⟩, by omega, rfl⟩ (fun _ _ _ => trivial) ?_ ?_
  · rintro i k hk g' ⟨rs', free, turn', cells', o4, o5, o6, o7, o8, rfl, hT, ht, hc⟩ N hN
    have hi : i < parts - 1 := by simpa using (List.getElem?_eq_some_iff.mp hk).1
    rw [List.getElem?_range hi] at hk
    cases hk
    have hl : rs'.length = rs.length := hT.ok.1
    have eF : ∀ {t c}, (cM t c rs.length rs' [some (.lt ((intsOf free).map T.int))])[3 + rs.length]? = some (some (.lt ((intsOf free).map T.int))) := by
      intro t c
      rw [← hl]
      exact cM_loc (j := 0)
    walk_at "dl"
    refine o_LqH eF ?_
    refine lcP free (fun k => W.t (natT k)) (fun k => decide ((rowD rs' k).p < 1 + i)) natT (by rw [ints_map, List.map_map]; rfl) (lineLe (by have := hT.cnt; omega)) (lq_h eF) ?_ rfl ?_
    · intro k hk Y N2 hY hN2
      have hk2 : k < rs'.length := by rw [hl]; exact hT.lt k hk
      obtain ⟨r, er⟩ := getLt hk2
      have em := cM_row (t := turn') (c := cells') (n := rs.length) (loc := [some (.lt ((intsOf free).map T.int))]) er
      have hh : atI (hsFrom 3 rs.length) (k : Int) = some (.h (3 + k)) := hs_at (by omega)
      rw [rowD_eq er] at hY hN2
      unfold natT
      unfold rowC at em
      walk_at "dl"
      refine k_d (fun h => ?_) (fun h => ?_)
      · walk_at "dl"
        exact hY (decide_eq_true h) _ rfl
      · exact hN2 (decide_eq_false h) _ rfl
    · have hsome : 0 < (free.filter fun k => decide ((rowD rs' k).p < 1 + i)).length := by
        obtain ⟨k, hk, r, er, hp1, _⟩ := some_free (rs := rs') hT.nd (fun k hk => by rw [hl]; exact hT.lt k hk) (by rw [hl]; exact hT.cnt) (by omega) fun p hpq => by
          obtain ⟨r, hr1, hr2⟩ := hp p (by omega)
          obtain ⟨k, hk⟩ := List.getElem?_of_mem hr1
          obtain ⟨c', e1, _⟩ := hT.ok.2 k r hk
          exact ⟨k, _, e1, hr2⟩
        exact List.length_pos_of_mem (a := k) (List.mem_filter.mpr ⟨hk, decide_eq_true (by rw [rowD_eq er]; omega)⟩)
      have hsl := List.length_filter_le (fun k => decide ((rowD rs' k).p < 1 + i)) free
      have hcnt := hT.cnt
      generalize hL : (free.filter fun k => decide ((rowD rs' k).p < 1 + i)) = L at hsome hsl
      walk_at "dl"
      rw [List.length_map]
      refine callS_drawC (by omega) (by omega) (by omega) (by omega) (by omega) fun r c2 r0 r1 hc2 => ?_
      obtain ⟨j0, rfl⟩ := toI r0
      obtain ⟨k, hk⟩ := getLt (xs := L) (j := j0) (by omega)
      have fk := atI_nats hk
      unfold natT at fk
      have hkm : k ∈ free ∧ decide ((rowD rs' k).p < 1 + i) = true := by
        have := List.mem_of_getElem? hk
        rw [← hL] at this
        exact List.mem_filter.mp this
      have hk2 : k < rs'.length := by rw [hl]; exact hT.lt k hkm.1
      obtain ⟨r, er⟩ := getLt hk2
      have hrp : r.p < 1 + i := by
        have := of_decide_eq_true hkm.2
        rw [rowD_eq er] at this
        exact this
      obtain ⟨j, hj⟩ := List.getElem?_of_mem hkm.1
      have hh : atI (hsFrom 3 rs.length) (k : Int) = some (.h (3 + k)) := hs_at (by omega)
      unfold natT
      walk_at "dl"
      refine o_put (cM_row er) (ixN_nat (n := 4) (k := 3) (by decide)) ?_
      have er2 : (some (Cell.lt ([T.int r.p, T.int r.s, T.int r.e, T.int r.c].set 3 (T.int (1 + i))))) = some (rowC { r with c := 1 + i }) := rfl
      simp only [G.put]
      rw [er2, cM_setRow hk2]
      walk_at "dl"
      have hl3 : (rs'.set k { r with c := 1 + i }).length = rs.length := by rw [List.length_set]; exact hl
      have eF3 : ∀ {t c}, (cM t c rs.length (rs'.set k { r with c := 1 + i }) [some (.lt ((intsOf free).map T.int))])[3 + rs.length]? = some (some (.lt ((intsOf free).map T.int))) := by
        intro t c
        rw [← hl3]
        exact cM_loc (j := 0)
      refine ⟨isL_lt eF3, ?_⟩
      walk_at "dl"
      refine i_remove eF3 (ints_get hj) (intsFirst hT.nd hj) ?_
      have es : ∀ {t c v}, (cM t c rs.length (rs'.set k { r with c := 1 + i }) [some (.lt ((intsOf free).map T.int))]).set (3 + rs.length) v = cM t c rs.length (rs'.set k { r with c := 1 + i }) [v] := by
        intro t c v
        have h9 := cM_setLoc (t := t) (c := c) (n := rs.length) (rs := rs'.set k { r with c := 1 + i }) (loc := [some (.lt ((intsOf free).map T.int))]) (j := 0) (v := v)
        rw [hl3] at h9
        exact h9
      have ei : (intsOf free).eraseIdx j = intsOf (free.eraseIdx j) := by unfold intsOf; exact erase_map _ _ _
      walk_at "dl"
      rw [es, ei]
      have hT2 := hT.next hj er (by omega) (by omega)
      rw [show (((i + 1 : Nat)) : Int) = 1 + (i : Int) by omega] at hT2
      exact hN _ ⟨_, _, _, _, _, _, _, _, _, rfl, hT2, by omega, by omega⟩
  · rintro g' ⟨rs1, free, turn1, cells1, o4, o5, o6, o7, o8, rfl, hT, ht, hc⟩
    rw [List.length_range] at hT ht
    have hl : rs1.length = rs.length := hT.ok.1
    have eF : ∀ {rs' t c}, rs'.length = rs.length → (cM t c rs.length rs' [some (.lt ((intsOf free).map T.int))])[3 + rs.length]? = some (some (.lt ((intsOf free).map T.int))) := by
      intro rs' t c h
      rw [← h]
      exact cM_loc (j := 0)
    walk_at "dl"
    refine o_LqH (eF hl) ?_
    refine forR free (fun k => W.t (natT k)) (fun i g' => ∃ (rs' : List Row) (turn' : Nat) (cells' : List Int) (o4 o5 o6 o7 o8 : Option W),
        g' = ⟨[some (.h 0), some (.h 2), some (.t (.int parts)), some (.h (3 + rs.length)), o4, o5, o6, o7, o8], cM turn' cells' rs.length rs' [some (.lt ((intsOf free).map T.int))]⟩ ∧
        CalledOk parts rs rs' ∧ (∀ p : Nat, 1 ≤ p → p < parts → ∃ (k : Nat) (r : Row), k ∉ free ∧ rs'[k]? = some r ∧ r.c = p) ∧ turn' ≤ turn1 + i ∧ cells'.length = cells.length)
      (by rw [ints_map, List.map_map]; rfl) ⟨rs1, turn1, cells1, o4, o5, o6, o7, o8, rfl, hT.ok, fun p a b => hT.got p a (by omega), by omega, hc⟩ ?_ ?_ ?_
    · rintro i g ⟨rs', turn', cells', o4, o5, o6, o7, o8, rfl, hO, _⟩
      exact lq_h (eF hO.1)
    · rintro i k hk g' ⟨rs', turn', cells', o4, o5, o6, o7, o8, rfl, hO, hgot, ht2, hc2⟩ N hN
      have hkm : k ∈ free := List.mem_of_getElem? hk
      have hi : i < free.length := (List.getElem?_eq_some_iff.mp hk).1
      have hcnt := hT.cnt
      have hk2 : k < rs'.length := by rw [hO.1]; exact hT.lt k hkm
      obtain ⟨r0, r, er0, er, ep, es, ee⟩ := hO.at (hT.lt k hkm)
      have hr0 := hr r0 (List.mem_of_getElem? er0)
      have em : ∀ {t c}, (cM t c rs.length rs' [some (.lt ((intsOf free).map T.int))])[3 + k]? = some (some (.lt [.int r.p, .int r.s, .int r.e, .int r.c])) := cM_row er
      have hh : atI (hsFrom 3 rs.length) (k : Int) = some (.h (3 + k)) := hs_at (by rw [← hO.1]; exact hk2)
      unfold natT
      walk_at "dl"
      refine i_ixHT em rfl ?_
      walk_at "dl"
      refine i_fI (mulR (by omega) (by omega)) ?_
      walk_at "dl"
      refine callS_drawC (by omega) (by omega) (by omega) (by omega) (by omega) fun x c2 r1 r2 hc3 => ?_
      walk_at "dl"
      refine k_d (fun h => ?_) (fun h => ?_)
      · walk_at "dl"
        refine i_ixHT em rfl ?_
        walk_at "dl"
        refine o_put em (ixN_nat (n := 4) (k := 3) (by decide)) ?_
        have er2 : (some (Cell.lt ([T.int r.p, T.int r.s, T.int r.e, T.int r.c].set 3 (T.int (r.p + 1 + x))))) = some (rowC { r with c := r.p + 1 + x }) := rfl
        simp only [G.put]
        rw [er2, cM_setRow hk2]
        refine hN _ ⟨_, _, _, _, _, _, _, _, rfl, hO.set er ⟨by omega, by omega⟩, fun p a b => ?_, by omega, by omega⟩
        obtain ⟨k', r', h1, h2, h3⟩ := hgot p a b
        exact ⟨k', r', h1, by rw [List.getElem?_set_ne (fun z => h1 (by subst z; exact hkm))]; exact h2, h3⟩
      · walk_at "dl"
        exact hN _ ⟨_, _, _, _, _, _, _, _, rfl, hO, hgot, by omega, by omega⟩
    · rintro g' ⟨rs', turn', cells', o4, o5, o6, o7, o8, rfl, hO, hgot, ht2, hc2⟩
      refine fin_called hO.1.symm (hQ rs' turn' cells' hO (fun q a b => ?_) (by have := hT.cnt; omega) hc2)
      obtain ⟨k, r, _, h2, h3⟩ := hgot q a b
      exact ⟨r, List.mem_of_getElem? h2, h3⟩

end DL

namespace DL
open PySem PySem.Spec L2
local macro_rules | `(tactic| walk_at "dn") => `(tactic| simp only [purse_set2, purse_set3, purse_set4, purse_set5, purse_app, purse_len, purse_start, purse_l, G.set, G.put, G.push, G.wipe, wipeW, G.rs, rsW, List.set_cons_zero, List.set_cons_succ, List.map_cons, List.map_nil, List.length_cons, List.length_nil, List.nil_append, List.cons_append, List.replicate_succ, List.replicate_zero, Nat.reduceAdd, Nat.reduceSub, List.getD_cons_zero, List.getD_cons_succ, Option.getD_some, Option.getD_none])
local macro_rules | `(tactic| walk_at "d1") => `(tactic| first
  | with_reducible refine i_seq ?_
  | with_reducible refine i_asg ?_
  | with_reducible refine i_d2 ?_
  | ((with_reducible refine' i_var ?e ?_); (case e => rfl))
  | with_reducible refine i_c ?_
  | ((with_reducible refine' i_ix ?e ?v ?_); (case e => rfl); (case v => first | assumption | rfl))
  | with_reducible refine i_fI0 ?_
  | with_reducible refine i_gN ?_
  | with_reducible refine i_cons ?_
  | with_reducible refine i_nil ?_
  | with_reducible refine i_dN ?_
  | ((with_reducible refine' i_len ?e ?_); (case e => rfl))
  | with_reducible refine i_d1 ?_
  | with_reducible refine i_neg ?_
  | with_reducible refine i_B ?_
  | with_reducible refine o_B ?_
  | with_reducible refine o_I ?_
  | with_reducible refine i_ifS ?_
  | with_reducible refine i_or ?_
  | with_reducible refine i_and ?_
  | with_reducible refine i_not ?_
  | with_reducible refine i_andV ?_
  | with_reducible refine i_orV ?_
  | with_reducible refine i_notV ?_
  | with_reducible refine i_if ?_
  | with_reducible refine i_yes ?_
  | with_reducible refine k_T ?_
  | with_reducible refine k_F ?_
  | with_reducible refine k_True ?_
  | with_reducible refine k_False ?_
  | with_reducible refine i_eqI ?_
  | with_reducible refine i_neI ?_
  | with_reducible refine i_addI ?_
  | with_reducible refine i_addHI ?_
  | with_reducible refine i_callT ?_
  | with_reducible refine i_callH ?_
  | ((with_reducible refine' o_Ts ?e ?_); (case e => rfl))
  | with_reducible refine o_T ?_
  | ((with_reducible refine' o_TF ?e ?_); (case e => rfl))
  | with_reducible refine o_H ?_
  | ((with_reducible refine' o_HF ?e ?_); (case e => rfl))
  | with_reducible refine i_next ?_
  | with_reducible refine i_drop ?_
  | with_reducible refine i_ret ?_
  | with_reducible refine i_retN ?_
  | ((with_reducible refine' i_gTup ?e ?_); (case e => rfl))
  | with_reducible refine i_gCons ?_
  | with_reducible refine i_gNil ?_
  | with_reducible refine i_min2 ?_
  | with_reducible refine i_max2 ?_
  | with_reducible refine i_par ?_
  | with_reducible refine o_W2 ?_
  | ((with_reducible refine' i_aug ?e ?_); (case e => rfl))
  | with_reducible refine i_intI ?_
  | with_reducible refine i_intB ?_
  | with_reducible refine i_lc ?_
  | with_reducible refine i_for ?_
  | with_reducible refine i_while ?_
  | with_reducible refine i_itL ?_
  | ((with_reducible refine' o_Lq ?e ?_); (case e => rfl))
  | with_reducible refine i_itR1 ?_
  | with_reducible refine i_itR2 ?_
  | with_reducible refine o_I1 ?_
  | with_reducible refine o_I2 ?_
  | with_reducible refine e_t ?_
  | ((with_reducible refine' e_h ?e ?p ?_); (case e => rfl); (case p => rfl))
  | with_reducible refine i_M ?_
  | with_reducible refine i_M0 ?_
  | with_reducible refine i_gSub ?_
  | with_reducible refine i_finH ?_
  | with_reducible refine i_finT ?_
  | with_reducible refine i_sl ?_
  | with_reducible refine i_slH ?_
  | with_reducible refine i_slT ?_
  | with_reducible refine i_noPart ?_
  | with_reducible refine i_part ?_
  | ((with_reducible refine' i_frzT ?e ?_); (case e => rfl))
  | ((with_reducible refine' i_frzH ?e ?m ?t ?_); (case e => rfl); (case m => rfl); (case t => rfl))
  | ((with_reducible refine' i_din ?k ?e ?_); (case k => rfl); (case e => rfl))
  | ((with_reducible refine' i_dnotin ?k ?e ?_); (case k => rfl); (case e => rfl))
  | with_reducible refine i_dput ?_
  | with_reducible refine i_newD ?_
  | with_reducible refine i_lstH ?_
  | with_reducible refine i_lst ?_
  | with_reducible refine i_tup ?_
  | with_reducible refine i_break ?_
  | with_reducible refine i_cont ?_
  | with_reducible refine i_callS ?_
  | ((with_reducible refine' i_ixHW ?e ?v ?_); (case e => first | rfl | assumption); (case v => first | assumption | rfl))
  | ((with_reducible refine' i_ixHT ?e ?v ?_); (case e => first | rfl | assumption); (case v => first | assumption | rfl))
  | ((with_reducible refine' i_lenHT ?e ?_); (case e => first | rfl | assumption))
  | ((with_reducible refine' i_lenHW ?e ?_); (case e => first | rfl | assumption))
  | ((with_reducible refine' i_frzH ?e ?m ?t ?_); (case e => rfl); (case m => rfl); (case t => rfl))
  | ((with_reducible refine' i_unw ?e ?n ?_); (case e => rfl); (case n => rfl))
  | with_reducible refine i_gwCons ?_
  | with_reducible refine i_gwNil ?_
  | with_reducible refine i_lstW ?_
  | ((with_reducible refine' i_gList ?e ?n ?_); (case e => rfl); (case n => rfl))
  | with_reducible refine i_listRgH ?_
  | with_reducible refine i_listRg ?_
  | with_reducible refine i_R1 ?_
  | with_reducible refine i_getD ?_
  | ((with_reducible refine' i_none ?k ?_); (case k => rfl))
  | walk_at "dn")
local macro_rules | `(tactic| walk_at "dl") => `(tactic| ((try walk_at "dn"); repeat walk_at "d1"))
/-! the web that is built: plain math -/
def rowOf (p : Nat) (ab : Nat × Nat) : Row := ⟨p, ab.1, ab.2, -1⟩
structure PW (loose : Bool) (i : Nat) (N : Nat → Nat) (E : Nat → List (Nat × Nat)) (rs : List Row) : Prop where
  sp : ∀ p, p < i → PartSpec loose (N p) (E p) ∧ 1 ≤ (E p).length
  mem : ∀ r, r ∈ rs ↔ ∃ p, p < i ∧ ∃ ab ∈ E p, r = rowOf p ab
def updF {α : Type} (f : Nat → α) (i : Nat) (x : α) : Nat → α := fun p => if p = i then x else f p
theorem updF_eq {α : Type} (f : Nat → α) (i : Nat) (x : α) : updF f i x i = x := if_pos rfl
theorem updF_ne {α : Type} (f : Nat → α) (i : Nat) (x : α) {p : Nat} (h : p ≠ i) : updF f i x p = f p := if_neg h
theorem PW.next {loose : Bool} {i : Nat} {N : Nat → Nat} {E : Nat → List (Nat × Nat)} {rs : List Row} (h : PW loose i N E rs) {n : Nat} {e : List (Nat × Nat)} (hs : PartSpec loose n e) (he : 1 ≤ e.length) :
    PW loose (i + 1) (updF N i n) (updF E i e) (rs ++ e.map (rowOf i)) := by
  refine ⟨fun p hp => ?_, fun r => ?_⟩
  · by_cases q : p = i
    · subst q; rw [updF_eq, updF_eq]; exact ⟨hs, he⟩
    · rw [updF_ne _ _ _ q, updF_ne _ _ _ q]; exact h.sp p (by omega)
  · rw [List.mem_append, h.mem, List.mem_map]
    constructor
    · rintro (⟨p, hp, ab, ha, rfl⟩ | ⟨ab, ha, rfl⟩)
      · exact ⟨p, by omega, ab, by rw [updF_ne _ _ _ (by omega)]; exact ha, rfl⟩
      · exact ⟨i, by omega, ab, by rw [updF_eq]; exact ha, rfl⟩
    · rintro ⟨p, hp, ab, ha, rfl⟩
      by_cases q : p = i
      · subst q; rw [updF_eq] at ha; exact .inr ⟨ab, ha, rfl⟩
      · rw [updF_ne _ _ _ q] at ha; exact .inl ⟨p, by omega, ab, ha, rfl⟩
theorem range_upd {i n : Nat} {N : Nat → Nat} : (List.range (i + 1)).map (updF N i n) = (List.range i).map N ++ [n] := by
  rw [List.range_succ, List.map_append]
  congr 1
  · refine List.map_congr_left fun p hp => updF_ne _ _ _ ?_
    rw [List.mem_range] at hp
    omega
  · show [updF N i n i] = [n]
    rw [updF_eq]
theorem Reach.trans {E : List (Int × Int)} {a b c : Int} (h : Reach E a b) (k : Reach E b c) : Reach E a c := by
  induction k with
  | refl => exact h
  | step _ e ih => exact .step ih e
theorem pth_fw {E : List (Nat × Nat)} {F : List (Int × Int)} (h : ∀ ab ∈ E, ((ab.1 : Int), (ab.2 : Int)) ∈ F) {a b : Nat} (p : Pth E a b) : Reach F a b := by
  induction p with
  | refl => exact .refl
  | step _ e ih => exact .step ih (h _ e)
theorem pth_bw {E : List (Nat × Nat)} {F : List (Int × Int)} (h : ∀ ab ∈ E, ((ab.2 : Int), (ab.1 : Int)) ∈ F) {a b : Nat} (p : Pth E a b) : Reach F b a := by
  induction p with
  | refl => exact .refl
  | step _ e ih => exact Reach.trans (.step .refl (h _ e)) ih
def Web.Asc (w : Web) : Prop := ∀ p : Nat, p < w.places.length → ∃ f : Int → Nat, ∀ r ∈ w.rows, r.p = p → f r.s < f r.e
def placesOf (i : Nat) (N : Nat → Nat) : List Int := (List.range i).map fun p => ((N p : Nat) : Int)
theorem edge_mem {w : Web} {p : Int} {tn : Bool} {r : Row} (hr : r ∈ w.rows) (hp : r.p = p) : (if tn = true then (r.e, r.s) else (r.s, r.e)) ∈ w.edges p tn := by
  obtain ⟨k, hk⟩ := List.getElem?_of_mem hr
  have hkl : k < w.rows.length := (List.getElem?_eq_some_iff.mp hk).1
  have hw : w.row k = r := by
    unfold Web.row
    rw [List.getD_eq_getElem?_getD, hk]
    rfl
  unfold Web.edges
  rw [List.mem_map]
  refine ⟨k, ?_, by unfold Web.edge; rw [hw]⟩
  unfold Web.rowsOf
  rw [List.mem_filter, List.mem_range]
  exact ⟨hkl, decide_eq_true (by rw [hw]; exact hp)⟩
theorem web_ok {loose : Bool} {parts : Nat} {N : Nat → Nat} {E : Nat → List (Nat × Nat)} {rs rs' rows : List Row} (h : PW loose parts N E rs) (hp1 : 1 ≤ parts) (hp4 : parts ≤ 4) (hl : rs.length ≤ 60) (hc : CalledOk parts rs rs')
    (hq : ∀ q : Nat, 1 ≤ q → q < parts → ∃ r ∈ rs', r.c = q) (hm : ∀ r, r ∈ rows ↔ r ∈ rs') (hrl : rows.length = rs'.length) : (⟨placesOf parts N, rows⟩ : Web).Ok ∧ (loose = true → (⟨placesOf parts N, rows⟩ : Web).Asc) := by
  have hrow : ∀ r ∈ rows, ∃ p, p < parts ∧ ∃ ab ∈ E p, r.p = p ∧ r.s = ab.1 ∧ r.e = ab.2 ∧ (r.c = -1 ∨ (r.p < r.c ∧ r.c < parts)) := by
    intro r hr
    obtain ⟨k, hk⟩ := List.getElem?_of_mem ((hm r).mp hr)
    have hk2 : k < rs.length := by rw [← hc.1]; exact (List.getElem?_eq_some_iff.mp hk).1
    obtain ⟨r0, e0⟩ := getLt hk2
    obtain ⟨c', e1, h1⟩ := hc.2 k r0 e0
    rw [hk] at e1
    cases e1
    obtain ⟨p, hp, ab, hab, rfl⟩ := (h.mem r0).mp (List.mem_of_getElem? e0)
    exact ⟨p, hp, ab, hab, rfl, rfl, rfl, h1⟩
  have hback : ∀ p, p < parts → ∀ ab ∈ E p, ∃ r ∈ rows, r.p = p ∧ r.s = ab.1 ∧ r.e = ab.2 := by
    intro p hp ab hab
    obtain ⟨k, hk⟩ := List.getElem?_of_mem ((h.mem (rowOf p ab)).mpr ⟨p, hp, ab, hab, rfl⟩)
    obtain ⟨c', e1, _⟩ := hc.2 k _ hk
    exact ⟨_, (hm _).mpr (List.mem_of_getElem? e1), rfl, rfl, rfl⟩
  have hpl : (placesOf parts N).length = parts := by unfold placesOf; rw [List.length_map, List.length_range]
  have hplace : ∀ {rows : List Row} (p : Nat), p < parts → (⟨placesOf parts N, rows⟩ : Web).place (p : Int) = N p := by
    intro rows p hp
    unfold Web.place placesOf
    rw [Int.toNat_natCast, List.getD_eq_getElem?_getD, List.getElem?_map, List.getElem?_range hp]
    rfl
  refine ⟨⟨⟨by show 1 ≤ (placesOf parts N).length; omega, by show (placesOf parts N).length ≤ 4; omega, ?_, by show rows.length ≤ 60; rw [hrl, hc.1]; exact hl⟩, ?_, ?_, ?_⟩, ?_⟩
  · obtain ⟨_, h1⟩ := h.sp 0 (by omega)
    obtain ⟨ab, hab⟩ := getLt (xs := E 0) (j := 0) (by omega)
    obtain ⟨r, hr, _⟩ := hback 0 (by omega) ab (List.mem_of_getElem? hab)
    exact List.length_pos_of_mem hr
  · intro x hx
    obtain ⟨p, hp, rfl⟩ := List.mem_map.mp (show x ∈ placesOf parts N from hx)
    rw [List.mem_range] at hp
    have hs := (h.sp p hp).1
    have := hs.lo
    have := hs.hi
    omega
  · intro r hr
    obtain ⟨p, hp, ab, hab, e1, e2, e3, e4⟩ := hrow r hr
    have hs := (h.sp p hp).1
    have hin := hs.inr ab hab
    unfold Web.rowOk
    rw [e1, hplace p hp]
    have hpl2 : ((⟨placesOf parts N, rows⟩ : Web).places.length) = parts := hpl
    rw [hpl2]
    refine ⟨by omega, by omega, by omega, by omega, by omega, by omega, by omega, by omega, by omega⟩
  · intro p hp
    have hp : p < parts := by rw [← hpl]; exact hp
    have hs := (h.sp p hp).1
    refine ⟨fun q h0 h1 => ?_, fun h0 => ?_⟩
    · rw [hplace p hp] at h1
      obtain ⟨q, rfl⟩ := toI h0
      refine ⟨pth_fw (E := E p) (fun ab hab => ?_) (hs.fw q (by omega)), pth_bw (E := E p) (fun ab hab => ?_) (hs.bw q (by omega))⟩
      · obtain ⟨r, hr, e1, e2, e3⟩ := hback p hp ab hab
        have := edge_mem (w := ⟨placesOf parts N, rows⟩) (tn := false) hr e1
        rw [e2, e3] at this
        exact this
      · obtain ⟨r, hr, e1, e2, e3⟩ := hback p hp ab hab
        have := edge_mem (w := ⟨placesOf parts N, rows⟩) (tn := true) hr e1
        rw [e2, e3] at this
        exact this
    · obtain ⟨r, hr, e⟩ := hq p (by omega) hp
      exact ⟨r, (hm r).mpr hr, e⟩
  · intro hlo p hp
    have hp : p < parts := by rw [← hpl]; exact hp
    obtain ⟨f, hf⟩ := (h.sp p hp).1.asc hlo
    refine ⟨fun x => f x.toNat, fun r hr e => ?_⟩
    obtain ⟨p', hp', ab, hab, e1, e2, e3, _⟩ := hrow r hr
    have : p' = p := by omega
    subst this
    show f r.s.toNat < f r.e.toNat
    rw [e2, e3, Int.toNat_natCast, Int.toNat_natCast]
    exact hf ab hab

end DL

namespace DL
open PySem PySem.Spec L2
local macro_rules | `(tactic| walk_at "dn") => `(tactic| simp only [purse_set2, purse_set3, purse_set4, purse_set5, purse_app, purse_len, purse_start, purse_l, G.set, G.put, G.push, G.wipe, wipeW, G.rs, rsW, List.set_cons_zero, List.set_cons_succ, List.map_cons, List.map_nil, List.length_cons, List.length_nil, List.nil_append, List.cons_append, List.replicate_succ, List.replicate_zero, Nat.reduceAdd, Nat.reduceSub, List.getD_cons_zero, List.getD_cons_succ, Option.getD_some, Option.getD_none])
local macro_rules | `(tactic| walk_at "d1") => `(tactic| first
  | with_reducible refine i_seq ?_
  | with_reducible refine i_asg ?_
  | with_reducible refine i_d2 ?_
  | ((with_reducible refine' i_var ?e ?_); (case e => rfl))
  | with_reducible refine i_c ?_
  | ((with_reducible refine' i_ix ?e ?v ?_); (case e => rfl); (case v => first | assumption | rfl))
  | with_reducible refine i_fI0 ?_
  | with_reducible refine i_gN ?_
  | with_reducible refine i_cons ?_
  | with_reducible refine i_nil ?_
  | with_reducible refine i_dN ?_
  | ((with_reducible refine' i_len ?e ?_); (case e => rfl))
  | with_reducible refine i_d1 ?_
  | with_reducible refine i_neg ?_
  | with_reducible refine i_B ?_
  | with_reducible refine o_B ?_
  | with_reducible refine o_I ?_
  | with_reducible refine i_ifS ?_
  | with_reducible refine i_or ?_
  | with_reducible refine i_and ?_
  | with_reducible refine i_not ?_
  | with_reducible refine i_andV ?_
  | with_reducible refine i_orV ?_
  | with_reducible refine i_notV ?_
  | with_reducible refine i_if ?_
  | with_reducible refine i_yes ?_
  | with_reducible refine k_T ?_
  | with_reducible refine k_F ?_
  | with_reducible refine k_True ?_
  | with_reducible refine k_False ?_
  | with_reducible refine i_eqI ?_
  | with_reducible refine i_neI ?_
  | with_reducible refine i_addI ?_
  | with_reducible refine i_addHI ?_
  | with_reducible refine i_callT ?_
  | with_reducible refine i_callH ?_
  | ((with_reducible refine' o_Ts ?e ?_); (case e => rfl))
  | with_reducible refine o_T ?_
  | ((with_reducible refine' o_TF ?e ?_); (case e => rfl))
  | with_reducible refine o_H ?_
  | ((with_reducible refine' o_HF ?e ?_); (case e => rfl))
  | with_reducible refine i_next ?_
  | with_reducible refine i_drop ?_
  | with_reducible refine i_ret ?_
  | with_reducible refine i_retN ?_
  | ((with_reducible refine' i_gTup ?e ?_); (case e => rfl))
  | with_reducible refine i_gCons ?_
  | with_reducible refine i_gNil ?_
  | with_reducible refine i_min2 ?_
  | with_reducible refine i_max2 ?_
  | with_reducible refine i_par ?_
  | with_reducible refine o_W2 ?_
  | ((with_reducible refine' i_aug ?e ?_); (case e => rfl))
  | with_reducible refine i_intI ?_
  | with_reducible refine i_intB ?_
  | with_reducible refine i_lc ?_
  | with_reducible refine i_for ?_
  | with_reducible refine i_while ?_
  | with_reducible refine i_itL ?_
  | ((with_reducible refine' o_Lq ?e ?_); (case e => rfl))
  | with_reducible refine i_itR1 ?_
  | with_reducible refine i_itR2 ?_
  | with_reducible refine o_I1 ?_
  | with_reducible refine o_I2 ?_
  | with_reducible refine e_t ?_
  | ((with_reducible refine' e_h ?e ?p ?_); (case e => rfl); (case p => rfl))
  | with_reducible refine i_M ?_
  | with_reducible refine i_M0 ?_
  | with_reducible refine i_gSub ?_
  | with_reducible refine i_finH ?_
  | with_reducible refine i_finT ?_
  | with_reducible refine i_sl ?_
  | with_reducible refine i_slH ?_
  | with_reducible refine i_slT ?_
  | with_reducible refine i_noPart ?_
  | with_reducible refine i_part ?_
  | ((with_reducible refine' i_frzT ?e ?_); (case e => rfl))
  | ((with_reducible refine' i_frzH ?e ?m ?t ?_); (case e => rfl); (case m => rfl); (case t => rfl))
  | ((with_reducible refine' i_din ?k ?e ?_); (case k => rfl); (case e => rfl))
  | ((with_reducible refine' i_dnotin ?k ?e ?_); (case k => rfl); (case e => rfl))
  | with_reducible refine i_dput ?_
  | with_reducible refine i_newD ?_
  | with_reducible refine i_lstH ?_
  | with_reducible refine i_lst ?_
  | with_reducible refine i_tup ?_
  | with_reducible refine i_break ?_
  | with_reducible refine i_cont ?_
  | with_reducible refine i_callS ?_
  | ((with_reducible refine' i_ixHW ?e ?v ?_); (case e => first | rfl | assumption); (case v => first | assumption | rfl))
  | ((with_reducible refine' i_ixHT ?e ?v ?_); (case e => first | rfl | assumption); (case v => first | assumption | rfl))
  | ((with_reducible refine' i_lenHT ?e ?_); (case e => first | rfl | assumption))
  | ((with_reducible refine' i_lenHW ?e ?_); (case e => first | rfl | assumption))
  | ((with_reducible refine' i_frzH ?e ?m ?t ?_); (case e => rfl); (case m => rfl); (case t => rfl))
  | ((with_reducible refine' i_unw ?e ?n ?_); (case e => rfl); (case n => rfl))
  | with_reducible refine i_gwCons ?_
  | with_reducible refine i_gwNil ?_
  | with_reducible refine i_lstW ?_
  | ((with_reducible refine' i_gList ?e ?n ?_); (case e => rfl); (case n => rfl))
  | with_reducible refine i_listRgH ?_
  | with_reducible refine i_listRg ?_
  | with_reducible refine i_R1 ?_
  | with_reducible refine i_getD ?_
  | ((with_reducible refine' i_none ?k ?_); (case k => rfl))
  | walk_at "dn")
local macro_rules | `(tactic| walk_at "dl") => `(tactic| ((try walk_at "dn"); repeat walk_at "d1"))
/-! the web that is built: the walk -/
def hW (hs : List Nat) : List W := hs.map fun k => W.h (k + 3)
structure Rw (loc : Sto) (hs : List Nat) (rs : List Row) : Prop where
  len : hs.length = rs.length
  nd : hs.Nodup
  get : ∀ (i k : Nat) (r : Row), hs[i]? = some k → rs[i]? = some r → loc[k]? = some (some (rowC r))
theorem hW_at {hs : List Nat} {i k : Nat} (h : hs[i]? = some k) : atI (hW hs) (i : Int) = some (.h (k + 3)) := atI_map (fun k => W.h (k + 3)) (atI_nat h)
theorem hW_len (hs : List Nat) : (hW hs).length = hs.length := by unfold hW; rw [List.length_map]
theorem Rw.lt {loc : Sto} {hs : List Nat} {rs : List Row} (h : Rw loc hs rs) : ∀ k ∈ hs, k < loc.length := by
  intro k hk
  obtain ⟨i, hi⟩ := List.getElem?_of_mem hk
  have hil : i < rs.length := by rw [← h.len]; exact (List.getElem?_eq_some_iff.mp hi).1
  obtain ⟨r, er⟩ := getLt hil
  exact (List.getElem?_eq_some_iff.mp (h.get i k r hi er)).1
theorem Rw.notin {loc : Sto} {hs : List Nat} {rs : List Row} (h : Rw loc hs rs) {n : Nat} {ws : List W} (e : loc[n]? = some (some (.lw ws))) : n ∉ hs := by
  intro hk
  obtain ⟨i, hi⟩ := List.getElem?_of_mem hk
  have hil : i < rs.length := by rw [← h.len]; exact (List.getElem?_eq_some_iff.mp hi).1
  obtain ⟨r, er⟩ := getLt hil
  have := h.get i n r hi er
  rw [e] at this
  cases this
/-- more cells behind -/
theorem Rw.more {loc : Sto} {hs : List Nat} {rs : List Row} (h : Rw loc hs rs) {α : Type} (f : α → Row) (xs : List α) (l2 : Sto) : Rw (loc ++ xs.map (fun x => some (rowC (f x))) ++ l2) (hs ++ (List.range xs.length).map fun j => loc.length + j) (rs ++ xs.map f) := by
  refine ⟨?_, ?_, fun i k r h1 h2 => ?_⟩
  · rw [List.length_append, List.length_append, h.len, List.length_map, List.length_map, List.length_range]
  · rw [List.nodup_append]
    refine ⟨h.nd, ?_, ?_⟩
    · rw [List.nodup_iff_pairwise_ne, List.pairwise_map]
      exact List.Pairwise.imp (fun hab e => hab (by omega)) List.nodup_range
    · intro a ha b hb e
      subst e
      have := h.lt a ha
      obtain ⟨j, hj, rfl⟩ := List.mem_map.mp hb
      omega
  · by_cases hi : i < hs.length
    · rw [List.getElem?_append_left hi] at h1
      rw [List.getElem?_append_left (by rw [← h.len]; exact hi)] at h2
      have q := h.get i k r h1 h2
      have hk := h.lt k (List.mem_of_getElem? h1)
      rw [List.append_assoc, List.getElem?_append_left hk]
      exact q
    · rw [List.getElem?_append_right (by omega), List.getElem?_map] at h1
      rw [List.getElem?_append_right (by rw [← h.len]; omega), List.getElem?_map, ← h.len] at h2
      cases q : xs[i - hs.length]? with
      | none => rw [q] at h2; cases h2
      | some x =>
        rw [q] at h2
        cases h2
        have hx : i - hs.length < xs.length := (List.getElem?_eq_some_iff.mp q).1
        rw [List.getElem?_range hx] at h1
        cases h1
        show (loc ++ xs.map (fun x => some (rowC (f x))) ++ l2)[loc.length + (i - hs.length)]? = _
        rw [List.append_assoc, List.getElem?_append_right (by omega), show loc.length + (i - hs.length) - loc.length = i - hs.length by omega, List.getElem?_append_left (by rw [List.length_map]; exact hx), List.getElem?_map, q]
        rfl
theorem setAll_shift (t : Nat) (c : List Int) (pl : Option Cell) (loc : Sto) : ∀ (hs : List Nat) (cs : List Cell), setAll (purseM t c ++ (pl :: loc)) (hs.map (· + 3)) cs = purseM t c ++ (pl :: setAll loc hs cs)
  | [], _ => by unfold setAll; rfl
  | _ :: _, [] => by unfold setAll; rfl
  | k :: hs, x :: cs => by
    show (setAll (purseM t c ++ (pl :: loc)) (hs.map (· + 3)) cs).set (k + 3) (some x) = purseM t c ++ (pl :: (setAll loc hs cs).set k (some x))
    rw [setAll_shift t c pl loc hs cs]
    rfl
theorem cups_rows (r : List Nat) : ∀ rs : List Row, cups r (rs.map rowC) = some (rs.map rowC)
  | [] => rfl
  | x :: rs => by
    have e : (rowC x).up r = some (rowC x) := rfl
    unfold List.map cups
    rw [e, cups_rows r rs]
theorem ups_gen {r : List Nat} (f : Nat → Nat) : ∀ ks : List Nat, (∀ k ∈ ks, r[k]? = some (f k)) → ups r (ks.map W.h) = some (ks.map fun k => W.h (f k))
  | [], _ => rfl
  | k :: ks, h => by
    have e : (W.h k).up r = some (.h (f k)) := by
      unfold W.up
      dsimp only
      rw [h k (by simp)]
    unfold List.map ups
    rw [e, ups_gen f ks fun x hx => h x (by simp [hx])]
theorem ups_called (hr : Nat) (hs : List Nat) : ups (0 :: 1 :: (hr + 3) :: hs.map (· + 3)) (hsFrom 3 hs.length) = some (hW hs) := by
  rw [hs_map, ups_gen (fun k => hs.getD (k - 3) 0 + 3)]
  · congr 1
    unfold hW
    refine List.ext_getElem? fun i => ?_
    rw [List.getElem?_map, List.getElem?_map, List.getElem?_map]
    by_cases hi : i < hs.length
    · rw [List.getElem?_range hi, List.getElem?_eq_getElem hi]
      show some (W.h (hs.getD (3 + i - 3) 0 + 3)) = some (W.h (hs[i] + 3))
      rw [show 3 + i - 3 = i by omega, List.getD_eq_getElem?_getD, List.getElem?_eq_getElem hi]
      rfl
    · rw [List.getElem?_eq_none (by rw [List.length_range]; omega), List.getElem?_eq_none (by omega)]
      rfl
  · intro k hk
    obtain ⟨i, hi, rfl⟩ := List.mem_map.mp hk
    rw [List.mem_range] at hi
    rw [show 3 + i = i + 3 by omega, List.getElem?_cons_succ, List.getElem?_cons_succ, List.getElem?_cons_succ, List.getElem?_map, show i + 3 - 3 = i by omega, List.getD_eq_getElem?_getD, List.getElem?_eq_getElem hi]
    rfl
theorem purse_up {r : List Nat} {t : Nat} {c : List Int} (h : r[1]? = some 1) : (Cell.lw [.h 1, .t (.int t)]).up r = some (.lw [.h 1, .t (.int t)]) := by
  unfold Cell.up ups W.up
  dsimp only
  rw [h]
  rfl
theorem callS_called {t : Nat} {c : List Int} {pl : Option Cell} {loc : Sto} {hs : List Nat} {rs : List Row} {hr parts : Nat} {sl : List (Option W)} {Q : W → G → Prop} (hRw : Rw loc hs rs) (e : loc[hr]? = some (some (.lw (hW hs))))
    (h0 : 0 < c.length) (h1 : c.length ≤ 1000) (h2 : 1 ≤ parts) (h3 : parts ≤ 4) (h4 : rs.length ≤ 60) (h5 : t + 100 ≤ 100000) (hrp : ∀ r ∈ rs, 0 ≤ r.p ∧ r.p < parts ∧ r.c = -1) (hp : ∀ q : Nat, q < parts → ∃ r ∈ rs, r.p = q)
    (h : ∀ (rs' : List Row) (t' : Nat) (c' : List Int) (loc' : Sto), CalledOk parts rs rs' → (∀ q : Nat, 1 ≤ q → q < parts → ∃ r ∈ rs', r.c = q) → t' ≤ t + 100 → c'.length = c.length → Rw loc' hs rs' → loc'[hr]? = some (some (.lw (hW hs))) → loc'.length = loc.length →
      Q (.t .non) ⟨sl, purseM t' c' ++ (pl :: loc')⟩) : callS C__law_called [.h 0, .h (hr + 3), .t (.int parts)] ⟨sl, purseM t c ++ (pl :: loc)⟩ Q := by
  have hn := hRw.notin e
  have er1 : (0 :: 1 :: (hr + 3) :: hs.map (· + 3))[1]? = some 1 := rfl
  refine ⟨0 :: 1 :: (hr + 3) :: hs.map (· + 3), purse t c ++ (.lw (hsFrom 3 rs.length) :: rs.map rowC), [.h 0, .h 2, .t (.int parts)], ?_, ?_, rfl, fun i x ex => ?_, parts, t, c, rs, rfl, rfl, h0, h1, h2, h3, h4, h5, hrp, hp, fun rs' t' c' hO hq ht hc => ⟨.t .non, purse t' c' ++ (.lw (hW hs) :: rs'.map rowC), [], rfl, ?_, rfl, ?_⟩⟩
  · have nd3 : (hs.map (· + 3)).Nodup := by
      rw [List.nodup_iff_pairwise_ne, List.pairwise_map]
      exact List.Pairwise.imp (fun hab e => hab (by omega)) (List.nodup_iff_pairwise_ne.mp hRw.nd)
    have hge : ∀ x ∈ hs.map (· + 3), 3 ≤ x := by
      intro x hx
      obtain ⟨k, _, rfl⟩ := List.mem_map.mp hx
      omega
    rw [List.nodup_cons, List.nodup_cons, List.nodup_cons]
    refine ⟨?_, ?_, ?_, nd3⟩
    · intro hx
      rcases List.mem_cons.mp hx with hx | hx
      · cases hx
      rcases List.mem_cons.mp hx with hx | hx
      · omega
      have := hge _ hx
      omega
    · intro hx
      rcases List.mem_cons.mp hx with hx | hx
      · omega
      have := hge _ hx
      omega
    · intro hx
      obtain ⟨k, hk, ek⟩ := List.mem_map.mp hx
      have : k = hr := by omega
      subst this
      exact hn hk
  · show (_ :: _ :: _ :: hs.map (· + 3)).length = (_ :: _ :: _ :: rs.map rowC).length
    simp [hRw.len]
  · match i, ex with
    | 0, ex => cases ex; exact ⟨0, _, rfl, purse_up (c := c) er1, rfl⟩
    | 1, ex => cases ex; exact ⟨1, _, rfl, rfl, rfl⟩
    | 2, ex =>
      cases ex
      refine ⟨hr + 3, .lw (hW hs), rfl, ?_, e⟩
      unfold Cell.up
      dsimp only
      rw [← hRw.len, ups_called]
    | i + 3, ex =>
      have ex2 : (rs.map rowC)[i]? = some x := ex
      rw [List.getElem?_map] at ex2
      cases q : rs[i]? with
      | none => rw [q] at ex2; cases ex2
      | some r =>
        rw [q] at ex2
        cases ex2
        have hi : i < hs.length := by rw [hRw.len]; exact (List.getElem?_eq_some_iff.mp q).1
        obtain ⟨k, ek⟩ := getLt hi
        refine ⟨k + 3, rowC r, ?_, rfl, hRw.get i k r ek q⟩
        show (hs.map (· + 3))[i]? = _
        rw [List.getElem?_map, ek]
        rfl
  · rw [List.length_nil, List.range_zero, List.map_nil, List.append_nil]
    show cups _ (.lw [.h 1, .t (.int t')] :: .lt (c'.map T.int) :: .lw (hsFrom 3 rs.length) :: rs'.map rowC) = some (.lw [.h 1, .t (.int t')] :: .lt (c'.map T.int) :: .lw (hW hs) :: rs'.map rowC)
    have e2 : (Cell.lw (hsFrom 3 rs.length)).up (0 :: 1 :: (hr + 3) :: hs.map (· + 3)) = some (.lw (hW hs)) := by
      unfold Cell.up
      dsimp only
      rw [← hRw.len, ups_called]
    have e3 : (Cell.lt (c'.map T.int)).up (0 :: 1 :: (hr + 3) :: hs.map (· + 3)) = some (.lt (c'.map T.int)) := rfl
    unfold cups
    rw [purse_up (c := c') er1]
    unfold cups
    rw [e3]
    unfold cups
    rw [e2, cups_rows]
  · have em : setAll (purseM t c ++ (pl :: loc)) (0 :: 1 :: (hr + 3) :: hs.map (· + 3)) (purse t' c' ++ (Cell.lw (hW hs) :: rs'.map rowC)) ++ [].map some = purseM t' c' ++ (pl :: (setAll loc hs (rs'.map rowC)).set hr (some (.lw (hW hs)))) := by
      rw [List.map_nil, List.append_nil]
      show (((setAll (purseM t c ++ (pl :: loc)) (hs.map (· + 3)) (rs'.map rowC)).set (hr + 3) (some (.lw (hW hs)))).set 1 (some (.lt (c'.map T.int)))).set 0 (some (.lw [.h 1, .t (.int t')])) = _
      rw [setAll_shift]
      rfl
    rw [em]
    have hll := (List.getElem?_eq_some_iff.mp e).1
    refine h rs' t' c' _ hO hq ht hc ⟨by rw [hRw.len, hO.1], hRw.nd, fun i k r e1 e2 => ?_⟩ ?_ ?_
    · have hk : k ∈ hs := List.mem_of_getElem? e1
      have hne : hr ≠ k := fun z => hn (by rw [z]; exact hk)
      rw [List.getElem?_set_ne hne]
      obtain ⟨x, ex, q⟩ := setAll_in loc hs (rs'.map rowC) hRw.nd hRw.lt (by rw [List.length_map, hRw.len, hO.1]) e1
      rw [q]
      rw [List.getElem?_map, e2] at ex
      cases ex
      rfl
    · rw [List.getElem?_set_self (by rw [setAll_len]; exact hll)]
    · rw [List.length_set, setAll_len]
/-- .. the contract -/
def C__law_web : SC := fun ws m QC => ∃ (turn : Nat) (loose : Bool) (cells : List Int), ws = [.h 0, .t (.bl loose)] ∧ m = purse turn cells ∧ 0 < cells.length ∧ cells.length ≤ 1000 ∧ turn + 1000 ≤ 100000 ∧
  ∀ (w : Web) (turn' : Nat) (cells' : List Int), w.Ok → w.rows.length ≤ 29 → (loose = true → w.Asc) → turn' ≤ turn + 1000 → cells'.length = cells.length → QC (.t w.t) (purse turn' cells') []
theorem ln__law_web : ∀ ws m Q, C__law_web ws m Q → ws.length = ["_law_purse_here", "_law_loose"].length := by rintro ws m Q ⟨_, _, _, rfl, _⟩; rfl
def rd__law_web : DSt :=
  dSeq (dAsg (d2 fAdd (dC (.int 1)) (dCallS C__law_draw (dCons (dVar 0) (dCons (dC (.int 4)) (dNil))))) (dgN 2))
  (dSeq (dAsg (d2 (fI0 fun i j => .int (i - j)) (dC (.int 29)) (dVar 2)) (dgN 3))
  (dSeq (dAsg (dLstH (dNil)) (dgN 4))
  (dSeq (dAsg (dLstW (dNil)) (dgN 5))
  (dSeq (dFor (diR1 (dCons (dVar 2) (dNil))) (dgN 6) (dSeq (dAsg (dN fMin (dCons (dVar 3) (dCons (dCallS C__law_draw (dCons (dVar 0) (dCons (d2 fIx (dLst (dCons (dC (.int 4)) (dCons (dC (.int 8)) (dCons (dC (.int 30)) (dNil))))) (dCallS C__law_draw (dCons (dVar 0) (dCons (dC (.int 3)) (dNil))))) (dNil)))) (dNil)))) (dgN 7))
  (dSeq (dAsg (d2 (fI0 fun i j => .int (i - j)) (dVar 3) (dVar 7)) (dgN 3))
  (dSeq (dAsg (dCallS C__law_part (dCons (dVar 0) (dCons (dVar 7) (dCons (dVar 1) (dNil))))) (dgTup 2 (dgCons (dgN 8) (dgCons (dgN 9) (dgNil)))))
  (dSeq (dDrop (dM fAppend (dVar 4) (dCons (dVar 8) (dNil))))
  (dAsg (d2 fAddW (dVar 5) (dLc finW (diL (dVar 9)) (dgList 2 (dgCons (dgN 10) (dgCons (dgN 11) (dgNil)))) (dYes) (dLstH (dCons (dVar 6) (dCons (dVar 10) (dCons (dVar 11) (dCons (d1 fNeg (dC (.int 1))) (dNil)))))) [10, 11])) (dgN 5)))))))
  (dSeq (dDrop (dCallS C__law_called (dCons (dVar 0) (dCons (dVar 5) (dCons (dVar 2) (dNil))))))
  (dRet (dTup (dCons (dFrz 4) (dCons (dLc finT (diL (dCallS C__law_order (dCons (dVar 0) (dCons (dN fLen (dCons (dVar 5) (dNil))) (dNil))))) (dgN 12) (dYes) (dN fTupOf (dCons (d2 fIx (dVar 5) (dVar 12)) (dNil))) [12]) (dNil))))))))))

theorem mono_part {ws : List W} {m : List Cell} : ∀ (P P' : W → List Cell → List Cell → Prop), (∀ w m cs, P w m cs → P' w m cs) → C__law_part ws m P → C__law_part ws m P' := by
  rintro P P' h ⟨many, turn, loose, cells, a, b, c, d, e, f, q⟩
  exact ⟨many, turn, loose, cells, a, b, c, d, e, f, fun n E t c' h1 h2 h3 h4 h5 => h _ _ _ (q n E t c' h1 h2 h3 h4 h5)⟩
theorem i_finW {acc : List W} {g : G} {Q : W → G → Prop} (h : Q (.h g.mem.length) (g.push (.lw acc))) : finW acc g Q := h
theorem hW_app (xs ys : List Nat) : hW (xs ++ ys) = hW xs ++ hW ys := by unfold hW; rw [List.map_append]
theorem hW_new (n m : Nat) : (List.range n).map (fun j => W.h (m + 1 + 2 + j)) = hW ((List.range n).map fun j => m + j) := by
  unfold hW
  rw [List.map_map]
  refine List.map_congr_left fun j _ => ?_
  show W.h (m + 1 + 2 + j) = W.h (m + j + 3)
  rw [show m + 1 + 2 + j = m + j + 3 by omega]
theorem frzW_h {n m : Nat} {x : T} (h : m ≠ n) : frzW n x (some (.h m)) = some (.h m) := if_neg h
theorem frzW_t {n : Nat} {x y : T} : frzW n x (some (.t y)) = some (.t y) := rfl
theorem frzW_same {n : Nat} {x : T} : frzW n x (some (.h n)) = some (.t x) := if_pos rfl
theorem at3 {r : Int} (h0 : 0 ≤ r) (h1 : r < 3) : ∃ x : Int, 4 ≤ x ∧ x ≤ 30 ∧ atI [T.int 4, .int 8, .int 30] r = some (.int x) := by
  obtain ⟨j, rfl⟩ := toI h0
  match j, h1 with
  | 0, _ => exact ⟨4, by decide, by decide, atI_nat (j := 0) rfl⟩
  | 1, _ => exact ⟨8, by decide, by decide, atI_nat (j := 1) rfl⟩
  | 2, _ => exact ⟨30, by decide, by decide, atI_nat (j := 2) rfl⟩
  | j + 3, h => omega
theorem rp__law_web : ∀ ws m QC, C__law_web ws m QC → rd__law_web ⟨FinS m.length QC (.t .non), FinS m.length QC, fun _ => False, fun _ => False⟩ ⟨ws.map some ++ List.replicate (13 - ws.length) none, m.map some⟩ := by
  rintro ws m QC ⟨turn, loose, cells, rfl, rfl, h0, h1, h2, hQ⟩
  rw [purse_start]
  unfold rd__law_web
  walk_at "dl"
  refine callS_draw (by omega) (by omega) (by omega) (by omega) (by omega) fun r c2 r0 r1 hc2 => ?_
  obtain ⟨parts0, rfl⟩ := toI r0
  walk_at "dl"
  refine ⟨by decide, ?_⟩
  walk_at "dl"
  refine ⟨by decide, ?_⟩
  walk_at "dl"
  refine ⟨by omega, ?_⟩
  refine forR (List.range (1 + parts0)) (fun k => W.t (.int (k : Nat))) (fun i g' => ∃ (N : Nat → Nat) (E : Nat → List (Nat × Nat)) (rs : List Row) (hs : List Nat) (hr left turn' : Nat) (cells' : List Int) (loc : Sto) (o6 o7 o8 o9 o10 o11 o12 : Option W),
      g' = ⟨[some (.h 0), some (.t (.bl loose)), some (.t (.int (1 + parts0))), some (.t (.int left)), some (.h 2), some (.h (hr + 3)), o6, o7, o8, o9, o10, o11, o12], purseM turn' cells' ++ (some (.lt ((placesOf i N).map T.int)) :: loc)⟩ ∧
      PW loose i N E rs ∧ Rw loc hs rs ∧ loc[hr]? = some (some (.lw (hW hs))) ∧ rs.length + left ≤ 28 - parts0 + i ∧ turn' ≤ turn + 1 + 150 * i ∧ cells'.length = cells.length)
    (by rw [show ((1 : Int) + parts0).toNat = 1 + parts0 by omega, rgW0]) ⟨fun _ => 0, fun _ => [], [], [], 0, 28 - parts0, turn + 1, c2, [some (.lw [])], none, none, none, none, none, none, none, ?_, ⟨fun p hp => by omega, fun r => ⟨fun h => (List.not_mem_nil h).elim, fun ⟨p, hp, _⟩ => by omega⟩⟩, ⟨rfl, List.nodup_nil, fun i k r h => by simp at h⟩, rfl, by simp, by omega, hc2⟩ (fun _ _ _ => trivial) ?_ ?_
  · rw [show (29 : Int) - (1 + parts0) = ((28 - parts0 : Nat) : Int) by omega]
    rfl
  · rintro i k hk g' ⟨N, E, rs, hs, hr, left, turn', cells', loc, o6, o7, o8, o9, o10, o11, o12, rfl, hPW, hRw, ehr, hcnt, ht, hc⟩ M hM
    have hi : i < 1 + parts0 := by simpa using (List.getElem?_eq_some_iff.mp hk).1
    rw [List.getElem?_range hi] at hk
    cases hk
    walk_at "dl"
    refine ⟨by decide, ?_⟩
    walk_at "dl"
    refine callS_draw (by omega) (by omega) (by omega) (by omega) (by omega) fun r c3 r2 r3 hc3 => ?_
    obtain ⟨x, x1, x2, ex⟩ := at3 r2 r3
    walk_at "dl"
    refine callS_draw (by omega) (by omega) (by omega) (by omega) (by omega) fun y c4 y0 y1 hc4 => ?_
    walk_at "dl"
    have hmany : ∃ many : Nat, (if y < (left : Int) then y else left) = many ∧ many ≤ left := by
      split
      · obtain ⟨y', rfl⟩ := toI y0
        exact ⟨y', rfl, by omega⟩
      · exact ⟨left, rfl, Nat.le_refl _⟩
    obtain ⟨many, em, hm1⟩ := hmany
    rw [em, show (left : Int) - many = ((left - many : Nat) : Int) by omega]
    refine callS_p [.h 0, .t (.int many), .t (.bl loose)] rfl ?_ mono_part
    refine ⟨many, turn' + 1 + 1, loose, c4, rfl, rfl, by omega, by omega, by omega, by omega, fun n e t2 c5 hs1 he1 he2 ht2 hc5 => ⟨_, _, t2, c5, rfl, rfl, rfl, ?_⟩⟩
    rw [List.map_nil, List.append_nil]
    have epl : ∀ {t c l}, (purseM t c ++ some (Cell.lt ((placesOf i N).map T.int)) :: l)[2]? = some (some (.lt ((placesOf i N).map T.int))) := fun {t c l} => rfl
    have hpl : (placesOf i N).length = i := by unfold placesOf; rw [List.length_map, List.length_range]
    walk_at "dl"
    refine ⟨isL_lt epl, ?_⟩
    walk_at "dl"
    refine i_append (us := (placesOf i N).map T.int) rfl (lineLt (by rw [List.length_map]; omega)) ?_
    walk_at "dl"
    have epl2 : (placesOf i N).map T.int ++ [T.int (n : Nat)] = (placesOf (i + 1) (updF N i n)).map T.int := by
      have : placesOf (i + 1) (updF N i n) = placesOf i N ++ [((n : Nat) : Int)] := by
        unfold placesOf
        rw [show (fun p => ((updF N i n p : Nat) : Int)) = (fun x : Nat => (x : Int)) ∘ updF N i n from rfl, ← List.map_map, range_upd, List.map_append, List.map_map]
        rfl
      rw [this, List.map_append]
      rfl
    rw [epl2]
    refine lcNew e (fun ab => W.t (pairT ab)) (fun ab => rowC (rowOf i ab)) (by rw [List.map_map]; rfl) (lineLe (by omega)) (fun _ => rfl) ?_ ?_
    · intro ab hab m Y N2 hY
      unfold pairT
      walk_at "dl"
      refine ⟨by decide, ?_⟩
      exact hY _ rfl
    · refine i_finW ?_
      walk_at "dn"
      rw [hW_new]
      refine i_addW (xs := hW hs) (ys := hW ((List.range e.length).map fun j => loc.length + j)) (wl_h ?_) (wl_h ?_) (lineLe ?_) ?_
      · show (loc ++ _ ++ _)[hr]? = _
        have := (List.getElem?_eq_some_iff.mp ehr).1
        rw [List.append_assoc, List.getElem?_append_left this]
        exact ehr
      · show (loc ++ _ ++ [_])[(loc ++ List.map (fun x => some (rowC (rowOf i x))) e).length]? = _
        rw [List.getElem?_append_right (Nat.le_refl _), Nat.sub_self]
        rfl
      · rw [hW_len, hW_len, List.length_map, List.length_range, hRw.len]
        omega
      · rw [← hW_app]
        walk_at "dn"
        refine hM _ ⟨updF N i n, updF E i e, rs ++ e.map (rowOf i), hs ++ (List.range e.length).map fun j => loc.length + j, _, left - many, t2, c5, _, _, _, _, _, _, _, _, rfl, hPW.next hs1 he1, ?_, ?_, by rw [List.length_append, List.length_map]; omega, by omega, by omega⟩
        · have := hRw.more (rowOf i) e ([some (.lw (hW ((List.range e.length).map fun j => loc.length + j)))] ++ [some (.lw (hW (hs ++ (List.range e.length).map fun j => loc.length + j)))])
          rw [← List.append_assoc] at this
          exact this
        · rw [List.getElem?_append_right (Nat.le_refl _), Nat.sub_self]
          rfl
  · rintro g' ⟨N, E, rs, hs, hr, left, turn', cells', loc, o6, o7, o8, o9, o10, o11, o12, rfl, hPW, hRw, ehr, hcnt, ht, hc⟩
    have hL : (List.range (1 + parts0)).length = 1 + parts0 := List.length_range
    rw [hL] at hPW hcnt ht ⊢
    have eI : (1 : Int) + parts0 = ((1 + parts0 : Nat) : Int) := by omega
    walk_at "dl"
    rw [eI]
    refine callS_called hRw ehr (by omega) (by omega) (by omega) (by omega) (by omega) (by omega) (fun r hr' => ?_) (fun q hq => ?_) fun rs' t' c' loc' hO hq ht' hc' hRw' ehr' hll => ?_
    · obtain ⟨p, hp, ab, _, rfl⟩ := (hPW.mem r).mp hr'
      exact ⟨by show (0 : Int) ≤ (p : Nat); omega, by show ((p : Nat) : Int) < _; omega, rfl⟩
    · obtain ⟨_, h9⟩ := hPW.sp q hq
      obtain ⟨ab, hab⟩ := getLt (xs := E q) (j := 0) (by omega)
      exact ⟨rowOf q ab, (hPW.mem _).mpr ⟨q, hq, ab, List.mem_of_getElem? hab, rfl⟩, rfl⟩
    refine i_ret ?_
    refine i_tup ?_
    refine i_cons ?_
    refine i_frzH rfl rfl rfl ?_
    simp only [G.frz, List.map_cons, List.map_nil]
    rw [frzW_t, frzW_t, frzW_t, frzW_same, frzW_h (show 0 ≠ 2 by decide), frzW_h (show hr + 3 ≠ 2 by omega)]
    generalize frzW 2 _ o6 = p6
    generalize frzW 2 _ o7 = p7
    generalize frzW 2 _ o8 = p8
    generalize frzW 2 _ o9 = p9
    generalize frzW 2 _ o10 = p10
    generalize frzW 2 _ o11 = p11
    generalize frzW 2 _ o12 = p12
    have eh : (purseM t' c' ++ none :: loc')[hr + 3]? = some (some (.lw (hW hs))) := ehr'
    walk_at "dl"
    rw [hW_len]
    refine callS_p [.h 0, .t (.int hs.length)] rfl ?_ mono_order
    have hlr : hs.length = rs.length := hRw.len
    refine ⟨hs.length, t', c', rfl, rfl, by omega, by omega, by omega, by omega, fun xs t3 c3 hperm ht3 hc3 => ⟨_, _, t3, c3, rfl, rfl, rfl, ?_⟩⟩
    refine o_LqH (us := xs.map natT) ?_ ?_
    · show ((none :: loc') ++ [some (Cell.lt (xs.map natT))])[(none :: loc').length + 0]? = _
      rw [List.getElem?_append_right (by omega)]
      simp
    walk_at "dl"
    have hxl : xs.length = rs'.length := by rw [hperm.length_eq, List.length_range, hRw'.len]
    have hxs : ∀ k, k ∈ xs ↔ k < rs'.length := fun k => by rw [hperm.mem_iff, List.mem_range, hRw'.len]
    refine lcP xs (fun k => W.t (natT k)) (fun _ => true) (fun k => (rowD rs' k).t) (by rw [List.map_map]; rfl) (lineLe (by rw [hxl, hO.1]; omega)) ?_ ?_ rfl ?_
    · refine lq_h ?_
      show (loc' ++ [some (Cell.lt (xs.map natT))])[loc'.length]? = _
      rw [List.getElem?_append_right (Nat.le_refl _), Nat.sub_self]
      rfl
    · intro k hk Y N2 hY hN2
      have hkl := (hxs k).mp hk
      obtain ⟨r', er⟩ := getLt hkl
      obtain ⟨x, ex⟩ := getLt (xs := hs) (j := k) (by rw [hRw'.len]; exact hkl)
      have hll2 := (List.getElem?_eq_some_iff.mp ehr').1
      have hxl2 := hRw'.lt x (List.mem_of_getElem? ex)
      have em : (purseM t3 c3 ++ none :: (loc' ++ [some (Cell.lt (xs.map natT))]))[hr + 3]? = some (some (.lw (hW hs))) := by
        show (loc' ++ _)[hr]? = _
        rw [List.getElem?_append_left hll2]
        exact ehr'
      have em2 : (purseM t3 c3 ++ none :: (loc' ++ [some (Cell.lt (xs.map natT))]))[x + 3]? = some (some (.lt [.int r'.p, .int r'.s, .int r'.e, .int r'.c])) := by
        show (loc' ++ _)[x]? = _
        rw [List.getElem?_append_left hxl2]
        exact hRw'.get k x r' ex er
      have hh := hW_at ex
      unfold natT
      walk_at "dl"
      refine i_tupOfH em2 ?_
      rw [rowD_eq er] at hY
      exact hY rfl _ rfl
    · rw [List.filter_eq_self.mpr (fun _ _ => rfl)]
      walk_at "dl"
      refine ⟨by decide, ?_⟩
      have hmem : ∀ r, r ∈ xs.map (rowD rs') ↔ r ∈ rs' := by
        intro r
        rw [List.mem_map]
        constructor
        · rintro ⟨k, hk, rfl⟩
          obtain ⟨r', er⟩ := getLt ((hxs k).mp hk)
          rw [rowD_eq er]
          exact List.mem_of_getElem? er
        · intro hr'
          obtain ⟨k, ek⟩ := List.getElem?_of_mem hr'
          exact ⟨k, (hxs k).mpr (List.getElem?_eq_some_iff.mp ek).1, rowD_eq ek⟩
      have hok := web_ok hPW (by omega) (by omega) (by omega) hO hq hmem (by rw [List.length_map, hxl])
      have q := hQ ⟨placesOf (1 + parts0) N, xs.map (rowD rs')⟩ t3 c3 hok.1 (by show (xs.map (rowD rs')).length ≤ 29; rw [List.length_map, hxl, hO.1]; omega) hok.2 (by omega) (by omega)
      unfold Web.t at q
      rw [List.map_map] at q
      exact fin_purse q

end DL

namespace DL
open PySem PySem.Spec L2
local macro_rules | `(tactic| walk_at "dn") => `(tactic| simp only [purse_set2, purse_set3, purse_set4, purse_set5, purse_app, purse_len, purse_start, purse_l, G.set, G.put, G.push, G.wipe, wipeW, G.rs, rsW, List.set_cons_zero, List.set_cons_succ, List.map_cons, List.map_nil, List.length_cons, List.length_nil, List.nil_append, List.cons_append, List.replicate_succ, List.replicate_zero, Nat.reduceAdd, Nat.reduceSub, List.getD_cons_zero, List.getD_cons_succ, Option.getD_some, Option.getD_none])
local macro_rules | `(tactic| walk_at "d1") => `(tactic| first
  | with_reducible refine i_seq ?_
  | with_reducible refine i_asg ?_
  | with_reducible refine i_d2 ?_
  | ((with_reducible refine' i_var ?e ?_); (case e => rfl))
  | with_reducible refine i_c ?_
  | ((with_reducible refine' i_ix ?e ?v ?_); (case e => rfl); (case v => first | assumption | rfl))
  | with_reducible refine i_fI0 ?_
  | with_reducible refine i_gN ?_
  | with_reducible refine i_cons ?_
  | with_reducible refine i_nil ?_
  | with_reducible refine i_dN ?_
  | ((with_reducible refine' i_len ?e ?_); (case e => rfl))
  | with_reducible refine i_d1 ?_
  | with_reducible refine i_neg ?_
  | with_reducible refine i_B ?_
  | with_reducible refine o_B ?_
  | with_reducible refine o_I ?_
  | with_reducible refine i_ifS ?_
  | with_reducible refine i_or ?_
  | with_reducible refine i_and ?_
  | with_reducible refine i_not ?_
  | with_reducible refine i_andV ?_
  | with_reducible refine i_orV ?_
  | with_reducible refine i_notV ?_
  | with_reducible refine i_if ?_
  | with_reducible refine i_yes ?_
  | with_reducible refine k_T ?_
  | with_reducible refine k_F ?_
  | with_reducible refine k_True ?_
  | with_reducible refine k_False ?_
  | with_reducible refine i_eqI ?_
  | with_reducible refine i_neI ?_
  | with_reducible refine i_addI ?_
  | with_reducible refine i_addHI ?_
  | with_reducible refine i_callT ?_
  | with_reducible refine i_callH ?_
  | ((with_reducible refine' o_Ts ?e ?_); (case e => rfl))
  | with_reducible refine o_T ?_
  | ((with_reducible refine' o_TF ?e ?_); (case e => rfl))
  | with_reducible refine o_H ?_
  | ((with_reducible refine' o_HF ?e ?_); (case e => rfl))
  | with_reducible refine i_next ?_
  | with_reducible refine i_drop ?_
  | with_reducible refine i_ret ?_
  | with_reducible refine i_retN ?_
  | ((with_reducible refine' i_gTup ?e ?_); (case e => rfl))
  | with_reducible refine i_gCons ?_
  | with_reducible refine i_gNil ?_
  | with_reducible refine i_min2 ?_
  | with_reducible refine i_max2 ?_
  | with_reducible refine i_par ?_
  | with_reducible refine o_W2 ?_
  | ((with_reducible refine' i_aug ?e ?_); (case e => rfl))
  | with_reducible refine i_intI ?_
  | with_reducible refine i_intB ?_
  | with_reducible refine i_lc ?_
  | with_reducible refine i_for ?_
  | with_reducible refine i_while ?_
  | with_reducible refine i_itL ?_
  | ((with_reducible refine' o_Lq ?e ?_); (case e => rfl))
  | with_reducible refine i_itR1 ?_
  | with_reducible refine i_itR2 ?_
  | with_reducible refine o_I1 ?_
  | with_reducible refine o_I2 ?_
  | with_reducible refine e_t ?_
  | ((with_reducible refine' e_h ?e ?p ?_); (case e => rfl); (case p => rfl))
  | with_reducible refine i_M ?_
  | with_reducible refine i_M0 ?_
  | with_reducible refine i_gSub ?_
  | with_reducible refine i_finH ?_
  | with_reducible refine i_finT ?_
  | with_reducible refine i_sl ?_
  | with_reducible refine i_slH ?_
  | with_reducible refine i_slT ?_
  | with_reducible refine i_noPart ?_
  | with_reducible refine i_part ?_
  | ((with_reducible refine' i_frzT ?e ?_); (case e => rfl))
  | ((with_reducible refine' i_frzH ?e ?m ?t ?_); (case e => rfl); (case m => rfl); (case t => rfl))
  | ((with_reducible refine' i_din ?k ?e ?_); (case k => rfl); (case e => rfl))
  | ((with_reducible refine' i_dnotin ?k ?e ?_); (case k => rfl); (case e => rfl))
  | with_reducible refine i_dput ?_
  | with_reducible refine i_newD ?_
  | with_reducible refine i_lstH ?_
  | with_reducible refine i_lst ?_
  | with_reducible refine i_tup ?_
  | with_reducible refine i_break ?_
  | with_reducible refine i_cont ?_
  | with_reducible refine i_callS ?_
  | ((with_reducible refine' i_ixHW ?e ?v ?_); (case e => first | rfl | assumption); (case v => first | assumption | rfl))
  | ((with_reducible refine' i_ixHT ?e ?v ?_); (case e => first | rfl | assumption); (case v => first | assumption | rfl))
  | ((with_reducible refine' i_lenHT ?e ?_); (case e => first | rfl | assumption))
  | ((with_reducible refine' i_lenHW ?e ?_); (case e => first | rfl | assumption))
  | ((with_reducible refine' i_frzH ?e ?m ?t ?_); (case e => rfl); (case m => rfl); (case t => rfl))
  | ((with_reducible refine' i_unw ?e ?n ?_); (case e => rfl); (case n => rfl))
  | with_reducible refine i_gwCons ?_
  | with_reducible refine i_gwNil ?_
  | with_reducible refine i_lstW ?_
  | ((with_reducible refine' i_gList ?e ?n ?_); (case e => rfl); (case n => rfl))
  | with_reducible refine i_listRgH ?_
  | with_reducible refine i_listRg ?_
  | with_reducible refine i_R1 ?_
  | with_reducible refine i_getD ?_
  | ((with_reducible refine' i_none ?k ?_); (case k => rfl))
  | walk_at "dn")
local macro_rules | `(tactic| walk_at "dl") => `(tactic| ((try walk_at "dn"); repeat walk_at "d1"))
/-! equality of plain data with itself -/
theorem eqvAll_self : ∀ xs : List T, (∀ x ∈ xs, teq x x = true) → PyData.eqvAll (xs.map T.pd) (xs.map T.pd) = true
  | [], _ => by simp [PyData.eqvAll]
  | x :: xs, h => by
    have h1 := h x (by simp)
    unfold teq at h1
    rw [List.map_cons]
    simp only [PyData.eqvAll]
    rw [h1, eqvAll_self xs fun y hy => h y (by simp [hy])]
    rfl
theorem teq_lst {xs : List T} (h : ∀ x ∈ xs, teq x x = true) : teq (.lst xs) (.lst xs) = true := by
  unfold teq
  simp only [T.pd, PyData.eqv]
  exact eqvAll_self xs h
theorem teq_tup {xs : List T} (h : ∀ x ∈ xs, teq x x = true) : teq (.tup xs) (.tup xs) = true := by
  unfold teq
  simp only [T.pd, PyData.eqv]
  exact eqvAll_self xs h
theorem teq_int (i : Int) : teq (.int i) (.int i) = true := by
  unfold teq
  simp only [T.pd, PyData.eqv]
  simp
theorem teq_ints (xs : List Int) : teq (.lst (xs.map T.int)) (.lst (xs.map T.int)) = true := teq_lst fun x hx => by
  obtain ⟨i, _, rfl⟩ := List.mem_map.mp hx
  exact teq_int i
theorem teq_web (w : Web) : teq w.t w.t = true := by
  unfold Web.t
  refine teq_tup fun x hx => ?_
  have : x = .lst (w.places.map T.int) ∨ x = .lst (w.rows.map Row.t) := by simpa using hx
  rcases this with rfl | rfl
  · exact teq_ints _
  · refine teq_lst fun x hx => ?_
    obtain ⟨r, _, rfl⟩ := List.mem_map.mp hx
    unfold Row.t
    refine teq_tup fun y hy => ?_
    have : y = .int r.p ∨ y = .int r.s ∨ y = .int r.e ∨ y = .int r.c := by simpa using hy
    rcases this with rfl | rfl | rfl | rfl <;> exact teq_int _
theorem sh_web (w : Web) (n : Nat) : w.t.sh (n + 3) = true := by
  simp [Web.t, T.sh, Row.t]
/-! calls from the law's main -/
theorem callS_purse {ns : List Int} {sl : List (Option W)} {Q : W → G → Prop} (h : ∀ cells : List Int, 0 < cells.length → cells.length ≤ 1000 → Q (.h 0) ⟨sl, purseM 0 cells ++ []⟩) : callS C__law_purse [.t (.sq (ns.map T.int))] ⟨sl, []⟩ Q :=
  ⟨[], [], [.t (.sq (ns.map T.int))], List.nodup_nil, rfl, rfl, fun i c e => by simp at e, ns, rfl, rfl, fun cells h0 h1 => ⟨.h 0, [], purse 0 cells, rfl, rfl, rfl, h cells h0 h1⟩⟩
theorem mono_web {ws : List W} {m : List Cell} : ∀ (P P' : W → List Cell → List Cell → Prop), (∀ w m cs, P w m cs → P' w m cs) → C__law_web ws m P → C__law_web ws m P' := by
  rintro P P' h ⟨turn, loose, cells, a, b, c, d, e, q⟩
  exact ⟨turn, loose, cells, a, b, c, d, e, fun w t c' h1 h2 h3 h4 h5 => h _ _ _ (q w t c' h1 h2 h3 h4 h5)⟩
/-- the web drawn at the start of a law -/
theorem callS_web {turn : Nat} {cells : List Int} {loose : Bool} {sl : List (Option W)} {mem : Sto} {Q : W → G → Prop} (h0 : 0 < cells.length) (h1 : cells.length ≤ 1000) (h2 : turn + 1000 ≤ 100000)
    (h : ∀ (w : Web) (turn' : Nat) (cells' : List Int), w.Ok → w.rows.length ≤ 29 → (loose = true → w.Asc) → turn' ≤ turn + 1000 → cells'.length = cells.length → Q (.t w.t) ⟨sl, purseM turn' cells' ++ (mem ++ [])⟩) : callS C__law_web [.h 0, .t (.bl loose)] ⟨sl, purseM turn cells ++ mem⟩ Q := by
  refine callS_p [.h 0, .t (.bl loose)] rfl ?_ mono_web
  exact ⟨turn, loose, cells, rfl, rfl, h0, h1, h2, fun w t c a b d e f => ⟨_, [], t, c, rfl, rfl, rfl, h w t c a b d e f⟩⟩
/-! a law that answers True at every script -/
def C_law : SC := fun ws m QC => ∃ ns : List Int, ws = [.t (.sq (ns.map T.int))] ∧ m = [] ∧ ns.length ≤ 63 ∧ QC (.t (.bl true)) [] []
theorem ln_law : ∀ ws m Q, C_law ws m Q → ws.length = ["_law_script"].length := by rintro ws m Q ⟨_, rfl, _⟩; rfl
theorem fin_true {QC : W → List Cell → List Cell → Prop} {g : G} (q : QC (.t (.bl true)) [] []) : FinS 0 QC (.t (.bl true)) g :=
  fin_new [] [] (.t (.bl true)) List.nodup_nil (fun j h => by simp at h) rfl rfl (fun i c e => by simp at e) q

end DL

namespace DL
open PySem PySem.Spec L2
local macro_rules | `(tactic| walk_at "dn") => `(tactic| simp only [purse_set2, purse_set3, purse_set4, purse_set5, purse_app, purse_len, purse_start, purse_l, G.set, G.put, G.push, G.wipe, wipeW, G.rs, rsW, List.set_cons_zero, List.set_cons_succ, List.map_cons, List.map_nil, List.length_cons, List.length_nil, List.nil_append, List.cons_append, List.replicate_succ, List.replicate_zero, Nat.reduceAdd, Nat.reduceSub, List.getD_cons_zero, List.getD_cons_succ, Option.getD_some, Option.getD_none])
local macro_rules | `(tactic| walk_at "d1") => `(tactic| first
  | with_reducible refine i_seq ?_
  | with_reducible refine i_asg ?_
  | with_reducible refine i_d2 ?_
  | ((with_reducible refine' i_var ?e ?_); (case e => rfl))
  | with_reducible refine i_c ?_
  | ((with_reducible refine' i_ix ?e ?v ?_); (case e => rfl); (case v => first | assumption | rfl))
  | with_reducible refine i_fI0 ?_
  | with_reducible refine i_gN ?_
  | with_reducible refine i_cons ?_
  | with_reducible refine i_nil ?_
  | with_reducible refine i_dN ?_
  | ((with_reducible refine' i_len ?e ?_); (case e => rfl))
  | with_reducible refine i_d1 ?_
  | with_reducible refine i_neg ?_
  | with_reducible refine i_B ?_
  | with_reducible refine o_B ?_
  | with_reducible refine o_I ?_
  | with_reducible refine i_ifS ?_
  | with_reducible refine i_or ?_
  | with_reducible refine i_and ?_
  | with_reducible refine i_not ?_
  | with_reducible refine i_andV ?_
  | with_reducible refine i_orV ?_
  | with_reducible refine i_notV ?_
  | with_reducible refine i_if ?_
  | with_reducible refine i_yes ?_
  | with_reducible refine k_T ?_
  | with_reducible refine k_F ?_
  | with_reducible refine k_True ?_
  | with_reducible refine k_False ?_
  | with_reducible refine i_eqI ?_
  | with_reducible refine i_neI ?_
  | with_reducible refine i_addI ?_
  | with_reducible refine i_addHI ?_
  | with_reducible refine i_callT ?_
  | with_reducible refine i_callH ?_
  | ((with_reducible refine' o_Ts ?e ?_); (case e => rfl))
  | with_reducible refine o_T ?_
  | ((with_reducible refine' o_TF ?e ?_); (case e => rfl))
  | with_reducible refine o_H ?_
  | ((with_reducible refine' o_HF ?e ?_); (case e => rfl))
  | with_reducible refine i_next ?_
  | with_reducible refine i_drop ?_
  | with_reducible refine i_ret ?_
  | with_reducible refine i_retN ?_
  | ((with_reducible refine' i_gTup ?e ?_); (case e => rfl))
  | with_reducible refine i_gCons ?_
  | with_reducible refine i_gNil ?_
  | with_reducible refine i_min2 ?_
  | with_reducible refine i_max2 ?_
  | with_reducible refine i_par ?_
  | with_reducible refine o_W2 ?_
  | ((with_reducible refine' i_aug ?e ?_); (case e => rfl))
  | with_reducible refine i_intI ?_
  | with_reducible refine i_intB ?_
  | with_reducible refine i_lc ?_
  | with_reducible refine i_for ?_
  | with_reducible refine i_while ?_
  | with_reducible refine i_itL ?_
  | ((with_reducible refine' o_Lq ?e ?_); (case e => rfl))
  | with_reducible refine i_itR1 ?_
  | with_reducible refine i_itR2 ?_
  | with_reducible refine o_I1 ?_
  | with_reducible refine o_I2 ?_
  | with_reducible refine e_t ?_
  | ((with_reducible refine' e_h ?e ?p ?_); (case e => rfl); (case p => rfl))
  | with_reducible refine i_M ?_
  | with_reducible refine i_M0 ?_
  | with_reducible refine i_gSub ?_
  | with_reducible refine i_finH ?_
  | with_reducible refine i_finT ?_
  | with_reducible refine i_sl ?_
  | with_reducible refine i_slH ?_
  | with_reducible refine i_slT ?_
  | with_reducible refine i_noPart ?_
  | with_reducible refine i_part ?_
  | ((with_reducible refine' i_frzT ?e ?_); (case e => rfl))
  | ((with_reducible refine' i_frzH ?e ?m ?t ?_); (case e => rfl); (case m => rfl); (case t => rfl))
  | ((with_reducible refine' i_din ?k ?e ?_); (case k => rfl); (case e => rfl))
  | ((with_reducible refine' i_dnotin ?k ?e ?_); (case k => rfl); (case e => rfl))
  | with_reducible refine i_dput ?_
  | with_reducible refine i_newD ?_
  | with_reducible refine i_lstH ?_
  | with_reducible refine i_lst ?_
  | with_reducible refine i_tup ?_
  | with_reducible refine i_break ?_
  | with_reducible refine i_cont ?_
  | with_reducible refine i_callS ?_
  | ((with_reducible refine' i_ixHW ?e ?v ?_); (case e => first | rfl | assumption); (case v => first | assumption | rfl))
  | ((with_reducible refine' i_ixHT ?e ?v ?_); (case e => first | rfl | assumption); (case v => first | assumption | rfl))
  | ((with_reducible refine' i_lenHT ?e ?_); (case e => first | rfl | assumption))
  | ((with_reducible refine' i_lenHW ?e ?_); (case e => first | rfl | assumption))
  | ((with_reducible refine' i_frzH ?e ?m ?t ?_); (case e => rfl); (case m => rfl); (case t => rfl))
  | ((with_reducible refine' i_unw ?e ?n ?_); (case e => rfl); (case n => rfl))
  | with_reducible refine i_gwCons ?_
  | with_reducible refine i_gwNil ?_
  | with_reducible refine i_lstW ?_
  | ((with_reducible refine' i_gList ?e ?n ?_); (case e => rfl); (case n => rfl))
  | with_reducible refine i_listRgH ?_
  | with_reducible refine i_listRg ?_
  | with_reducible refine i_R1 ?_
  | with_reducible refine i_getD ?_
  | ((with_reducible refine' i_none ?k ?_); (case k => rfl))
  | walk_at "dn")
local macro_rules | `(tactic| walk_at "dl") => `(tactic| ((try walk_at "dn"); repeat walk_at "d1"))
/-! defs that many laws share -/
def C__law_whole : PC := fun ts Q => ∃ i : Int, ts = [.int i] ∧ Q (.t (.bl true))
theorem ln__law_whole : ∀ ts Q, C__law_whole ts Q → ts.length = ["_law_found"].length := by rintro ts Q ⟨_, rfl, _⟩; rfl
def rd__law_whole : DSt :=
  dRet (dAndV (dN fIsi (dCons (dVar 0) (dCons (dC (.raw (.ty "int"))) (dNil)))) (dNotV (dN fIsi (dCons (dVar 0) (dCons (dC (.raw (.ty "bool"))) (dNil))))))

theorem rp__law_whole : ∀ ts Q, C__law_whole ts Q → rd__law_whole ⟨FinP Q (.t .non), FinP Q, fun _ => False, fun _ => False⟩ ⟨ts.map (fun t => some (W.t t)) ++ List.replicate (1 - ts.length) none, []⟩ := by
  rintro ts Q ⟨i, rfl, hQ⟩
  unfold rd__law_whole
  walk_at "dl"
  refine i_isi (a := "int") (b := true) rfl rfl ?_
  walk_at "dl"
  refine i_isi (a := "int") (b := false) rfl rfl ?_
  walk_at "dl"
  exact hQ
def C__law_copy : PC := fun ts Q => ∃ w : Web, ts = [w.t] ∧ w.rows.length ≤ 1000 ∧ Q (.t w.t)
theorem ln__law_copy : ∀ ts Q, C__law_copy ts Q → ts.length = ["_law_web_here"].length := by rintro ts Q ⟨_, rfl, _⟩; rfl
def rd__law_copy : DSt :=
  dRet (dTup (dCons (dN fListOf (dCons (d2 fIx (dVar 0) (dC (.int 0))) (dNil))) (dCons (dLc finT (diL (d2 fIx (dVar 0) (dC (.int 1)))) (dgN 1) (dYes) (dN fTupOf (dCons (dN fListOf (dCons (dVar 1) (dNil))) (dNil))) [1]) (dNil))))

theorem rp__law_copy : ∀ ts Q, C__law_copy ts Q → rd__law_copy ⟨FinP Q (.t .non), FinP Q, fun _ => False, fun _ => False⟩ ⟨ts.map (fun t => some (W.t t)) ++ List.replicate (2 - ts.length) none, []⟩ := by
  rintro ts Q ⟨w, rfl, hl, hQ⟩
  unfold rd__law_copy Web.t at *
  walk_at "dl"
  refine i_listOf rfl ?_
  walk_at "dl"
  refine lcP w.rows (fun r => W.t r.t) (fun _ => true) Row.t (by rw [List.map_map]; rfl) (lineLe (by omega)) rfl ?_ rfl ?_
  · intro r hr Y N2 hY hN2
    unfold Row.t at *
    walk_at "dl"
    refine i_listOf rfl ?_
    walk_at "dl"
    refine i_tupOf rfl ?_
    exact hY rfl _ rfl
  · rw [List.filter_eq_self.mpr (fun _ _ => rfl)]
    walk_at "dl"
    refine ⟨by decide, ?_⟩
    walk_at "dl"
    exact hQ
theorem seqL_h {g : G} {n : Nat} {us : List T} (em : g.mem[n]? = some (some (.lt us))) : g.seqL? (.h n) = some us := by unfold G.seqL?; rw [cell_h em]
theorem purse_setN {t n : Nat} {c : List Int} {m : Sto} {v : Option Cell} : (purseM t c ++ m).set (n + 2) v = purseM t c ++ m.set n v := rfl

end DL

namespace DL
open PySem PySem.Spec L2
local macro_rules | `(tactic| walk_at "dn") => `(tactic| simp only [purse_set2, purse_set3, purse_set4, purse_set5, purse_app, purse_len, purse_start, purse_l, G.set, G.put, G.push, G.wipe, wipeW, G.rs, rsW, List.set_cons_zero, List.set_cons_succ, List.map_cons, List.map_nil, List.length_cons, List.length_nil, List.nil_append, List.cons_append, List.replicate_succ, List.replicate_zero, Nat.reduceAdd, Nat.reduceSub, List.getD_cons_zero, List.getD_cons_succ, Option.getD_some, Option.getD_none])
local macro_rules | `(tactic| walk_at "d1") => `(tactic| first
  | with_reducible refine i_seq ?_
  | with_reducible refine i_asg ?_
  | with_reducible refine i_d2 ?_
  | ((with_reducible refine' i_var ?e ?_); (case e => rfl))
  | with_reducible refine i_c ?_
  | ((with_reducible refine' i_ix ?e ?v ?_); (case e => rfl); (case v => first | assumption | rfl))
  | with_reducible refine i_fI0 ?_
  | with_reducible refine i_gN ?_
  | with_reducible refine i_cons ?_
  | with_reducible refine i_nil ?_
  | with_reducible refine i_dN ?_
  | ((with_reducible refine' i_len ?e ?_); (case e => rfl))
  | with_reducible refine i_d1 ?_
  | with_reducible refine i_neg ?_
  | with_reducible refine i_B ?_
  | with_reducible refine o_B ?_
  | with_reducible refine o_I ?_
  | with_reducible refine i_ifS ?_
  | with_reducible refine i_or ?_
  | with_reducible refine i_and ?_
  | with_reducible refine i_not ?_
  | with_reducible refine i_andV ?_
  | with_reducible refine i_orV ?_
  | with_reducible refine i_notV ?_
  | with_reducible refine i_if ?_
  | with_reducible refine i_yes ?_
  | with_reducible refine k_T ?_
  | with_reducible refine k_F ?_
  | with_reducible refine k_True ?_
  | with_reducible refine k_False ?_
  | with_reducible refine i_eqI ?_
  | with_reducible refine i_neI ?_
  | with_reducible refine i_addI ?_
  | with_reducible refine i_addHI ?_
  | with_reducible refine i_callT ?_
  | with_reducible refine i_callH ?_
  | ((with_reducible refine' o_Ts ?e ?_); (case e => rfl))
  | with_reducible refine o_T ?_
  | ((with_reducible refine' o_TF ?e ?_); (case e => rfl))
  | with_reducible refine o_H ?_
  | ((with_reducible refine' o_HF ?e ?_); (case e => rfl))
  | with_reducible refine i_next ?_
  | with_reducible refine i_drop ?_
  | with_reducible refine i_ret ?_
  | with_reducible refine i_retN ?_
  | ((with_reducible refine' i_gTup ?e ?_); (case e => rfl))
  | with_reducible refine i_gCons ?_
  | with_reducible refine i_gNil ?_
  | with_reducible refine i_min2 ?_
  | with_reducible refine i_max2 ?_
  | with_reducible refine i_par ?_
  | with_reducible refine o_W2 ?_
  | ((with_reducible refine' i_aug ?e ?_); (case e => rfl))
  | with_reducible refine i_intI ?_
  | with_reducible refine i_intB ?_
  | with_reducible refine i_lc ?_
  | with_reducible refine i_for ?_
  | with_reducible refine i_while ?_
  | with_reducible refine i_itL ?_
  | ((with_reducible refine' o_Lq ?e ?_); (case e => rfl))
  | with_reducible refine i_itR1 ?_
  | with_reducible refine i_itR2 ?_
  | with_reducible refine o_I1 ?_
  | with_reducible refine o_I2 ?_
  | with_reducible refine e_t ?_
  | ((with_reducible refine' e_h ?e ?p ?_); (case e => rfl); (case p => rfl))
  | with_reducible refine i_M ?_
  | with_reducible refine i_M0 ?_
  | with_reducible refine i_gSub ?_
  | with_reducible refine i_finH ?_
  | with_reducible refine i_finT ?_
  | with_reducible refine i_sl ?_
  | with_reducible refine i_slH ?_
  | with_reducible refine i_slT ?_
  | with_reducible refine i_noPart ?_
  | with_reducible refine i_part ?_
  | ((with_reducible refine' i_frzT ?e ?_); (case e => rfl))
  | ((with_reducible refine' i_frzH ?e ?m ?t ?_); (case e => rfl); (case m => rfl); (case t => rfl))
  | ((with_reducible refine' i_din ?k ?e ?_); (case k => rfl); (case e => rfl))
  | ((with_reducible refine' i_dnotin ?k ?e ?_); (case k => rfl); (case e => rfl))
  | with_reducible refine i_dput ?_
  | with_reducible refine i_newD ?_
  | with_reducible refine i_lstH ?_
  | with_reducible refine i_lst ?_
  | with_reducible refine i_tup ?_
  | with_reducible refine i_break ?_
  | with_reducible refine i_cont ?_
  | with_reducible refine i_callS ?_
  | ((with_reducible refine' i_ixHW ?e ?v ?_); (case e => first | rfl | assumption); (case v => first | assumption | rfl))
  | ((with_reducible refine' i_ixHT ?e ?v ?_); (case e => first | rfl | assumption); (case v => first | assumption | rfl))
  | ((with_reducible refine' i_lenHT ?e ?_); (case e => first | rfl | assumption))
  | ((with_reducible refine' i_lenHW ?e ?_); (case e => first | rfl | assumption))
  | ((with_reducible refine' i_frzH ?e ?m ?t ?_); (case e => rfl); (case m => rfl); (case t => rfl))
  | ((with_reducible refine' i_unw ?e ?n ?_); (case e => rfl); (case n => rfl))
  | with_reducible refine i_gwCons ?_
  | with_reducible refine i_gwNil ?_
  | with_reducible refine i_lstW ?_
  | ((with_reducible refine' i_gList ?e ?n ?_); (case e => rfl); (case n => rfl))
  | with_reducible refine i_listRgH ?_
  | with_reducible refine i_listRg ?_
  | with_reducible refine i_R1 ?_
  | with_reducible refine i_getD ?_
  | ((with_reducible refine' i_none ?k ?_); (case k => rfl))
  | walk_at "dn")
local macro_rules | `(tactic| walk_at "dl") => `(tactic| ((try walk_at "dn"); repeat walk_at "d1"))
/-! the order of a part -/
def C_must_be_part : PC := fun ts Q => ∃ (w : Web) (p : Nat), ts = [w.t, .int p] ∧ w.Ok ∧ p < w.places.length ∧ Q (.t .non)
theorem ln_must_be_part : ∀ ts Q, C_must_be_part ts Q → ts.length = ["web", "part"].length := by rintro ts Q ⟨_, _, rfl, _⟩; rfl
def rd_must_be_part : DSt :=
  dSeq (dDrop (dCallT C_must_be_web (dCons (dVar 0) (dNil))))
  (dIfS (dOr (dB (d2 (fI0 fun i j => .bl (decide (i < j))) (dVar 1) (dC (.int 0)))) (dB (d2 (fI0 fun i j => .bl (decide (j ≤ i))) (dVar 1) (dN fLen (dCons (d2 fIx (dVar 0) (dC (.int 0))) (dNil)))))) (dNever) (dNext))

theorem rp_must_be_part : ∀ ts Q, C_must_be_part ts Q → rd_must_be_part ⟨FinP Q (.t .non), FinP Q, fun _ => False, fun _ => False⟩ ⟨ts.map (fun t => some (W.t t)) ++ List.replicate (2 - ts.length) none, []⟩ := by
  rintro ts Q ⟨w, p, rfl, hok, hp, hQ⟩
  unfold rd_must_be_part
  walk_at "dl"
  refine ⟨w, rfl, hok, ?_⟩
  unfold Web.t
  walk_at "dl"
  refine k_dF (by omega) ?_
  walk_at "dl"
  rw [List.length_map]
  refine k_dF (by omega) ?_
  walk_at "dl"
  exact hQ
/-- the goals of a part's rows that begin in xs -/
def Web.ledTo (w : Web) (p : Int) (xs : List Int) : List Int := ((w.rowsOf p).filter fun k => decide ((w.row k).s ∈ xs)).map fun k => (w.row k).e
def C_led_to : PC := fun ts Q => ∃ (w : Web) (p : Int) (xs : List Int), ts = [w.t, .int p, .lst (xs.map T.int)] ∧ w.rows.length ≤ 1000 ∧ Q (.f (.lt ((w.ledTo p xs).map T.int)))
theorem ln_led_to : ∀ ts Q, C_led_to ts Q → ts.length = ["web", "part", "some"].length := by rintro ts Q ⟨_, _, _, rfl, _⟩; rfl
def rd_led_to : DSt :=
  dRet (dLc finH (diL (dCallT C_rows_of (dCons (dVar 0) (dCons (dVar 1) (dNil))))) (dgN 3) (dB (d2 (fIn false) (d2 fIx (d2 fIx (d2 fIx (dVar 0) (dC (.int 1))) (dVar 3)) (dC (.int 1))) (dVar 2))) (d2 fIx (d2 fIx (d2 fIx (dVar 0) (dC (.int 1))) (dVar 3)) (dC (.int 2))) [3])

theorem i_inI {g : G} {Q : W → G → Prop} {x : Int} {y : W} {xs : List Int} (e : g.seq? y = some (xs.map T.int)) (h : Q (.t (.bl (decide (x ∈ xs)))) g) : fIn false g (.t (.int x)) y Q := by
  refine i_in e rfl (fun t ht => ?_) ?_
  · obtain ⟨i, _, rfl⟩ := List.mem_map.mp ht
    rfl
  · rw [inT_ints]
    exact h
theorem i_ninI {g : G} {Q : W → G → Prop} {x : Int} {y : W} {xs : List Int} (e : g.seq? y = some (xs.map T.int)) (h : Q (.t (.bl (!decide (x ∈ xs)))) g) : fIn true g (.t (.int x)) y Q := by
  refine i_notIn e rfl (fun t ht => ?_) ?_
  · obtain ⟨i, _, rfl⟩ := List.mem_map.mp ht
    rfl
  · rw [inT_ints]
    exact h
theorem rowsOf_len (w : Web) (p : Int) : (w.rowsOf p).length ≤ w.rows.length := by
  unfold Web.rowsOf
  exact Nat.le_trans (List.length_filter_le _ _) (by rw [List.length_range]; exact Nat.le_refl _)
theorem rp_led_to : ∀ ts Q, C_led_to ts Q → rd_led_to ⟨FinP Q (.t .non), FinP Q, fun _ => False, fun _ => False⟩ ⟨ts.map (fun t => some (W.t t)) ++ List.replicate (4 - ts.length) none, []⟩ := by
  rintro ts Q ⟨w, p, xs, rfl, hl, hQ⟩
  unfold rd_led_to
  walk_at "dl"
  refine ⟨w, p, rfl, hl, ?_⟩
  walk_at "dl"
  have hrl := rowsOf_len w p
  refine lcP (w.rowsOf p) (fun k => W.t (natT k)) (fun k => decide ((w.row k).s ∈ xs)) (fun k => .int (w.row k).e) (by rw [List.map_map]; rfl) (lineLe (by omega)) rfl ?_ rfl ?_
  · intro k hk Y N2 hY hN2
    have hr := row_at (mem_rowsOf.mp hk).1
    unfold natT Web.t Row.t at *
    walk_at "dl"
    refine i_inI rfl ?_
    walk_at "dl"
    refine k_d (fun h => ?_) (fun h => ?_)
    · walk_at "dl"
      exact hY (decide_eq_true h) _ rfl
    · exact hN2 (decide_eq_false h) _ rfl
  · walk_at "dl"
    have e : (((w.rowsOf p).filter fun k => decide ((w.row k).s ∈ xs)).map fun k => T.int (w.row k).e) = (w.ledTo p xs).map T.int := by
      unfold Web.ledTo
      rw [List.map_map]
      rfl
    rw [← e] at hQ
    exact hQ
theorem mem_ledTo {w : Web} {p : Int} {xs : List Int} {x : Int} : x ∈ w.ledTo p xs ↔ ∃ r ∈ w.rows, r.p = p ∧ r.s ∈ xs ∧ r.e = x := by
  unfold Web.ledTo
  rw [List.mem_map]
  constructor
  · rintro ⟨k, hk, rfl⟩
    rw [List.mem_filter] at hk
    obtain ⟨h1, h2⟩ := mem_rowsOf.mp hk.1
    exact ⟨w.row k, row_mem h1, h2, of_decide_eq_true hk.2, rfl⟩
  · rintro ⟨r, hr, h1, h2, h3⟩
    obtain ⟨k, hk⟩ := List.getElem?_of_mem hr
    have hkl : k < w.rows.length := (List.getElem?_eq_some_iff.mp hk).1
    have hw : w.row k = r := by
      unfold Web.row
      rw [List.getD_eq_getElem?_getD, hk]
      rfl
    refine ⟨k, ?_, by rw [hw]; exact h3⟩
    rw [List.mem_filter]
    exact ⟨mem_rowsOf.mpr ⟨hkl, by rw [hw]; exact h1⟩, decide_eq_true (by rw [hw]; exact h2)⟩
/-- what order_of hands back -/
structure Topo (w : Web) (p : Int) (L : List Int) : Prop where
  nd : L.Nodup
  inr : ∀ x ∈ L, 0 ≤ x ∧ x < w.place p
  bef : ∀ pre x post, L = pre ++ x :: post → ∀ r ∈ w.rows, r.p = p → r.e = x → r.s ∈ pre
  full : (∀ x, 0 ≤ x → x < w.place p → x ∈ L) ∨ ∃ S : List Int, S ≠ [] ∧ (∀ x ∈ S, 0 ≤ x ∧ x < w.place p) ∧ ∀ x ∈ S, ∃ r ∈ w.rows, r.p = p ∧ r.s ∈ S ∧ r.e = x

end DL

namespace DL
open PySem PySem.Spec L2
local macro_rules | `(tactic| walk_at "dn") => `(tactic| simp only [purse_set2, purse_set3, purse_set4, purse_set5, purse_app, purse_len, purse_start, purse_l, G.set, G.put, G.push, G.wipe, wipeW, G.rs, rsW, List.set_cons_zero, List.set_cons_succ, List.map_cons, List.map_nil, List.length_cons, List.length_nil, List.nil_append, List.cons_append, List.replicate_succ, List.replicate_zero, Nat.reduceAdd, Nat.reduceSub, List.getD_cons_zero, List.getD_cons_succ, Option.getD_some, Option.getD_none])
local macro_rules | `(tactic| walk_at "d1") => `(tactic| first
  | with_reducible refine i_seq ?_
  | with_reducible refine i_asg ?_
  | with_reducible refine i_d2 ?_
  | ((with_reducible refine' i_var ?e ?_); (case e => rfl))
  | with_reducible refine i_c ?_
  | ((with_reducible refine' i_ix ?e ?v ?_); (case e => rfl); (case v => first | assumption | rfl))
  | with_reducible refine i_fI0 ?_
  | with_reducible refine i_gN ?_
  | with_reducible refine i_cons ?_
  | with_reducible refine i_nil ?_
  | with_reducible refine i_dN ?_
  | ((with_reducible refine' i_len ?e ?_); (case e => rfl))
  | with_reducible refine i_d1 ?_
  | with_reducible refine i_neg ?_
  | with_reducible refine i_B ?_
  | with_reducible refine o_B ?_
  | with_reducible refine o_I ?_
  | with_reducible refine i_ifS ?_
  | with_reducible refine i_or ?_
  | with_reducible refine i_and ?_
  | with_reducible refine i_not ?_
  | with_reducible refine i_andV ?_
  | with_reducible refine i_orV ?_
  | with_reducible refine i_notV ?_
  | with_reducible refine i_if ?_
  | with_reducible refine i_yes ?_
  | with_reducible refine k_T ?_
  | with_reducible refine k_F ?_
  | with_reducible refine k_True ?_
  | with_reducible refine k_False ?_
  | with_reducible refine i_eqI ?_
  | with_reducible refine i_neI ?_
  | with_reducible refine i_addI ?_
  | with_reducible refine i_addHI ?_
  | with_reducible refine i_callT ?_
  | with_reducible refine i_callH ?_
  | ((with_reducible refine' o_Ts ?e ?_); (case e => rfl))
  | with_reducible refine o_T ?_
  | ((with_reducible refine' o_TF ?e ?_); (case e => rfl))
  | with_reducible refine o_H ?_
  | ((with_reducible refine' o_HF ?e ?_); (case e => rfl))
  | with_reducible refine i_next ?_
  | with_reducible refine i_drop ?_
  | with_reducible refine i_ret ?_
  | with_reducible refine i_retN ?_
  | ((with_reducible refine' i_gTup ?e ?_); (case e => rfl))
  | with_reducible refine i_gCons ?_
  | with_reducible refine i_gNil ?_
  | with_reducible refine i_min2 ?_
  | with_reducible refine i_max2 ?_
  | with_reducible refine i_par ?_
  | with_reducible refine o_W2 ?_
  | ((with_reducible refine' i_aug ?e ?_); (case e => rfl))
  | with_reducible refine i_intI ?_
  | with_reducible refine i_intB ?_
  | with_reducible refine i_lc ?_
  | with_reducible refine i_for ?_
  | with_reducible refine i_while ?_
  | with_reducible refine i_itL ?_
  | ((with_reducible refine' o_Lq ?e ?_); (case e => rfl))
  | with_reducible refine i_itR1 ?_
  | with_reducible refine i_itR2 ?_
  | with_reducible refine o_I1 ?_
  | with_reducible refine o_I2 ?_
  | with_reducible refine e_t ?_
  | ((with_reducible refine' e_h ?e ?p ?_); (case e => rfl); (case p => rfl))
  | with_reducible refine i_M ?_
  | with_reducible refine i_M0 ?_
  | with_reducible refine i_gSub ?_
  | with_reducible refine i_finH ?_
  | with_reducible refine i_finT ?_
  | with_reducible refine i_sl ?_
  | with_reducible refine i_slH ?_
  | with_reducible refine i_slT ?_
  | with_reducible refine i_noPart ?_
  | with_reducible refine i_part ?_
  | ((with_reducible refine' i_frzT ?e ?_); (case e => rfl))
  | ((with_reducible refine' i_frzH ?e ?m ?t ?_); (case e => rfl); (case m => rfl); (case t => rfl))
  | ((with_reducible refine' i_din ?k ?e ?_); (case k => rfl); (case e => rfl))
  | ((with_reducible refine' i_dnotin ?k ?e ?_); (case k => rfl); (case e => rfl))
  | with_reducible refine i_dput ?_
  | with_reducible refine i_newD ?_
  | with_reducible refine i_lstH ?_
  | with_reducible refine i_lst ?_
  | with_reducible refine i_tup ?_
  | with_reducible refine i_break ?_
  | with_reducible refine i_cont ?_
  | with_reducible refine i_callS ?_
  | ((with_reducible refine' i_ixHW ?e ?v ?_); (case e => first | rfl | assumption); (case v => first | assumption | rfl))
  | ((with_reducible refine' i_ixHT ?e ?v ?_); (case e => first | rfl | assumption); (case v => first | assumption | rfl))
  | ((with_reducible refine' i_lenHT ?e ?_); (case e => first | rfl | assumption))
  | ((with_reducible refine' i_lenHW ?e ?_); (case e => first | rfl | assumption))
  | ((with_reducible refine' i_frzH ?e ?m ?t ?_); (case e => rfl); (case m => rfl); (case t => rfl))
  | ((with_reducible refine' i_unw ?e ?n ?_); (case e => rfl); (case n => rfl))
  | with_reducible refine i_gwCons ?_
  | with_reducible refine i_gwNil ?_
  | with_reducible refine i_lstW ?_
  | ((with_reducible refine' i_gList ?e ?n ?_); (case e => rfl); (case n => rfl))
  | with_reducible refine i_listRgH ?_
  | with_reducible refine i_listRg ?_
  | with_reducible refine i_R1 ?_
  | with_reducible refine i_getD ?_
  | ((with_reducible refine' i_none ?k ?_); (case k => rfl))
  | walk_at "dn")
local macro_rules | `(tactic| walk_at "dl") => `(tactic| ((try walk_at "dn"); repeat walk_at "d1"))
def upN (n : Int) : List Int := (List.range n.toNat).map fun k => ((k : Nat) : Int)
theorem mem_upN {n x : Int} : x ∈ upN n ↔ 0 ≤ x ∧ x < n := by
  unfold upN
  rw [List.mem_map]
  constructor
  · rintro ⟨k, hk, rfl⟩
    rw [List.mem_range] at hk
    omega
  · rintro ⟨h0, h1⟩
    exact ⟨x.toNat, by rw [List.mem_range]; omega, by omega⟩
theorem nd_upN (n : Int) : (upN n).Nodup := by
  unfold upN
  rw [List.nodup_iff_pairwise_ne, List.pairwise_map]
  exact List.Pairwise.imp (fun hab e => hab (by omega)) List.nodup_range
theorem len_upN (n : Int) : (upN n).length = n.toNat := by unfold upN; rw [List.length_map, List.length_range]
theorem rgT_up (n : Int) : rgT 0 n = (upN n).map T.int := by
  unfold rgT upN
  rw [List.map_map, show (n - 0).toNat = n.toNat by omega]
  refine List.map_congr_left fun k _ => ?_
  show T.int (0 + (k : Nat)) = T.int (k : Nat)
  rw [Int.zero_add]
/-- within order_of -/
structure KI (w : Web) (p : Int) (found left : List Int) : Prop where
  nd : (found ++ left).Nodup
  mem : ∀ x, x ∈ found ++ left ↔ 0 ≤ x ∧ x < w.place p
  bef : ∀ pre x post, found = pre ++ x :: post → ∀ r ∈ w.rows, r.p = p → r.e = x → r.s ∈ pre
theorem KI.len {w : Web} {p : Int} {found left : List Int} (h : KI w p found left) : found.length + left.length ≤ (w.place p).toNat := by
  have := h.nd.length_le_of_subset (l₂ := upN (w.place p)) fun x hx => mem_upN.mpr ((h.mem x).mp hx)
  rw [List.length_append, len_upN] at this
  exact this
def freeOf (w : Web) (p : Int) (left : List Int) : List Int := left.filter fun x => !decide (x ∈ w.ledTo p left)
def leftOf (left free : List Int) : List Int := left.filter fun x => !decide (x ∈ free)
theorem mem_free {w : Web} {p : Int} {left : List Int} {x : Int} : x ∈ freeOf w p left ↔ x ∈ left ∧ x ∉ w.ledTo p left := by
  unfold freeOf
  rw [List.mem_filter]
  simp
theorem mem_leftOf {left free : List Int} {x : Int} : x ∈ leftOf left free ↔ x ∈ left ∧ x ∉ free := by
  unfold leftOf
  rw [List.mem_filter]
  simp
theorem split_app {α : Type} {xs ys pre post : List α} {x : α} (h : xs ++ ys = pre ++ x :: post) : (∃ post', xs = pre ++ x :: post') ∨ (∃ pre', pre = xs ++ pre' ∧ ys = pre' ++ x :: post) := by
  rcases List.append_eq_append_iff.mp h with ⟨as, h1, h2⟩ | ⟨bs, h1, h2⟩
  · exact .inr ⟨as, h1, h2⟩
  · cases bs with
    | nil => exact .inr ⟨[], by rw [h1, List.append_nil, List.append_nil], by rw [List.nil_append]; rw [List.nil_append] at h2; exact h2.symm⟩
    | cons b bs =>
      rw [List.cons_append] at h2
      cases h2
      exact .inl ⟨bs, h1⟩
theorem KI.next {w : Web} {p : Int} {found left : List Int} (hok : ∀ r ∈ w.rows, w.rowOk r) (h : KI w p found left) : KI w p (found ++ freeOf w p left) (leftOf left (freeOf w p left)) := by
  have hnd := List.nodup_append.mp h.nd
  refine ⟨?_, fun x => ?_, fun pre x post hs r hr hp he => ?_⟩
  · rw [List.nodup_append]
    refine ⟨?_, hnd.2.1.filter _, ?_⟩
    · rw [List.nodup_append]
      exact ⟨hnd.1, hnd.2.1.filter _, fun a ha b hb => hnd.2.2 a ha b (mem_free.mp hb).1⟩
    · intro a ha b hb e
      subst e
      have hb' := mem_leftOf.mp hb
      rcases List.mem_append.mp ha with ha | ha
      · exact hnd.2.2 a ha a hb'.1 rfl
      · exact hb'.2 ha
  · rw [← h.mem x, List.mem_append, List.mem_append, List.mem_append, mem_leftOf]
    constructor
    · rintro ((h1 | h1) | h1)
      · exact .inl h1
      · exact .inr (mem_free.mp h1).1
      · exact .inr h1.1
    · rintro (h1 | h1)
      · exact .inl (.inl h1)
      · by_cases hf : x ∈ freeOf w p left
        · exact .inl (.inr hf)
        · exact .inr ⟨h1, hf⟩
  · rcases split_app hs with ⟨post', h1⟩ | ⟨pre', h1, h2⟩
    · exact h.bef pre x post' h1 r hr hp he
    · have hx : x ∈ freeOf w p left := by rw [h2]; simp
      have hn := (mem_free.mp hx).2
      have hro := hok r hr
      unfold Web.rowOk at hro
      have hin : r.s ∈ found ++ left := (h.mem r.s).mpr ⟨by omega, by rw [← hp]; omega⟩
      rcases List.mem_append.mp hin with h3 | h3
      · rw [h1]
        exact List.mem_append_left _ h3
      · exact absurd (mem_ledTo.mpr ⟨r, hr, hp, h3, he⟩) hn
theorem KI.stop {w : Web} {p : Int} {found left : List Int} (h : KI w p found left) (hf : freeOf w p left = []) : Topo w p found := by
  refine ⟨(List.nodup_append.mp h.nd).1, fun x hx => (h.mem x).mp (List.mem_append_left _ hx), h.bef, ?_⟩
  by_cases hl : left = []
  · subst hl
    exact .inl fun x h0 h1 => by
      have := (h.mem x).mpr ⟨h0, h1⟩
      rw [List.append_nil] at this
      exact this
  · refine .inr ⟨left, hl, fun x hx => (h.mem x).mp (List.mem_append_right _ hx), fun x hx => ?_⟩
    have : x ∈ w.ledTo p left := Classical.byContradiction fun hn => by
      have := mem_free.mpr ⟨hx, hn⟩
      rw [hf] at this
      exact List.not_mem_nil this
    obtain ⟨r, hr, h1, h2, h3⟩ := mem_ledTo.mp this
    exact ⟨r, hr, h1, h2, h3⟩
def C_order_of : PC := fun ts Q => ∃ (w : Web) (p : Nat), ts = [w.t, .int p] ∧ w.Ok ∧ p < w.places.length ∧ ∀ L : List Int, Topo w p L → Q (.t (.lst (L.map T.int)))
theorem ln_order_of : ∀ ts Q, C_order_of ts Q → ts.length = ["web", "part"].length := by rintro ts Q ⟨_, _, rfl, _⟩; rfl
def rd_order_of : DSt :=
  dSeq (dAsg (dLst (dNil)) (dgN 2))
  (dSeq (dAsg (dLstRg (dR1 (d2 fIx (d2 fIx (dVar 0) (dC (.int 0))) (dVar 1)))) (dgN 3))
  (dSeq (dAsg (dLc finT (diL (dVar 3)) (dgN 6) (dB (d2 (fIn true) (dVar 6) (dCallT C_led_to (dCons (dVar 0) (dCons (dVar 1) (dCons (dVar 3) (dNil))))))) (dVar 6) [6]) (dgN 4))
  (dSeq (dWhile (dB (d2 (fI0 fun i j => .bl (decide (j < i))) (dN fLen (dCons (dVar 4) (dNil))) (dC (.int 0)))) (dSeq (dAsg (d2 fAdd (dVar 2) (dVar 4)) (dgN 2))
  (dSeq (dAsg (dLc finT (diL (dVar 3)) (dgN 6) (dB (d2 (fIn true) (dVar 6) (dVar 4))) (dVar 6) [6]) (dgN 3))
  (dSeq (dAsg (dCallT C_led_to (dCons (dVar 0) (dCons (dVar 1) (dCons (dVar 3) (dNil))))) (dgN 5))
  (dAsg (dLc finT (diL (dVar 3)) (dgN 6) (dB (d2 (fIn true) (dVar 6) (dVar 5))) (dVar 6) [6]) (dgN 4))))))
  (dRet (dVar 2)))))

theorem rp_order_of : ∀ ts Q, C_order_of ts Q → rd_order_of ⟨FinP Q (.t .non), FinP Q, fun _ => False, fun _ => False⟩ ⟨ts.map (fun t => some (W.t t)) ++ List.replicate (7 - ts.length) none, []⟩ := by
  rintro ts Q ⟨w, p, rfl, hok, hp, hQ⟩
  have h1 := hok.1
  have hpl := hok.2.1 _ (place_mem hp)
  have pa := place_at (w := w) (i := (p : Int)) (by omega) (by omega)
  unfold rd_order_of Web.t
  walk_at "dl"
  refine ⟨by decide, ?_⟩
  walk_at "dl"
  refine ⟨⟨by decide, by decide, by omega, by omega⟩, ?_⟩
  rw [rgT_up]
  walk_at "dl"
  refine lcP (upN (w.place p)) (fun x => W.t (.int x)) (fun x => !decide (x ∈ w.ledTo p (upN (w.place p)))) T.int (by rw [List.map_map]; rfl) (lineLe (by rw [len_upN]; omega)) rfl ?_ rfl ?_
  · intro x hx Y N2 hY hN2
    walk_at "dl"
    refine ⟨w, p, upN (w.place p), rfl, by omega, ?_⟩
    walk_at "dl"
    refine i_ninI rfl ?_
    walk_at "dl"
    refine k_n (fun h => ?_) (fun h => ?_)
    · walk_at "dl"
      exact hY (by simp [h]) _ rfl
    · exact hN2 (by simp [h]) _ rfl
  walk_at "dl"
  refine ⟨fun m g' => ∃ (found left : List Int) (o5 : Option W), g' = ⟨[some (.t w.t), some (.t (.int p)), some (.t (.lst (found.map T.int))), some (.t (.lst (left.map T.int))), some (.t (.lst ((freeOf w p left).map T.int))), o5, none], []⟩ ∧ KI w p found left ∧ m = left.length,
    ⟨_, [], upN (w.place p), none, rfl, ⟨by rw [List.nil_append]; exact nd_upN _, fun x => by rw [List.nil_append]; exact mem_upN, fun pre x post h => by simp at h⟩, rfl⟩, ?_⟩
  rintro m g' ⟨found, left, o5, rfl, hK, rfl⟩
  have hlen := hK.len
  have hfl : (freeOf w p left).length ≤ left.length := List.length_filter_le _ _
  have hK2 := hK.next hok.2.2.1
  have hlen2 := hK2.len
  unfold Web.t
  walk_at "dl"
  rw [List.length_map]
  refine k_d (fun hlt => ?_) (fun hge => ?_)
  · walk_at "dl"
    refine i_addL (xs := found.map T.int) (ys := (freeOf w p left).map T.int) rfl rfl (lineLe (by rw [List.length_map, List.length_map]; omega)) ?_
    rw [← List.map_append]
    walk_at "dl"
    refine lcP left (fun x => W.t (.int x)) (fun x => !decide (x ∈ freeOf w p left)) T.int (by rw [List.map_map]; rfl) (lineLe (by omega)) rfl ?_ rfl ?_
    · intro x hx Y N2 hY hN2
      walk_at "dl"
      refine i_ninI rfl ?_
      walk_at "dl"
      refine k_n (fun h => ?_) (fun h => ?_)
      · walk_at "dl"
        exact hY (by simp [h]) _ rfl
      · exact hN2 (by simp [h]) _ rfl
    have hl2 : (leftOf left (freeOf w p left)).length < left.length := by
      obtain ⟨x, hx⟩ := List.exists_mem_of_length_pos (l := freeOf w p left) (by omega)
      refine List.length_filter_lt_length_iff_exists.mpr ⟨x, (mem_free.mp hx).1, by simp [hx]⟩
    show finT (((leftOf left (freeOf w p left)).map T.int).map W.t) _ _
    walk_at "dl"
    refine ⟨w, p, leftOf left (freeOf w p left), rfl, by omega, ?_⟩
    walk_at "dl"
    refine lcP (leftOf left (freeOf w p left)) (fun x => W.t (.int x)) (fun x => !decide (x ∈ w.ledTo p (leftOf left (freeOf w p left)))) T.int (by rw [List.map_map]; rfl) (lineLe (by omega)) rfl ?_ rfl ?_
    · intro x hx Y N2 hY hN2
      walk_at "dl"
      refine i_ninI rfl ?_
      walk_at "dl"
      refine k_n (fun h => ?_) (fun h => ?_)
      · walk_at "dl"
        exact hY (by simp [h]) _ rfl
      · exact hN2 (by simp [h]) _ rfl
    walk_at "dl"
    exact ⟨_, hl2, _, _, _, rfl, hK2, rfl⟩
  · walk_at "dl"
    have hf : freeOf w p left = [] := List.eq_nil_of_length_eq_zero (by omega)
    exact hQ found (hK.stop hf)

end DL

namespace DL
open PySem PySem.Spec L2
local macro_rules | `(tactic| walk_at "dn") => `(tactic| simp only [purse_set2, purse_set3, purse_set4, purse_set5, purse_app, purse_len, purse_start, purse_l, G.set, G.put, G.push, G.wipe, wipeW, G.rs, rsW, List.set_cons_zero, List.set_cons_succ, List.map_cons, List.map_nil, List.length_cons, List.length_nil, List.nil_append, List.cons_append, List.replicate_succ, List.replicate_zero, Nat.reduceAdd, Nat.reduceSub, List.getD_cons_zero, List.getD_cons_succ, Option.getD_some, Option.getD_none])
local macro_rules | `(tactic| walk_at "d1") => `(tactic| first
  | with_reducible refine i_seq ?_
  | with_reducible refine i_asg ?_
  | with_reducible refine i_d2 ?_
  | ((with_reducible refine' i_var ?e ?_); (case e => rfl))
  | with_reducible refine i_c ?_
  | ((with_reducible refine' i_ix ?e ?v ?_); (case e => rfl); (case v => first | assumption | rfl))
  | with_reducible refine i_fI0 ?_
  | with_reducible refine i_gN ?_
  | with_reducible refine i_cons ?_
  | with_reducible refine i_nil ?_
  | with_reducible refine i_dN ?_
  | ((with_reducible refine' i_len ?e ?_); (case e => rfl))
  | with_reducible refine i_d1 ?_
  | with_reducible refine i_neg ?_
  | with_reducible refine i_B ?_
  | with_reducible refine o_B ?_
  | with_reducible refine o_I ?_
  | with_reducible refine i_ifS ?_
  | with_reducible refine i_or ?_
  | with_reducible refine i_and ?_
  | with_reducible refine i_not ?_
  | with_reducible refine i_andV ?_
  | with_reducible refine i_orV ?_
  | with_reducible refine i_notV ?_
  | with_reducible refine i_if ?_
  | with_reducible refine i_yes ?_
  | with_reducible refine k_T ?_
  | with_reducible refine k_F ?_
  | with_reducible refine k_True ?_
  | with_reducible refine k_False ?_
  | with_reducible refine i_eqI ?_
  | with_reducible refine i_neI ?_
  | with_reducible refine i_addI ?_
  | with_reducible refine i_addHI ?_
  | with_reducible refine i_callT ?_
  | with_reducible refine i_callH ?_
  | ((with_reducible refine' o_Ts ?e ?_); (case e => rfl))
  | with_reducible refine o_T ?_
  | ((with_reducible refine' o_TF ?e ?_); (case e => rfl))
  | with_reducible refine o_H ?_
  | ((with_reducible refine' o_HF ?e ?_); (case e => rfl))
  | with_reducible refine i_next ?_
  | with_reducible refine i_drop ?_
  | with_reducible refine i_ret ?_
  | with_reducible refine i_retN ?_
  | ((with_reducible refine' i_gTup ?e ?_); (case e => rfl))
  | with_reducible refine i_gCons ?_
  | with_reducible refine i_gNil ?_
  | with_reducible refine i_min2 ?_
  | with_reducible refine i_max2 ?_
  | with_reducible refine i_par ?_
  | with_reducible refine o_W2 ?_
  | ((with_reducible refine' i_aug ?e ?_); (case e => rfl))
  | with_reducible refine i_intI ?_
  | with_reducible refine i_intB ?_
  | with_reducible refine i_lc ?_
  | with_reducible refine i_for ?_
  | with_reducible refine i_while ?_
  | with_reducible refine i_itL ?_
  | ((with_reducible refine' o_Lq ?e ?_); (case e => rfl))
  | with_reducible refine i_itR1 ?_
  | with_reducible refine i_itR2 ?_
  | with_reducible refine o_I1 ?_
  | with_reducible refine o_I2 ?_
  | with_reducible refine e_t ?_
  | ((with_reducible refine' e_h ?e ?p ?_); (case e => rfl); (case p => rfl))
  | with_reducible refine i_M ?_
  | with_reducible refine i_M0 ?_
  | with_reducible refine i_gSub ?_
  | with_reducible refine i_finH ?_
  | with_reducible refine i_finT ?_
  | with_reducible refine i_sl ?_
  | with_reducible refine i_slH ?_
  | with_reducible refine i_slT ?_
  | with_reducible refine i_noPart ?_
  | with_reducible refine i_part ?_
  | ((with_reducible refine' i_frzT ?e ?_); (case e => rfl))
  | ((with_reducible refine' i_frzH ?e ?m ?t ?_); (case e => rfl); (case m => rfl); (case t => rfl))
  | ((with_reducible refine' i_din ?k ?e ?_); (case k => rfl); (case e => rfl))
  | ((with_reducible refine' i_dnotin ?k ?e ?_); (case k => rfl); (case e => rfl))
  | with_reducible refine i_dput ?_
  | with_reducible refine i_newD ?_
  | with_reducible refine i_lstH ?_
  | with_reducible refine i_lst ?_
  | with_reducible refine i_tup ?_
  | with_reducible refine i_break ?_
  | with_reducible refine i_cont ?_
  | with_reducible refine i_callS ?_
  | ((with_reducible refine' i_ixHW ?e ?v ?_); (case e => first | rfl | assumption); (case v => first | assumption | rfl))
  | ((with_reducible refine' i_ixHT ?e ?v ?_); (case e => first | rfl | assumption); (case v => first | assumption | rfl))
  | ((with_reducible refine' i_lenHT ?e ?_); (case e => first | rfl | assumption))
  | ((with_reducible refine' i_lenHW ?e ?_); (case e => first | rfl | assumption))
  | ((with_reducible refine' i_frzH ?e ?m ?t ?_); (case e => rfl); (case m => rfl); (case t => rfl))
  | ((with_reducible refine' i_unw ?e ?n ?_); (case e => rfl); (case n => rfl))
  | with_reducible refine i_gwCons ?_
  | with_reducible refine i_gwNil ?_
  | with_reducible refine i_lstW ?_
  | ((with_reducible refine' i_gList ?e ?n ?_); (case e => rfl); (case n => rfl))
  | with_reducible refine i_listRgH ?_
  | with_reducible refine i_listRg ?_
  | with_reducible refine i_R1 ?_
  | with_reducible refine i_getD ?_
  | ((with_reducible refine' i_none ?k ?_); (case k => rfl))
  | walk_at "dn")
local macro_rules | `(tactic| walk_at "dl") => `(tactic| ((try walk_at "dn"); repeat walk_at "d1"))
/-! loose parts -/
def Web.Loose (w : Web) (p : Int) : Prop := ∃ f : Int → Nat, ∀ r ∈ w.rows, r.p = p → f r.s < f r.e
theorem most_of (f : Int → Nat) : ∀ (S : List Int), S ≠ [] → ∃ x ∈ S, ∀ y ∈ S, f y ≤ f x
  | [], h => absurd rfl h
  | [x], _ => ⟨x, by simp, fun y hy => by simp at hy; rw [hy]; exact Nat.le_refl _⟩
  | x :: z :: S, _ => by
    obtain ⟨y, hy, h⟩ := most_of f (z :: S) (by simp)
    by_cases e : f y ≤ f x
    · refine ⟨x, by simp, fun u hu => ?_⟩
      rcases List.mem_cons.mp hu with rfl | hu
      · exact Nat.le_refl _
      · exact Nat.le_trans (h u hu) e
    · refine ⟨y, List.mem_cons_of_mem _ hy, fun u hu => ?_⟩
      rcases List.mem_cons.mp hu with rfl | hu
      · omega
      · exact h u hu
theorem least_of (f : Int → Nat) : ∀ (S : List Int), S ≠ [] → ∃ x ∈ S, ∀ y ∈ S, f x ≤ f y
  | [], h => absurd rfl h
  | [x], _ => ⟨x, by simp, fun y hy => by simp at hy; rw [hy]; exact Nat.le_refl _⟩
  | x :: z :: S, _ => by
    obtain ⟨y, hy, h⟩ := least_of f (z :: S) (by simp)
    by_cases e : f x ≤ f y
    · refine ⟨x, by simp, fun u hu => ?_⟩
      rcases List.mem_cons.mp hu with rfl | hu
      · exact Nat.le_refl _
      · exact Nat.le_trans e (h u hu)
    · refine ⟨y, List.mem_cons_of_mem _ hy, fun u hu => ?_⟩
      rcases List.mem_cons.mp hu with rfl | hu
      · omega
      · exact h u hu
theorem Topo.cover {w : Web} {p : Int} {L : List Int} (h : Topo w p L) : L.length = (w.place p).toNat ↔ ∀ x, 0 ≤ x → x < w.place p → x ∈ L := by
  constructor
  · intro hl x h0 h1
    refine Classical.byContradiction fun hn => ?_
    have := (List.nodup_cons.mpr ⟨hn, h.nd⟩).length_le_of_subset (l₂ := upN (w.place p)) (fun y hy => by
      rcases List.mem_cons.mp hy with rfl | hy
      · exact mem_upN.mpr ⟨h0, h1⟩
      · exact mem_upN.mpr (h.inr y hy))
    rw [List.length_cons, len_upN] at this
    omega
  · intro hc
    have h1 := h.nd.length_le_of_subset (l₂ := upN (w.place p)) fun y hy => mem_upN.mpr (h.inr y hy)
    have h2 := (nd_upN (w.place p)).length_le_of_subset (l₂ := L) fun y hy => by
      have := mem_upN.mp hy
      exact hc y this.1 this.2
    rw [len_upN] at h1 h2
    omega
theorem idx_pre {pre post : List Int} {x : Int} (nd : (pre ++ x :: post).Nodup) : (pre ++ x :: post).idxOf x = pre.length := by
  have hx : x ∉ pre := fun hx => (List.nodup_append.mp nd).2.2 x hx x (by simp) rfl
  rw [List.idxOf_append, if_neg hx]
  simp
theorem Topo.rank {w : Web} {p : Int} {L : List Int} (hok : ∀ r ∈ w.rows, w.rowOk r) (h : Topo w p L) (hc : ∀ x, 0 ≤ x → x < w.place p → x ∈ L) : ∀ r ∈ w.rows, r.p = p → L.idxOf r.s < L.idxOf r.e := by
  intro r hr hp
  have hro := hok r hr
  unfold Web.rowOk at hro
  rw [hp] at hro
  have he := hc r.e (by omega) (by omega)
  obtain ⟨pre, post, e⟩ := List.append_of_mem he
  have hs := h.bef pre r.e post e r hr hp rfl
  have nd := h.nd
  rw [e] at nd ⊢
  rw [idx_pre nd, List.idxOf_append, if_pos hs]
  exact List.idxOf_lt_length_iff.mpr hs
theorem Topo.loose {w : Web} {p : Int} {L : List Int} (hok : ∀ r ∈ w.rows, w.rowOk r) (h : Topo w p L) : L.length = (w.place p).toNat ↔ w.Loose p := by
  rw [h.cover]
  constructor
  · exact fun hc => ⟨L.idxOf, h.rank hok hc⟩
  · rintro ⟨f, hf⟩
    rcases h.full with hc | ⟨S, hS, hin, hst⟩
    · exact hc
    · exfalso
      obtain ⟨x, hx, hm⟩ := least_of f S hS
      obtain ⟨r, hr, h1, h2, h3⟩ := hst x hx
      have a := hf r hr h1
      have b := hm r.s h2
      rw [h3] at a
      omega
def C_is_loose : PC := fun ts Q => ∃ (w : Web) (p : Nat), ts = [w.t, .int p] ∧ w.Ok ∧ p < w.places.length ∧ (w.Loose p → Q (.t (.bl true))) ∧ (¬ w.Loose p → Q (.t (.bl false)))
theorem ln_is_loose : ∀ ts Q, C_is_loose ts Q → ts.length = ["web", "part"].length := by rintro ts Q ⟨_, _, rfl, _⟩; rfl
def rd_is_loose : DSt :=
  dSeq (dDrop (dCallT C_must_be_part (dCons (dVar 0) (dCons (dVar 1) (dNil)))))
  (dRet (d2 (fEq false) (dN fLen (dCons (dCallT C_order_of (dCons (dVar 0) (dCons (dVar 1) (dNil)))) (dNil))) (d2 fIx (d2 fIx (dVar 0) (dC (.int 0))) (dVar 1))))

theorem rp_is_loose : ∀ ts Q, C_is_loose ts Q → rd_is_loose ⟨FinP Q (.t .non), FinP Q, fun _ => False, fun _ => False⟩ ⟨ts.map (fun t => some (W.t t)) ++ List.replicate (2 - ts.length) none, []⟩ := by
  rintro ts Q ⟨w, p, rfl, hok, hp, hT, hF⟩
  have hpl := hok.2.1 _ (place_mem hp)
  have pa := place_at (w := w) (i := (p : Int)) (by omega) (by omega)
  unfold rd_is_loose
  walk_at "dl"
  refine ⟨w, p, rfl, hok, hp, ?_⟩
  walk_at "dl"
  refine ⟨w, p, rfl, hok, hp, fun L hL => ?_⟩
  unfold Web.t
  walk_at "dl"
  rw [List.length_map]
  have h := hL.loose hok.2.2.1
  by_cases hl : w.Loose p
  · have := h.mpr hl
    rw [decide_eq_true (by omega)]
    exact hT hl
  · have : ¬ L.length = (w.place p).toNat := fun z => hl (h.mp z)
    rw [decide_eq_false (by omega)]
    exact hF hl

end DL

namespace DL
open PySem PySem.Spec L2
local macro_rules | `(tactic| walk_at "dn") => `(tactic| simp only [purse_set2, purse_set3, purse_set4, purse_set5, purse_app, purse_len, purse_start, purse_l, G.set, G.put, G.push, G.wipe, wipeW, G.rs, rsW, List.set_cons_zero, List.set_cons_succ, List.map_cons, List.map_nil, List.length_cons, List.length_nil, List.nil_append, List.cons_append, List.replicate_succ, List.replicate_zero, Nat.reduceAdd, Nat.reduceSub, List.getD_cons_zero, List.getD_cons_succ, Option.getD_some, Option.getD_none])
local macro_rules | `(tactic| walk_at "d1") => `(tactic| first
  | with_reducible refine i_seq ?_
  | with_reducible refine i_asg ?_
  | with_reducible refine i_d2 ?_
  | ((with_reducible refine' i_var ?e ?_); (case e => rfl))
  | with_reducible refine i_c ?_
  | ((with_reducible refine' i_ix ?e ?v ?_); (case e => rfl); (case v => first | assumption | rfl))
  | with_reducible refine i_fI0 ?_
  | with_reducible refine i_gN ?_
  | with_reducible refine i_cons ?_
  | with_reducible refine i_nil ?_
  | with_reducible refine i_dN ?_
  | ((with_reducible refine' i_len ?e ?_); (case e => rfl))
  | with_reducible refine i_d1 ?_
  | with_reducible refine i_neg ?_
  | with_reducible refine i_B ?_
  | with_reducible refine o_B ?_
  | with_reducible refine o_I ?_
  | with_reducible refine i_ifS ?_
  | with_reducible refine i_or ?_
  | with_reducible refine i_and ?_
  | with_reducible refine i_not ?_
  | with_reducible refine i_andV ?_
  | with_reducible refine i_orV ?_
  | with_reducible refine i_notV ?_
  | with_reducible refine i_if ?_
  | with_reducible refine i_yes ?_
  | with_reducible refine k_T ?_
  | with_reducible refine k_F ?_
  | with_reducible refine k_True ?_
  | with_reducible refine k_False ?_
  | with_reducible refine i_eqI ?_
  | with_reducible refine i_neI ?_
  | with_reducible refine i_addI ?_
  | with_reducible refine i_addHI ?_
  | with_reducible refine i_callT ?_
  | with_reducible refine i_callH ?_
  | ((with_reducible refine' o_Ts ?e ?_); (case e => rfl))
  | with_reducible refine o_T ?_
  | ((with_reducible refine' o_TF ?e ?_); (case e => rfl))
  | with_reducible refine o_H ?_
  | ((with_reducible refine' o_HF ?e ?_); (case e => rfl))
  | with_reducible refine i_next ?_
  | with_reducible refine i_drop ?_
  | with_reducible refine i_ret ?_
  | with_reducible refine i_retN ?_
  | ((with_reducible refine' i_gTup ?e ?_); (case e => rfl))
  | with_reducible refine i_gCons ?_
  | with_reducible refine i_gNil ?_
  | with_reducible refine i_min2 ?_
  | with_reducible refine i_max2 ?_
  | with_reducible refine i_par ?_
  | with_reducible refine o_W2 ?_
  | ((with_reducible refine' i_aug ?e ?_); (case e => rfl))
  | with_reducible refine i_intI ?_
  | with_reducible refine i_intB ?_
  | with_reducible refine i_lc ?_
  | with_reducible refine i_for ?_
  | with_reducible refine i_while ?_
  | with_reducible refine i_itL ?_
  | ((with_reducible refine' o_Lq ?e ?_); (case e => rfl))
  | with_reducible refine i_itR1 ?_
  | with_reducible refine i_itR2 ?_
  | with_reducible refine o_I1 ?_
  | with_reducible refine o_I2 ?_
  | with_reducible refine e_t ?_
  | ((with_reducible refine' e_h ?e ?p ?_); (case e => rfl); (case p => rfl))
  | with_reducible refine i_M ?_
  | with_reducible refine i_M0 ?_
  | with_reducible refine i_gSub ?_
  | with_reducible refine i_finH ?_
  | with_reducible refine i_finT ?_
  | with_reducible refine i_sl ?_
  | with_reducible refine i_slH ?_
  | with_reducible refine i_slT ?_
  | with_reducible refine i_noPart ?_
  | with_reducible refine i_part ?_
  | ((with_reducible refine' i_frzT ?e ?_); (case e => rfl))
  | ((with_reducible refine' i_frzH ?e ?m ?t ?_); (case e => rfl); (case m => rfl); (case t => rfl))
  | ((with_reducible refine' i_din ?k ?e ?_); (case k => rfl); (case e => rfl))
  | ((with_reducible refine' i_dnotin ?k ?e ?_); (case k => rfl); (case e => rfl))
  | with_reducible refine i_dput ?_
  | with_reducible refine i_newD ?_
  | with_reducible refine i_lstH ?_
  | with_reducible refine i_lst ?_
  | with_reducible refine i_tup ?_
  | with_reducible refine i_break ?_
  | with_reducible refine i_cont ?_
  | with_reducible refine i_callS ?_
  | ((with_reducible refine' i_ixHW ?e ?v ?_); (case e => first | rfl | assumption); (case v => first | assumption | rfl))
  | ((with_reducible refine' i_ixHT ?e ?v ?_); (case e => first | rfl | assumption); (case v => first | assumption | rfl))
  | ((with_reducible refine' i_lenHT ?e ?_); (case e => first | rfl | assumption))
  | ((with_reducible refine' i_lenHW ?e ?_); (case e => first | rfl | assumption))
  | ((with_reducible refine' i_frzH ?e ?m ?t ?_); (case e => rfl); (case m => rfl); (case t => rfl))
  | ((with_reducible refine' i_unw ?e ?n ?_); (case e => rfl); (case n => rfl))
  | with_reducible refine i_gwCons ?_
  | with_reducible refine i_gwNil ?_
  | with_reducible refine i_lstW ?_
  | ((with_reducible refine' i_gList ?e ?n ?_); (case e => rfl); (case n => rfl))
  | with_reducible refine i_listRgH ?_
  | with_reducible refine i_listRg ?_
  | with_reducible refine i_R1 ?_
  | with_reducible refine i_getD ?_
  | ((with_reducible refine' i_none ?k ?_); (case k => rfl))
  | walk_at "dn")
local macro_rules | `(tactic| walk_at "dl") => `(tactic| ((try walk_at "dn"); repeat walk_at "d1"))
/-! ways on -/
def dI (ks : List Int) (F : Int → Int) : Cell := .dt (ks.map Sum.inl) (ks.map fun x => T.int (F x))
theorem look_dI {b : Int} {F : Int → Int} : ∀ ks : List Int, look (ks.map Sum.inl) (ks.map fun x => T.int (F x)) (Sum.inl b) = if b ∈ ks then some (T.int (F b)) else none
  | [] => rfl
  | k :: ks => by
    rw [List.map_cons, List.map_cons]
    unfold look
    by_cases e : k = b
    · subst e
      rw [if_pos rfl, if_pos (by simp)]
    · rw [if_neg (fun z => e (by injection z)), look_dI ks]
      by_cases h : b ∈ ks
      · rw [if_pos h, if_pos (List.mem_cons_of_mem _ h)]
      · rw [if_neg h, if_neg (fun z => by rcases List.mem_cons.mp z with z | z; exact e z.symm; exact h z)]
theorem look_in {b : Int} {F : Int → Int} {ks : List Int} (h : b ∈ ks) : look (ks.map Sum.inl) (ks.map fun x => T.int (F x)) (Sum.inl b) = some (T.int (F b)) := by rw [look_dI, if_pos h]
theorem look_is {b : Int} {F : Int → Int} (ks : List Int) : (look (ks.map Sum.inl) (ks.map fun x => T.int (F x)) (Sum.inl b)).isSome = decide (b ∈ ks) := by
  rw [look_dI]
  by_cases h : b ∈ ks
  · rw [if_pos h, decide_eq_true h]; rfl
  · rw [if_neg h, decide_eq_false h]; rfl
theorem has_no {b : Int} {ks : List Int} (h : b ∉ ks) : hasK (ks.map Sum.inl) (Sum.inl b : Key) = false := by
  unfold hasK
  rw [List.any_eq_false]
  intro x hx
  obtain ⟨y, hy, rfl⟩ := List.mem_map.mp hx
  intro z
  have := of_decide_eq_true z
  injection this with this
  subst this
  exact h hy
theorem putKs_new {b : Int} {ks : List Int} (h : b ∉ ks) : putKs (ks.map Sum.inl) (Sum.inl b) = (ks ++ [b]).map Sum.inl := by
  unfold putKs
  rw [has_no h, List.map_append]
  rfl
def updI (F : Int → Int) (x v : Int) : Int → Int := fun y => if y = x then v else F y
theorem updI_eq (F : Int → Int) (x v : Int) : updI F x v x = v := if_pos rfl
theorem updI_ne (F : Int → Int) (x v : Int) {y : Int} (h : y ≠ x) : updI F x v y = F y := if_neg h
theorem putXs_new {b v : Int} {ks : List Int} {F : Int → Int} (h : b ∉ ks) : putXs (ks.map Sum.inl) (ks.map fun x => T.int (F x)) (Sum.inl b) (T.int v) = (ks ++ [b]).map fun x => T.int (updI F b v x) := by
  unfold putXs
  rw [has_no h, List.map_append]
  show _ ++ [T.int v] = _ ++ [T.int (updI F b v b)]
  rw [updI_eq]
  congr 1
  refine List.map_congr_left fun x hx => ?_
  rw [updI_ne _ _ _ (fun z => h (by rw [← z]; exact hx))]
def Web.fromP (w : Web) (p x : Int) : List Nat := (List.range w.rows.length).filter fun k => decide ((w.row k).p = p) && decide ((w.row k).s = x)
theorem mem_fromP {w : Web} {p x : Int} {k : Nat} : k ∈ w.fromP p x ↔ k < w.rows.length ∧ (w.row k).p = p ∧ (w.row k).s = x := by
  unfold Web.fromP
  rw [List.mem_filter, List.mem_range]
  simp
theorem fromP_len (w : Web) (p x : Int) : (w.fromP p x).length ≤ w.rows.length := by
  unfold Web.fromP
  exact Nat.le_trans (List.length_filter_le _ _) (by rw [List.length_range]; exact Nat.le_refl _)
theorem led_from (w : Web) (p x : Int) : w.ledTo p [x] = (w.fromP p x).map fun k => (w.row k).e := by
  unfold Web.ledTo Web.fromP Web.rowsOf
  rw [List.filter_filter]
  congr 1
  refine List.filter_congr fun k _ => ?_
  rw [Bool.and_comm]
  congr 1
  simp
theorem rows_from_eq (w : Web) (p x : Int) : ((w.rowsOf p).filter fun k => decide ((w.row k).s = x)) = w.fromP p x := by
  unfold Web.fromP Web.rowsOf
  rw [List.filter_filter]
  refine List.filter_congr fun k _ => ?_
  rw [Bool.and_comm]
def sumF (w : Web) (p : Int) (F : Int → Int) (x : Int) : Int := ((w.fromP p x).map fun k => F (w.row k).e).sum
structure WaysI (w : Web) (p : Int) (ks : List Int) (F : Int → Int) : Prop where
  nd : ks.Nodup
  one : 1 ∈ ks
  f1 : F 1 = 1
  inr : ∀ x ∈ ks, 0 ≤ x ∧ x < w.place p
  st : ∀ x ∈ ks, x ≠ 1 → F x = sumF w p F x ∧ ∀ k ∈ w.fromP p x, (w.row k).e ∈ ks
theorem sumF_congr {w : Web} {p : Int} {F F' : Int → Int} {x : Int} (h : ∀ k ∈ w.fromP p x, F (w.row k).e = F' (w.row k).e) : sumF w p F x = sumF w p F' x := by
  unfold sumF
  congr 1
  exact List.map_congr_left fun k hk => h k hk
theorem WaysI.start {w : Web} {p : Int} (h2 : 2 ≤ w.place p) : WaysI w p [1] (fun _ => 1) := ⟨by simp, by simp, rfl, fun x hx => by simp at hx; omega, fun x hx hn => absurd (by simpa using hx) hn⟩
theorem WaysI.next {w : Web} {p : Int} {ks : List Int} {F : Int → Int} (h : WaysI w p ks F) {x : Int} (hx : x ∉ ks) (hin : 0 ≤ x ∧ x < w.place p) (hg : ∀ k ∈ w.fromP p x, (w.row k).e ∈ ks) : WaysI w p (ks ++ [x]) (updI F x (sumF w p F x)) := by
  have hne : ∀ y ∈ ks, y ≠ x := fun y hy z => hx (by rw [← z]; exact hy)
  have hgo : ∀ y, (∀ k ∈ w.fromP p y, (w.row k).e ∈ ks) → sumF w p (updI F x (sumF w p F x)) y = sumF w p F y := fun y hy => sumF_congr fun k hk => updI_ne _ _ _ (hne _ (hy k hk))
  refine ⟨?_, List.mem_append_left _ h.one, by rw [updI_ne _ _ _ (hne 1 h.one)]; exact h.f1, fun y hy => ?_, fun y hy hn => ?_⟩
  · rw [List.nodup_append]
    exact ⟨h.nd, by simp, fun a ha b hb => by simp at hb; rw [hb]; exact hne a ha⟩
  · rcases List.mem_append.mp hy with hy | hy
    · exact h.inr y hy
    · simp at hy
      rw [hy]
      exact hin
  · rcases List.mem_append.mp hy with hy | hy
    · obtain ⟨h1, h2⟩ := h.st y hy hn
      exact ⟨by rw [updI_ne _ _ _ (hne y hy), hgo y h2]; exact h1, fun k hk => List.mem_append_left _ (h2 k hk)⟩
    · simp at hy
      subst hy
      exact ⟨by rw [updI_eq, hgo y hg], fun k hk => List.mem_append_left _ (hg k hk)⟩
theorem WaysI.len {w : Web} {p : Int} {ks : List Int} {F : Int → Int} (h : WaysI w p ks F) : ks.length ≤ (w.place p).toNat := by
  have := h.nd.length_le_of_subset (l₂ := upN (w.place p)) fun x hx => mem_upN.mpr (h.inr x hx)
  rw [len_upN] at this
  exact this
/-- ways to the end, for each place -/
structure WaysF (w : Web) (p : Int) (F : Int → Int) : Prop where
  f1 : F 1 = 1
  st : ∀ x, 0 ≤ x → x < w.place p → x ≠ 1 → F x = sumF w p F x
theorem WaysI.all {w : Web} {p : Int} {ks : List Int} {F : Int → Int} (h : WaysI w p ks F) (hc : ∀ x, 0 ≤ x → x < w.place p → x ∈ ks) : WaysF w p F := ⟨h.f1, fun x a b c => (h.st x (hc x a b) c).1⟩
theorem WaysF.uniq {w : Web} {p : Int} {F G : Int → Int} (hok : ∀ r ∈ w.rows, w.rowOk r) (hl : w.Loose p) (hF : WaysF w p F) (hG : WaysF w p G) : ∀ x, 0 ≤ x → x < w.place p → F x = G x := by
  obtain ⟨f, hf⟩ := hl
  obtain ⟨y, _, hm⟩ := most_of f (upN (w.place p) ++ [0]) (by simp)
  have key : ∀ n, ∀ x, 0 ≤ x → x < w.place p → f y - f x < n → F x = G x := by
    intro n
    induction n with
    | zero => intro x _ _ h; omega
    | succ n ih =>
      intro x h0 h1 h2
      by_cases e : x = 1
      · rw [e, hF.f1, hG.f1]
      · rw [hF.st x h0 h1 e, hG.st x h0 h1 e]
        refine sumF_congr fun k hk => ?_
        obtain ⟨k1, k2, k3⟩ := mem_fromP.mp hk
        have hr := row_mem k1
        have hro := hok _ hr
        unfold Web.rowOk at hro
        rw [k2] at hro
        have hlt := hf _ hr k2
        have hmx := hm (w.row k).e (List.mem_append_left _ (mem_upN.mpr ⟨by omega, by omega⟩))
        rw [k3] at hlt
        exact ih _ (by omega) (by omega) (by omega)
  exact fun x h0 h1 => key _ x h0 h1 (Nat.lt_succ_self _)
def C_must_be_loose : PC := fun ts Q => ∃ (w : Web) (p : Nat), ts = [w.t, .int p] ∧ w.Ok ∧ p < w.places.length ∧ w.Loose p ∧ Q (.t .non)
theorem ln_must_be_loose : ∀ ts Q, C_must_be_loose ts Q → ts.length = ["web", "part"].length := by rintro ts Q ⟨_, _, rfl, _⟩; rfl
def rd_must_be_loose : DSt :=
  dIfS (dNot (dB (dCallT C_is_loose (dCons (dVar 0) (dCons (dVar 1) (dNil)))))) (dNever) (dNext)

theorem rp_must_be_loose : ∀ ts Q, C_must_be_loose ts Q → rd_must_be_loose ⟨FinP Q (.t .non), FinP Q, fun _ => False, fun _ => False⟩ ⟨ts.map (fun t => some (W.t t)) ++ List.replicate (2 - ts.length) none, []⟩ := by
  rintro ts Q ⟨w, p, rfl, hok, hp, hl, hQ⟩
  unfold rd_must_be_loose
  walk_at "dl"
  refine ⟨w, p, rfl, hok, hp, fun _ => ?_, fun z => absurd hl z⟩
  walk_at "dl"
  exact hQ
theorem i_getI {g : G} {Q : W → G → Prop} {w : W} {x : Int} {ks : List Int} {F : Int → Int} (e : g.dct? w = some (ks.map Sum.inl, ks.map fun x => T.int (F x))) (hx : x ∈ ks) (h : Q (.t (.int (F x))) g) : fGet g w (.t (.int x)) Q := i_get rfl e (look_in hx) h
theorem later {L D R : List Int} {x e : Int} (nd : L.Nodup) (hL : L = D ++ x :: R) (he : e ∈ L) (hb : ∀ pre post, L = pre ++ e :: post → x ∈ pre) : e ∈ R := by
  have hx : x ∉ D := fun z => by
    rw [hL] at nd
    exact (List.nodup_append.mp nd).2.2 x z x (by simp) rfl
  have he2 : e ∈ D ++ x :: R := by rw [← hL]; exact he
  rcases List.mem_append.mp he2 with h | h
  · obtain ⟨d1, d2, rfl⟩ := List.append_of_mem h
    have := hb d1 (d2 ++ x :: R) (by rw [hL, List.append_assoc, List.cons_append])
    exact absurd (List.mem_append_left _ this) hx
  · rcases List.mem_cons.mp h with rfl | h
    · exact absurd (hb D R hL) hx
    · exact h
theorem fold_app (pre acc : List Int) : pre.foldl (fun a x => a ++ [x]) acc = acc ++ pre := by
  induction pre generalizing acc with
  | nil => rw [List.foldl_nil, List.append_nil]
  | cons x pre ih => rw [List.foldl_cons, ih, List.append_assoc]; rfl
/-- a loop over whole numbers, with what has been gone through -/
theorem forX {D : De} {g1 : G} {gt : DGt} {tb : DSt} {ws : List W} {St : G → Prop} (items : List Int) (R : List Int → G → Prop) (hws : ws = items.map fun x => W.t (.int x)) (h0 : R [] g1) (hSt : ∀ b g, R b g → St g)
    (hstep : ∀ pre x post, items = pre ++ x :: post → ∀ g', R pre g' → ∀ N : G → Prop, (∀ g'', R (pre ++ [x]) g'' → N g'') → gt (.t (.int x)) g' fun g2 => tb { D with nx := N, ct := N, bk := D.nx } g2)
    (hQ : ∀ g', R items g' → D.nx g') : forI ws St g1 gt tb D := by
  refine forP items (fun x => W.t (.int x)) (fun a x => a ++ [x]) R [] hws h0 hSt ?_ ?_
  · intro pre x post hs g' hR N hN
    rw [fold_app, List.nil_append] at hR hN
    exact hstep pre x post hs g' hR N hN
  · intro g' hR
    rw [fold_app, List.nil_append] at hR
    exact hQ g' hR
def C_ways_on : PC := fun ts Q => ∃ (w : Web) (p : Nat), ts = [w.t, .int p] ∧ w.Ok ∧ p < w.places.length ∧ w.Loose p ∧ ∀ ks F, WaysI w p ks F → (∀ x, 0 ≤ x → x < w.place p → x ∈ ks) → Q (.f (dI ks F))
theorem ln_ways_on : ∀ ts Q, C_ways_on ts Q → ts.length = ["web", "part"].length := by rintro ts Q ⟨_, _, rfl, _⟩; rfl
def rd_ways_on : DSt :=
  dSeq (dAsg (dDisp [(dC (.int 1), dC (.int 1))]) (dgN 2))
  (dSeq (dFor (diL (d1 fRev (dCallT C_order_of (dCons (dVar 0) (dCons (dVar 1) (dNil)))))) (dgN 3) (dIfS (dB (d2 (fEq true) (dVar 3) (dC (.int 1)))) (dDput (dVar 2) (dVar 3) (dN fSum (dCons (dLc finT (diL (dCallT C_led_to (dCons (dVar 0) (dCons (dVar 1) (dCons (dLst (dCons (dVar 3) (dNil))) (dNil)))))) (dgN 4) (dYes) (d2 fGet (dVar 2) (dVar 4)) [4]) (dNil)))) (dNext)))
  (dRet (dVar 2)))

theorem rp_ways_on : ∀ ts Q, C_ways_on ts Q → rd_ways_on ⟨FinP Q (.t .non), FinP Q, fun _ => False, fun _ => False⟩ ⟨ts.map (fun t => some (W.t t)) ++ List.replicate (5 - ts.length) none, []⟩ := by
  rintro ts Q ⟨w, p, rfl, hok, hp, hlo, hQ⟩
  have h1 := hok.1
  have hpl := hok.2.1 _ (place_mem hp)
  unfold rd_ways_on
  walk_at "dl"
  refine i_disp1 ?_
  walk_at "dl"
  refine o_Key rfl ?_
  walk_at "dl"
  refine ⟨by decide, ?_⟩
  walk_at "dl"
  refine ⟨w, p, rfl, hok, hp, fun L hL => ?_⟩
  have hcov := hL.cover.mp ((hL.loose hok.2.2.1).mpr hlo)
  walk_at "dl"
  refine i_rev rfl ?_
  rw [← List.map_reverse]
  walk_at "dl"
  refine forX L.reverse (fun pre g' => ∃ (ks : List Int) (F : Int → Int) (o3 : Option W), g' = ⟨[some (.t w.t), some (.t (.int p)), some (.h 0), o3, none], [some (dI ks F)]⟩ ∧ WaysI w p ks F ∧ (∀ y ∈ pre, y ∈ ks) ∧ (∀ y ∈ ks, y = 1 ∨ y ∈ pre))
    (by rw [List.map_map]; rfl) ⟨[1], fun _ => 1, none, rfl, .start (by omega), fun y h => by simp at h, fun y h => .inl (by simpa using h)⟩ (by rintro _ _ ⟨_, _, _, rfl, _⟩; rfl) ?_ ?_
  · rintro pre x post hs g' ⟨ks, F, o3, rfl, hW, hpre, hks⟩ N hN
    have hx : x ∈ L := List.mem_reverse.mp (by rw [hs]; simp)
    have hlen := hW.len
    have hsL : L = post.reverse ++ x :: pre.reverse := by
      have := congrArg List.reverse hs
      rw [List.reverse_reverse, List.reverse_append, List.reverse_cons, List.append_assoc] at this
      exact this
    unfold dI
    walk_at "dl"
    refine k_n (fun h1 => ?_) (fun h1 => ?_)
    · walk_at "dl"
      refine ⟨by decide, ?_⟩
      refine ⟨w, p, [x], rfl, by omega, ?_⟩
      rw [led_from]
      have hgo : ∀ k ∈ w.fromP p x, (w.row k).e ∈ ks := fun k hk => by
        obtain ⟨k1, k2, k3⟩ := mem_fromP.mp hk
        have hr := row_mem k1
        have hro := hok.2.2.1 _ hr
        unfold Web.rowOk at hro
        rw [k2] at hro
        refine hpre _ (List.mem_reverse.mp (later hL.nd hsL (hcov _ (by omega) (by omega)) fun pr po e => ?_))
        have := hL.bef pr _ po e _ hr k2 rfl
        rw [k3] at this
        exact this
      walk_at "dl"
      have hfl := fromP_len w p x
      refine lcP (w.fromP p x) (fun k => W.t (.int (w.row k).e)) (fun _ => true) (fun k => .int (F (w.row k).e)) (by rw [List.map_map, List.map_map]; rfl) (lineLe (by omega)) rfl ?_ rfl ?_
      · intro k hk Y N2 hY hN2
        walk_at "dl"
        refine i_getI rfl (hgo k hk) ?_
        exact hY rfl _ rfl
      rw [List.filter_eq_self.mpr (fun _ _ => rfl), show ((w.fromP p x).map fun k => T.int (F (w.row k).e)) = ((w.fromP p x).map fun k => F (w.row k).e).map T.int by rw [List.map_map]; rfl]
      walk_at "dl"
      refine i_sum rfl ?_
      walk_at "dl"
      have hxk : x ∉ ks := fun z => by
        rcases hks x z with e | e
        · exact h1 e
        · have nd := hL.nd
          rw [hsL] at nd
          exact (List.nodup_cons.mp (List.nodup_append.mp nd).2.1).1 (List.mem_reverse.mpr e)
      refine o_dput (k := Sum.inl x) (ks := ks.map Sum.inl) (us := ks.map fun x => T.int (F x)) rfl rfl (by rw [List.length_map]; exact lineLt (by omega)) ?_
      rw [putKs_new hxk, putXs_new hxk]
      refine hN _ ⟨ks ++ [x], updI F x (sumF w p F x), _, rfl, hW.next hxk (hL.inr x hx) hgo, fun y hy => ?_, fun y hy => ?_⟩
      · rcases List.mem_append.mp hy with hy | hy
        · exact List.mem_append_left _ (hpre y hy)
        · exact List.mem_append_right _ hy
      · rcases List.mem_append.mp hy with hy | hy
        · rcases hks y hy with e | e
          · exact .inl e
          · exact .inr (List.mem_append_left _ e)
        · exact .inr (List.mem_append_right _ hy)
    · walk_at "dl"
      refine hN _ ⟨ks, F, _, rfl, hW, fun y hy => ?_, fun y hy => ?_⟩
      · rcases List.mem_append.mp hy with hy | hy
        · exact hpre y hy
        · simp at hy
          rw [hy, h1]
          exact hW.one
      · rcases hks y hy with e | e
        · exact .inl e
        · exact .inr (List.mem_append_left _ e)
  · rintro g' ⟨ks, F, o3, rfl, hW, hpre, hks⟩
    walk_at "dl"
    exact hQ ks F hW fun x a b => hpre x (List.mem_reverse.mpr (hcov x a b))
def C_ways : PC := fun ts Q => ∃ (w : Web) (p : Nat), ts = [w.t, .int p] ∧ w.Ok ∧ p < w.places.length ∧ w.Loose p ∧ ∀ F, WaysF w p F → Q (.t (.int (F 0)))
theorem ln_ways : ∀ ts Q, C_ways ts Q → ts.length = ["web", "part"].length := by rintro ts Q ⟨_, _, rfl, _⟩; rfl
def rd_ways : DSt :=
  dSeq (dDrop (dCallT C_must_be_loose (dCons (dVar 0) (dCons (dVar 1) (dNil)))))
  (dRet (d2 fGet (dCallT C_ways_on (dCons (dVar 0) (dCons (dVar 1) (dNil)))) (dC (.int 0))))

theorem rp_ways : ∀ ts Q, C_ways ts Q → rd_ways ⟨FinP Q (.t .non), FinP Q, fun _ => False, fun _ => False⟩ ⟨ts.map (fun t => some (W.t t)) ++ List.replicate (2 - ts.length) none, []⟩ := by
  rintro ts Q ⟨w, p, rfl, hok, hp, hlo, hQ⟩
  have hpl := hok.2.1 _ (place_mem hp)
  unfold rd_ways
  walk_at "dl"
  refine ⟨w, p, rfl, hok, hp, hlo, ?_⟩
  walk_at "dl"
  refine ⟨w, p, rfl, hok, hp, hlo, fun ks F hW hc => ?_⟩
  walk_at "dl"
  refine i_getI rfl (hc 0 (by omega) (by omega)) ?_
  exact hQ F (hW.all hc)
def C_rows_from : PC := fun ts Q => ∃ (w : Web) (p x : Int), ts = [w.t, .int p, .int x] ∧ w.rows.length ≤ 1000 ∧ Q (.f (.lt ((w.fromP p x).map natT)))
theorem ln_rows_from : ∀ ts Q, C_rows_from ts Q → ts.length = ["web", "part", "place"].length := by rintro ts Q ⟨_, _, _, rfl, _⟩; rfl
def rd_rows_from : DSt :=
  dRet (dLc finH (diL (dCallT C_rows_of (dCons (dVar 0) (dCons (dVar 1) (dNil))))) (dgN 3) (dB (d2 (fEq false) (d2 fIx (d2 fIx (d2 fIx (dVar 0) (dC (.int 1))) (dVar 3)) (dC (.int 1))) (dVar 2))) (dVar 3) [3])

theorem rp_rows_from : ∀ ts Q, C_rows_from ts Q → rd_rows_from ⟨FinP Q (.t .non), FinP Q, fun _ => False, fun _ => False⟩ ⟨ts.map (fun t => some (W.t t)) ++ List.replicate (4 - ts.length) none, []⟩ := by
  rintro ts Q ⟨w, p, x, rfl, hl, hQ⟩
  unfold rd_rows_from
  walk_at "dl"
  refine ⟨w, p, rfl, hl, ?_⟩
  walk_at "dl"
  have hrl := rowsOf_len w p
  refine lcP (w.rowsOf p) (fun k => W.t (natT k)) (fun k => decide ((w.row k).s = x)) natT (by rw [List.map_map]; rfl) (lineLe (by omega)) rfl ?_ rfl ?_
  · intro k hk Y N2 hY hN2
    have hr := row_at (mem_rowsOf.mp hk).1
    unfold natT Web.t Row.t at *
    walk_at "dl"
    refine k_d (fun h => ?_) (fun h => ?_)
    · walk_at "dl"
      exact hY (decide_eq_true h) _ rfl
    · exact hN2 (decide_eq_false h) _ rfl
  · rw [rows_from_eq]
    walk_at "dl"
    exact hQ
/-! how many lead on by lesser rows -/
def wIn2 (w : Web) (F : Int → Int) (s : List Int × Int) (k : Nat) : List Int × Int := (s.1.set k s.2, s.2 + F (w.row k).e)
def wStep2 (w : Web) (p : Int) (F : Int → Int) (f : List Int) (x : Int) : List Int := ((w.fromP p x).foldl (wIn2 w F) (f, 0)).1
def Web.worth (w : Web) (p : Int) (F : Int → Int) : List Int := (upN (w.place p)).foldl (wStep2 w p F) (w.rows.map fun _ => 0)
theorem wIn2_len (w : Web) (F : Int → Int) : ∀ (ks : List Nat) (s : List Int × Int), (ks.foldl (wIn2 w F) s).1.length = s.1.length
  | [], _ => rfl
  | k :: ks, s => by rw [List.foldl_cons, wIn2_len w F ks]; simp [wIn2]
theorem wStep2_len (w : Web) (p : Int) (F : Int → Int) : ∀ (ps : List Int) (f : List Int), (ps.foldl (wStep2 w p F) f).length = f.length
  | [], _ => rfl
  | x :: ps, f => by rw [List.foldl_cons, wStep2_len w p F ps]; unfold wStep2; rw [wIn2_len]
theorem worth_len (w : Web) (p : Int) (F : Int → Int) : (w.worth p F).length = w.rows.length := by
  unfold Web.worth
  rw [wStep2_len, List.length_map]
theorem worth_congr {w : Web} {p : Int} {F G : Int → Int} (hok : ∀ r ∈ w.rows, w.rowOk r) (h : ∀ x, 0 ≤ x → x < w.place p → F x = G x) : w.worth p F = w.worth p G := by
  unfold Web.worth
  congr 1
  funext f x
  unfold wStep2
  congr 1
  have : ∀ (ks : List Nat) (s : List Int × Int), (∀ k ∈ ks, k ∈ w.fromP p x) → ks.foldl (wIn2 w F) s = ks.foldl (wIn2 w G) s := by
    intro ks
    induction ks with
    | nil => intro s _; rfl
    | cons k ks ih =>
      intro s hk
      obtain ⟨k1, k2, k3⟩ := mem_fromP.mp (hk k (by simp))
      have hro := hok _ (row_mem k1)
      unfold Web.rowOk at hro
      rw [k2] at hro
      rw [List.foldl_cons, List.foldl_cons, ih _ fun z hz => hk z (by simp [hz])]
      unfold wIn2
      rw [h (w.row k).e (by omega) (by omega)]
  exact this _ _ fun _ h => h
theorem rgW_up (n : Int) : rgW 0 n.toNat = (upN n).map fun x => W.t (.int x) := by
  rw [rgW0]
  unfold upN
  rw [List.map_map]
  rfl
def C_weighed : PC := fun ts Q => ∃ (w : Web) (p : Nat), ts = [w.t, .int p] ∧ w.Ok ∧ p < w.places.length ∧ w.Loose p ∧ ∀ F, WaysF w p F → Q (.f (.lt ((w.worth p F).map T.int)))
theorem ln_weighed : ∀ ts Q, C_weighed ts Q → ts.length = ["web", "part"].length := by rintro ts Q ⟨_, _, rfl, _⟩; rfl
def rd_weighed : DSt :=
  dSeq (dAsg (dCallT C_ways_on (dCons (dVar 0) (dCons (dVar 1) (dNil)))) (dgN 2))
  (dSeq (dAsg (dLc finH (diL (d2 fIx (dVar 0) (dC (.int 1)))) (dgN 7) (dYes) (dC (.int 0)) [7]) (dgN 3))
  (dSeq (dFor (diR1 (dCons (d2 fIx (d2 fIx (dVar 0) (dC (.int 0))) (dVar 1)) (dNil))) (dgN 4) (dSeq (dAsg (dC (.int 0)) (dgN 5))
  (dFor (diL (dCallT C_rows_from (dCons (dVar 0) (dCons (dVar 1) (dCons (dVar 4) (dNil)))))) (dgN 6) (dSeq (dAsg (dVar 5) (dgSub (dVar 3) (dVar 6)))
  (dAug 5 (fun i j => i + j) (d2 fGet (dVar 2) (d2 fIx (d2 fIx (d2 fIx (dVar 0) (dC (.int 1))) (dVar 6)) (dC (.int 2)))))))))
  (dRet (dVar 3))))

theorem rp_weighed : ∀ ts Q, C_weighed ts Q → rd_weighed ⟨FinP Q (.t .non), FinP Q, fun _ => False, fun _ => False⟩ ⟨ts.map (fun t => some (W.t t)) ++ List.replicate (8 - ts.length) none, []⟩ := by
  rintro ts Q ⟨w, p, rfl, hok, hp, hlo, hQ⟩
  have h1 := hok.1
  have hpl := hok.2.1 _ (place_mem hp)
  have pa := place_at (w := w) (i := (p : Int)) (by omega) (by omega)
  unfold rd_weighed
  walk_at "dl"
  refine ⟨w, p, rfl, hok, hp, hlo, fun ks F hW hc => ?_⟩
  unfold Web.t
  walk_at "dl"
  refine lcP w.rows (fun r => W.t r.t) (fun _ => true) (fun _ => .int 0) (by rw [List.map_map]; rfl) (lineLe (by omega)) rfl ?_ rfl ?_
  · intro r hr Y N2 hY hN2
    walk_at "dl"
    exact hY rfl _ rfl
  rw [List.filter_eq_self.mpr (fun _ _ => rfl), show (w.rows.map fun _ => T.int 0) = (w.rows.map fun _ => (0 : Int)).map T.int by rw [List.map_map]; rfl]
  walk_at "dl"
  refine ⟨by omega, ?_⟩
  refine forP (upN (w.place p)) (fun x => W.t (.int x)) (wStep2 w p F) (fun f g' => ∃ o4 o5 o6, g' = ⟨[some (.t w.t), some (.t (.int p)), some (.t (.dk (ks.map Sum.inl) (ks.map fun x => T.int (F x)))), some (.h 0), o4, o5, o6, none], [some (.lt (f.map T.int))]⟩) (w.rows.map fun _ => 0) (rgW_up _) ⟨none, none, none, rfl⟩ (fun _ _ _ => trivial) ?_ ?_
  · rintro pre x post hsp g' ⟨o4, o5, o6, rfl⟩ N hN
    have hl := wStep2_len w p F pre (w.rows.map fun _ => 0)
    generalize pre.foldl (wStep2 w p F) (w.rows.map fun _ => 0) = f at hl hN
    rw [List.length_map] at hl
    walk_at "dl"
    refine ⟨w, p, x, rfl, by omega, ?_⟩
    walk_at "dl"
    refine forP (w.fromP p x) (fun k => W.t (natT k)) (wIn2 w F) (fun s g' => ∃ o6, g' = ⟨[some (.t w.t), some (.t (.int p)), some (.t (.dk (ks.map Sum.inl) (ks.map fun x => T.int (F x)))), some (.h 0), some (.t (.int x)), some (.t (.int s.2)), o6, none], [some (.lt (s.1.map T.int))]⟩) (f, 0) (by rw [List.map_map]; rfl) ⟨_, rfl⟩ (fun _ _ _ => rfl) ?_ ?_
    · rintro pre2 k post2 hsp2 g' ⟨o6, rfl⟩ N2 hN2
      have hk : k ∈ w.fromP p x := by rw [hsp2]; simp
      have hl2 := wIn2_len w F pre2 (f, 0)
      generalize pre2.foldl (wIn2 w F) (f, 0) = s at hl2 hN2
      obtain ⟨k1, k2, k3⟩ := mem_fromP.mp hk
      have hro := hok.2.2.1 _ (row_mem k1)
      unfold Web.rowOk at hro
      rw [k2] at hro
      have hr := row_at k1
      unfold natT Web.t Row.t at *
      walk_at "dl"
      refine o_put rfl (ixN_nat (by rw [List.length_map, hl2]; simpa [hl] using k1)) ?_
      walk_at "dl"
      refine i_getI rfl (hc _ (by omega) (by omega)) ?_
      walk_at "dl"
      have e : (wIn2 w F s k).1.map T.int = (s.1.map T.int).set k (T.int s.2) := by unfold wIn2; rw [List.map_set]
      rw [e] at hN2
      exact hN2 _ ⟨_, rfl⟩
    · rintro g' ⟨o6, rfl⟩
      walk_at "dl"
      exact hN _ ⟨_, _, _, rfl⟩
  · rintro g' ⟨o4, o5, o6, rfl⟩
    walk_at "dl"
    exact hQ F (hW.all hc)
def C_worths : PC := fun ts Q => ∃ (w : Web) (p : Nat), ts = [w.t, .int p] ∧ w.Ok ∧ p < w.places.length ∧ w.Loose p ∧ ∀ F, WaysF w p F → Q (.f (.lt ((w.worth p F).map T.int)))
theorem ln_worths : ∀ ts Q, C_worths ts Q → ts.length = ["web", "part"].length := by rintro ts Q ⟨_, _, rfl, _⟩; rfl
def rd_worths : DSt :=
  dSeq (dDrop (dCallT C_must_be_loose (dCons (dVar 0) (dCons (dVar 1) (dNil)))))
  (dRet (dCallH C_weighed (dCons (dVar 0) (dCons (dVar 1) (dNil)))))

theorem rp_worths : ∀ ts Q, C_worths ts Q → rd_worths ⟨FinP Q (.t .non), FinP Q, fun _ => False, fun _ => False⟩ ⟨ts.map (fun t => some (W.t t)) ++ List.replicate (2 - ts.length) none, []⟩ := by
  rintro ts Q ⟨w, p, rfl, hok, hp, hlo, hQ⟩
  unfold rd_worths
  walk_at "dl"
  refine ⟨w, p, rfl, hok, hp, hlo, ?_⟩
  walk_at "dl"
  refine ⟨w, p, rfl, hok, hp, hlo, fun F hF => ?_⟩
  walk_at "dl"
  exact hQ F hF

end DL

namespace DL
open PySem PySem.Spec L2
local macro_rules | `(tactic| walk_at "dn") => `(tactic| simp only [purse_set2, purse_set3, purse_set4, purse_set5, purse_app, purse_len, purse_start, purse_l, G.set, G.put, G.push, G.wipe, wipeW, G.rs, rsW, List.set_cons_zero, List.set_cons_succ, List.map_cons, List.map_nil, List.length_cons, List.length_nil, List.nil_append, List.cons_append, List.replicate_succ, List.replicate_zero, Nat.reduceAdd, Nat.reduceSub, List.getD_cons_zero, List.getD_cons_succ, Option.getD_some, Option.getD_none])
local macro_rules | `(tactic| walk_at "d1") => `(tactic| first
  | with_reducible refine i_seq ?_
  | with_reducible refine i_asg ?_
  | with_reducible refine i_d2 ?_
  | ((with_reducible refine' i_var ?e ?_); (case e => rfl))
  | with_reducible refine i_c ?_
  | ((with_reducible refine' i_ix ?e ?v ?_); (case e => rfl); (case v => first | assumption | rfl))
  | with_reducible refine i_fI0 ?_
  | with_reducible refine i_gN ?_
  | with_reducible refine i_cons ?_
  | with_reducible refine i_nil ?_
  | with_reducible refine i_dN ?_
  | ((with_reducible refine' i_len ?e ?_); (case e => rfl))
  | with_reducible refine i_d1 ?_
  | with_reducible refine i_neg ?_
  | with_reducible refine i_B ?_
  | with_reducible refine o_B ?_
  | with_reducible refine o_I ?_
  | with_reducible refine i_ifS ?_
  | with_reducible refine i_or ?_
  | with_reducible refine i_and ?_
  | with_reducible refine i_not ?_
  | with_reducible refine i_andV ?_
  | with_reducible refine i_orV ?_
  | with_reducible refine i_notV ?_
  | with_reducible refine i_if ?_
  | with_reducible refine i_yes ?_
  | with_reducible refine k_T ?_
  | with_reducible refine k_F ?_
  | with_reducible refine k_True ?_
  | with_reducible refine k_False ?_
  | with_reducible refine i_eqI ?_
  | with_reducible refine i_neI ?_
  | with_reducible refine i_addI ?_
  | with_reducible refine i_addHI ?_
  | with_reducible refine i_callT ?_
  | with_reducible refine i_callH ?_
  | ((with_reducible refine' o_Ts ?e ?_); (case e => rfl))
  | with_reducible refine o_T ?_
  | ((with_reducible refine' o_TF ?e ?_); (case e => rfl))
  | with_reducible refine o_H ?_
  | ((with_reducible refine' o_HF ?e ?_); (case e => rfl))
  | with_reducible refine i_next ?_
  | with_reducible refine i_drop ?_
  | with_reducible refine i_ret ?_
  | with_reducible refine i_retN ?_
  | ((with_reducible refine' i_gTup ?e ?_); (case e => rfl))
  | with_reducible refine i_gCons ?_
  | with_reducible refine i_gNil ?_
  | with_reducible refine i_min2 ?_
  | with_reducible refine i_max2 ?_
  | with_reducible refine i_par ?_
  | with_reducible refine o_W2 ?_
  | ((with_reducible refine' i_aug ?e ?_); (case e => rfl))
  | with_reducible refine i_intI ?_
  | with_reducible refine i_intB ?_
  | with_reducible refine i_lc ?_
  | with_reducible refine i_for ?_
  | with_reducible refine i_while ?_
  | with_reducible refine i_itL ?_
  | ((with_reducible refine' o_Lq ?e ?_); (case e => rfl))
  | with_reducible refine i_itR1 ?_
  | with_reducible refine i_itR2 ?_
  | with_reducible refine o_I1 ?_
  | with_reducible refine o_I2 ?_
  | with_reducible refine e_t ?_
  | ((with_reducible refine' e_h ?e ?p ?_); (case e => rfl); (case p => rfl))
  | with_reducible refine i_M ?_
  | with_reducible refine i_M0 ?_
  | with_reducible refine i_gSub ?_
  | with_reducible refine i_finH ?_
  | with_reducible refine i_finT ?_
  | with_reducible refine i_sl ?_
  | with_reducible refine i_slH ?_
  | with_reducible refine i_slT ?_
  | with_reducible refine i_noPart ?_
  | with_reducible refine i_part ?_
  | ((with_reducible refine' i_frzT ?e ?_); (case e => rfl))
  | ((with_reducible refine' i_frzH ?e ?m ?t ?_); (case e => rfl); (case m => rfl); (case t => rfl))
  | ((with_reducible refine' i_din ?k ?e ?_); (case k => rfl); (case e => rfl))
  | ((with_reducible refine' i_dnotin ?k ?e ?_); (case k => rfl); (case e => rfl))
  | with_reducible refine i_dput ?_
  | with_reducible refine i_newD ?_
  | with_reducible refine i_lstH ?_
  | with_reducible refine i_lst ?_
  | with_reducible refine i_tup ?_
  | with_reducible refine i_break ?_
  | with_reducible refine i_cont ?_
  | with_reducible refine i_callS ?_
  | ((with_reducible refine' i_ixHW ?e ?v ?_); (case e => first | rfl | assumption); (case v => first | assumption | rfl))
  | ((with_reducible refine' i_ixHT ?e ?v ?_); (case e => first | rfl | assumption); (case v => first | assumption | rfl))
  | ((with_reducible refine' i_lenHT ?e ?_); (case e => first | rfl | assumption))
  | ((with_reducible refine' i_lenHW ?e ?_); (case e => first | rfl | assumption))
  | ((with_reducible refine' i_frzH ?e ?m ?t ?_); (case e => rfl); (case m => rfl); (case t => rfl))
  | ((with_reducible refine' i_unw ?e ?n ?_); (case e => rfl); (case n => rfl))
  | with_reducible refine i_gwCons ?_
  | with_reducible refine i_gwNil ?_
  | with_reducible refine i_lstW ?_
  | ((with_reducible refine' i_gList ?e ?n ?_); (case e => rfl); (case n => rfl))
  | with_reducible refine i_listRgH ?_
  | with_reducible refine i_listRg ?_
  | with_reducible refine i_R1 ?_
  | with_reducible refine i_getD ?_
  | ((with_reducible refine' i_none ?k ?_); (case k => rfl))
  | walk_at "dn")
local macro_rules | `(tactic| walk_at "dl") => `(tactic| ((try walk_at "dn"); repeat walk_at "d1"))
/-! the law's rows from a place -/
theorem teq_pair (a b c d : Int) : teq (.tup [.int a, .int b]) (.tup [.int c, .int d]) = (decide (a = c) && decide (b = d)) := by
  unfold teq
  simp only [T.pd, PyData.eqv, List.map_cons, List.map_nil, PyData.eqvAll, Bool.beq_eq_decide_eq, Bool.and_true]
def C__law_from : PC := fun ts Q => ∃ (w : Web) (p x : Int), ts = [w.t, .int p, .int x] ∧ w.rows.length ≤ 1000 ∧ Q (.f (.lt ((w.fromP p x).map natT)))
theorem ln__law_from : ∀ ts Q, C__law_from ts Q → ts.length = ["a", "b", "c"].length := by rintro ts Q ⟨_, _, _, rfl, _⟩; rfl
def rd__law_from : DSt :=
  dRet (dLc finH (diR1 (dCons (dN fLen (dCons (d2 fIx (dVar 0) (dC (.int 1))) (dNil))) (dNil))) (dgN 3) (dB (d2 (fEq false) (dSlT (d2 fIx (d2 fIx (dVar 0) (dC (.int 1))) (dVar 3)) (dNoPart) (dPart (dC (.int 2)))) (dTup (dCons (dVar 1) (dCons (dVar 2) (dNil)))))) (dVar 3) [3])

theorem rp__law_from : ∀ ts Q, C__law_from ts Q → rd__law_from ⟨FinP Q (.t .non), FinP Q, fun _ => False, fun _ => False⟩ ⟨ts.map (fun t => some (W.t t)) ++ List.replicate (4 - ts.length) none, []⟩ := by
  rintro ts Q ⟨w, p, x, rfl, hl, hQ⟩
  unfold rd__law_from Web.t
  walk_at "dl"
  rw [List.length_map]
  refine ⟨by omega, ?_⟩
  refine lcP (List.range w.rows.length) (fun k => W.t (natT k)) (fun k => decide ((w.row k).p = p) && decide ((w.row k).s = x)) natT (by rw [Int.toNat_natCast, rgW0]; rfl) (by rw [List.length_range]; exact lineLe (by omega)) trivial ?_ rfl ?_
  · intro k hk Y N2 hY hN2
    have hk' : k < w.rows.length := by simpa using hk
    have hr := row_at hk'
    unfold natT Row.t at *
    walk_at "dl"
    refine o_cutT (by show ¬ (HT.sIx 4 0 none = 0 ∧ HT.sIx 4 4 (some 2) = 4); decide) ?_
    have ec : cut [T.int (w.row k).p, T.int (w.row k).s, T.int (w.row k).e, T.int (w.row k).c] none (some 2) = [T.int (w.row k).p, T.int (w.row k).s] := cut_hi _ 2
    rw [ec]
    walk_at "dl"
    refine ⟨by decide, ?_⟩
    refine i_eqT (u := .tup [.int (w.row k).p, .int (w.row k).s]) (v := .tup [.int p, .int x]) rfl rfl rfl rfl ?_
    rw [teq_pair]
    cases e : (decide ((w.row k).p = p) && decide ((w.row k).s = x)) with
    | true =>
      walk_at "dl"
      exact hY e _ rfl
    | false =>
      walk_at "dl"
      exact hN2 e _ rfl
  · walk_at "dl"
    exact hQ

end DL

namespace DL
open PySem PySem.Spec L2
local macro_rules | `(tactic| walk_at "dn") => `(tactic| simp only [purse_set2, purse_set3, purse_set4, purse_set5, purse_app, purse_len, purse_start, purse_l, G.set, G.put, G.push, G.wipe, wipeW, G.rs, rsW, List.set_cons_zero, List.set_cons_succ, List.map_cons, List.map_nil, List.length_cons, List.length_nil, List.nil_append, List.cons_append, List.replicate_succ, List.replicate_zero, Nat.reduceAdd, Nat.reduceSub, List.getD_cons_zero, List.getD_cons_succ, Option.getD_some, Option.getD_none])
local macro_rules | `(tactic| walk_at "d1") => `(tactic| first
  | with_reducible refine i_seq ?_
  | with_reducible refine i_asg ?_
  | with_reducible refine i_d2 ?_
  | ((with_reducible refine' i_var ?e ?_); (case e => rfl))
  | with_reducible refine i_c ?_
  | ((with_reducible refine' i_ix ?e ?v ?_); (case e => rfl); (case v => first | assumption | rfl))
  | with_reducible refine i_fI0 ?_
  | with_reducible refine i_gN ?_
  | with_reducible refine i_cons ?_
  | with_reducible refine i_nil ?_
  | with_reducible refine i_dN ?_
  | ((with_reducible refine' i_len ?e ?_); (case e => rfl))
  | with_reducible refine i_d1 ?_
  | with_reducible refine i_neg ?_
  | with_reducible refine i_B ?_
  | with_reducible refine o_B ?_
  | with_reducible refine o_I ?_
  | with_reducible refine i_ifS ?_
  | with_reducible refine i_or ?_
  | with_reducible refine i_and ?_
  | with_reducible refine i_not ?_
  | with_reducible refine i_andV ?_
  | with_reducible refine i_orV ?_
  | with_reducible refine i_notV ?_
  | with_reducible refine i_if ?_
  | with_reducible refine i_yes ?_
  | with_reducible refine k_T ?_
  | with_reducible refine k_F ?_
  | with_reducible refine k_True ?_
  | with_reducible refine k_False ?_
  | with_reducible refine i_eqI ?_
  | with_reducible refine i_neI ?_
  | with_reducible refine i_addI ?_
  | with_reducible refine i_addHI ?_
  | with_reducible refine i_callT ?_
  | with_reducible refine i_callH ?_
  | ((with_reducible refine' o_Ts ?e ?_); (case e => rfl))
  | with_reducible refine o_T ?_
  | ((with_reducible refine' o_TF ?e ?_); (case e => rfl))
  | with_reducible refine o_H ?_
  | ((with_reducible refine' o_HF ?e ?_); (case e => rfl))
  | with_reducible refine i_next ?_
  | with_reducible refine i_drop ?_
  | with_reducible refine i_ret ?_
  | with_reducible refine i_retN ?_
  | ((with_reducible refine' i_gTup ?e ?_); (case e => rfl))
  | with_reducible refine i_gCons ?_
  | with_reducible refine i_gNil ?_
  | with_reducible refine i_min2 ?_
  | with_reducible refine i_max2 ?_
  | with_reducible refine i_par ?_
  | with_reducible refine o_W2 ?_
  | ((with_reducible refine' i_aug ?e ?_); (case e => rfl))
  | with_reducible refine i_intI ?_
  | with_reducible refine i_intB ?_
  | with_reducible refine i_lc ?_
  | with_reducible refine i_for ?_
  | with_reducible refine i_while ?_
  | with_reducible refine i_itL ?_
  | ((with_reducible refine' o_Lq ?e ?_); (case e => rfl))
  | with_reducible refine i_itR1 ?_
  | with_reducible refine i_itR2 ?_
  | with_reducible refine o_I1 ?_
  | with_reducible refine o_I2 ?_
  | with_reducible refine e_t ?_
  | ((with_reducible refine' e_h ?e ?p ?_); (case e => rfl); (case p => rfl))
  | with_reducible refine i_M ?_
  | with_reducible refine i_M0 ?_
  | with_reducible refine i_gSub ?_
  | with_reducible refine i_finH ?_
  | with_reducible refine i_finT ?_
  | with_reducible refine i_sl ?_
  | with_reducible refine i_slH ?_
  | with_reducible refine i_slT ?_
  | with_reducible refine i_noPart ?_
  | with_reducible refine i_part ?_
  | ((with_reducible refine' i_frzT ?e ?_); (case e => rfl))
  | ((with_reducible refine' i_frzH ?e ?m ?t ?_); (case e => rfl); (case m => rfl); (case t => rfl))
  | ((with_reducible refine' i_din ?k ?e ?_); (case k => rfl); (case e => rfl))
  | ((with_reducible refine' i_dnotin ?k ?e ?_); (case k => rfl); (case e => rfl))
  | with_reducible refine i_dput ?_
  | with_reducible refine i_newD ?_
  | with_reducible refine i_lstH ?_
  | with_reducible refine i_lst ?_
  | with_reducible refine i_tup ?_
  | with_reducible refine i_break ?_
  | with_reducible refine i_cont ?_
  | with_reducible refine i_callS ?_
  | ((with_reducible refine' i_ixHW ?e ?v ?_); (case e => first | rfl | assumption); (case v => first | assumption | rfl))
  | ((with_reducible refine' i_ixHT ?e ?v ?_); (case e => first | rfl | assumption); (case v => first | assumption | rfl))
  | ((with_reducible refine' i_lenHT ?e ?_); (case e => first | rfl | assumption))
  | ((with_reducible refine' i_lenHW ?e ?_); (case e => first | rfl | assumption))
  | ((with_reducible refine' i_frzH ?e ?m ?t ?_); (case e => rfl); (case m => rfl); (case t => rfl))
  | ((with_reducible refine' i_unw ?e ?n ?_); (case e => rfl); (case n => rfl))
  | with_reducible refine i_gwCons ?_
  | with_reducible refine i_gwNil ?_
  | with_reducible refine i_lstW ?_
  | ((with_reducible refine' i_gList ?e ?n ?_); (case e => rfl); (case n => rfl))
  | with_reducible refine i_listRgH ?_
  | with_reducible refine i_listRg ?_
  | with_reducible refine i_R1 ?_
  | with_reducible refine i_getD ?_
  | ((with_reducible refine' i_none ?k ?_); (case k => rfl))
  | walk_at "dn")
local macro_rules | `(tactic| walk_at "dl") => `(tactic| ((try walk_at "dn"); repeat walk_at "d1"))
theorem foldG {ι : Type} (pre acc : List ι) : pre.foldl (fun a x => a ++ [x]) acc = acc ++ pre := by
  induction pre generalizing acc with
  | nil => rw [List.foldl_nil, List.append_nil]
  | cons x pre ih => rw [List.foldl_cons, ih, List.append_assoc]; rfl
/-- a loop, with what has been gone through -/
theorem forG {D : De} {g1 : G} {gt : DGt} {tb : DSt} {ws : List W} {St : G → Prop} {ι : Type} (items : List ι) (enc : ι → W) (R : List ι → G → Prop) (hws : ws = items.map enc) (h0 : R [] g1) (hSt : ∀ b g, R b g → St g)
    (hstep : ∀ pre x post, items = pre ++ x :: post → ∀ g', R pre g' → ∀ N : G → Prop, (∀ g'', R (pre ++ [x]) g'' → N g'') → gt (enc x) g' fun g2 => tb { D with nx := N, ct := N, bk := D.nx } g2)
    (hQ : ∀ g', R items g' → D.nx g') : forI ws St g1 gt tb D := by
  refine forP items enc (fun a x => a ++ [x]) R [] hws h0 hSt ?_ ?_
  · intro pre x post hs g' hR N hN
    rw [foldG, List.nil_append] at hR hN
    exact hstep pre x post hs g' hR N hN
  · intro g' hR
    rw [foldG, List.nil_append] at hR
    exact hQ g' hR

end DL

namespace DL
open PySem PySem.Spec L2
local macro_rules | `(tactic| walk_at "dn") => `(tactic| simp only [purse_set2, purse_set3, purse_set4, purse_set5, purse_app, purse_len, purse_start, purse_l, G.set, G.put, G.push, G.wipe, wipeW, G.rs, rsW, List.set_cons_zero, List.set_cons_succ, List.map_cons, List.map_nil, List.length_cons, List.length_nil, List.nil_append, List.cons_append, List.replicate_succ, List.replicate_zero, Nat.reduceAdd, Nat.reduceSub, List.getD_cons_zero, List.getD_cons_succ, Option.getD_some, Option.getD_none])
local macro_rules | `(tactic| walk_at "d1") => `(tactic| first
  | with_reducible refine i_seq ?_
  | with_reducible refine i_asg ?_
  | with_reducible refine i_d2 ?_
  | ((with_reducible refine' i_var ?e ?_); (case e => rfl))
  | with_reducible refine i_c ?_
  | ((with_reducible refine' i_ix ?e ?v ?_); (case e => rfl); (case v => first | assumption | rfl))
  | with_reducible refine i_fI0 ?_
  | with_reducible refine i_gN ?_
  | with_reducible refine i_cons ?_
  | with_reducible refine i_nil ?_
  | with_reducible refine i_dN ?_
  | ((with_reducible refine' i_len ?e ?_); (case e => rfl))
  | with_reducible refine i_d1 ?_
  | with_reducible refine i_neg ?_
  | with_reducible refine i_B ?_
  | with_reducible refine o_B ?_
  | with_reducible refine o_I ?_
  | with_reducible refine i_ifS ?_
  | with_reducible refine i_or ?_
  | with_reducible refine i_and ?_
  | with_reducible refine i_not ?_
  | with_reducible refine i_andV ?_
  | with_reducible refine i_orV ?_
  | with_reducible refine i_notV ?_
  | with_reducible refine i_if ?_
  | with_reducible refine i_yes ?_
  | with_reducible refine k_T ?_
  | with_reducible refine k_F ?_
  | with_reducible refine k_True ?_
  | with_reducible refine k_False ?_
  | with_reducible refine i_eqI ?_
  | with_reducible refine i_neI ?_
  | with_reducible refine i_addI ?_
  | with_reducible refine i_addHI ?_
  | with_reducible refine i_callT ?_
  | with_reducible refine i_callH ?_
  | ((with_reducible refine' o_Ts ?e ?_); (case e => rfl))
  | with_reducible refine o_T ?_
  | ((with_reducible refine' o_TF ?e ?_); (case e => rfl))
  | with_reducible refine o_H ?_
  | ((with_reducible refine' o_HF ?e ?_); (case e => rfl))
  | with_reducible refine i_next ?_
  | with_reducible refine i_drop ?_
  | with_reducible refine i_ret ?_
  | with_reducible refine i_retN ?_
  | ((with_reducible refine' i_gTup ?e ?_); (case e => rfl))
  | with_reducible refine i_gCons ?_
  | with_reducible refine i_gNil ?_
  | with_reducible refine i_min2 ?_
  | with_reducible refine i_max2 ?_
  | with_reducible refine i_par ?_
  | with_reducible refine o_W2 ?_
  | ((with_reducible refine' i_aug ?e ?_); (case e => rfl))
  | with_reducible refine i_intI ?_
  | with_reducible refine i_intB ?_
  | with_reducible refine i_lc ?_
  | with_reducible refine i_for ?_
  | with_reducible refine i_while ?_
  | with_reducible refine i_itL ?_
  | ((with_reducible refine' o_Lq ?e ?_); (case e => rfl))
  | with_reducible refine i_itR1 ?_
  | with_reducible refine i_itR2 ?_
  | with_reducible refine o_I1 ?_
  | with_reducible refine o_I2 ?_
  | with_reducible refine e_t ?_
  | ((with_reducible refine' e_h ?e ?p ?_); (case e => rfl); (case p => rfl))
  | with_reducible refine i_M ?_
  | with_reducible refine i_M0 ?_
  | with_reducible refine i_gSub ?_
  | with_reducible refine i_finH ?_
  | with_reducible refine i_finT ?_
  | with_reducible refine i_sl ?_
  | with_reducible refine i_slH ?_
  | with_reducible refine i_slT ?_
  | with_reducible refine i_noPart ?_
  | with_reducible refine i_part ?_
  | ((with_reducible refine' i_frzT ?e ?_); (case e => rfl))
  | ((with_reducible refine' i_frzH ?e ?m ?t ?_); (case e => rfl); (case m => rfl); (case t => rfl))
  | ((with_reducible refine' i_din ?k ?e ?_); (case k => rfl); (case e => rfl))
  | ((with_reducible refine' i_dnotin ?k ?e ?_); (case k => rfl); (case e => rfl))
  | with_reducible refine i_dput ?_
  | with_reducible refine i_newD ?_
  | with_reducible refine i_lstH ?_
  | with_reducible refine i_lst ?_
  | with_reducible refine i_tup ?_
  | with_reducible refine i_break ?_
  | with_reducible refine i_cont ?_
  | with_reducible refine i_callS ?_
  | ((with_reducible refine' i_ixHW ?e ?v ?_); (case e => first | rfl | assumption); (case v => first | assumption | rfl))
  | ((with_reducible refine' i_ixHT ?e ?v ?_); (case e => first | rfl | assumption); (case v => first | assumption | rfl))
  | ((with_reducible refine' i_lenHT ?e ?_); (case e => first | rfl | assumption))
  | ((with_reducible refine' i_lenHW ?e ?_); (case e => first | rfl | assumption))
  | ((with_reducible refine' i_frzH ?e ?m ?t ?_); (case e => rfl); (case m => rfl); (case t => rfl))
  | ((with_reducible refine' i_unw ?e ?n ?_); (case e => rfl); (case n => rfl))
  | with_reducible refine i_gwCons ?_
  | with_reducible refine i_gwNil ?_
  | with_reducible refine i_lstW ?_
  | ((with_reducible refine' i_gList ?e ?n ?_); (case e => rfl); (case n => rfl))
  | with_reducible refine i_listRgH ?_
  | with_reducible refine i_listRg ?_
  | with_reducible refine i_R1 ?_
  | with_reducible refine i_getD ?_
  | ((with_reducible refine' i_none ?k ?_); (case k => rfl))
  | walk_at "dn")
local macro_rules | `(tactic| walk_at "dl") => `(tactic| ((try walk_at "dn"); repeat walk_at "d1"))
/-! lent cells, cells behind a purse, step by step -/
theorem lend_c {g : G} {w : W} {t : T} {ws : List W} {ts : List T} (e : g.tree? w = some t) (r : lendW g ws = some ts) : lendW g (w :: ws) = some (t :: ts) := by
  unfold lendW
  rw [e, r]
theorem mem_new {t : Nat} {c : List Int} {m : Sto} {x : Option Cell} : (purseM t c ++ (m ++ [x]))[m.length + 2]? = some x := by
  show (m ++ [x])[m.length]? = _
  rw [List.getElem?_append_right (Nat.le_refl _), Nat.sub_self]
  rfl
theorem mem_old {t j : Nat} {c : List Int} {m l : Sto} {v : Option Cell} (h : m[j]? = some v) : (purseM t c ++ (m ++ l))[j + 2]? = some v := by
  show (m ++ l)[j]? = _
  rw [List.getElem?_append_left (by
    rcases Nat.lt_or_ge j m.length with z | z
    · exact z
    · rw [List.getElem?_eq_none z] at h; cases h)]
  exact h
theorem mem_at {t j : Nat} {c : List Int} {m : Sto} {v : Option Cell} (h : m[j]? = some v) : (purseM t c ++ m)[j + 2]? = some v := h
theorem get_lt {α : Type} {l : List α} {i : Nat} {v : α} (h : l[i]? = some v) : i < l.length := by
  rcases Nat.lt_or_ge i l.length with z | z
  · exact z
  · rw [List.getElem?_eq_none z] at h; cases h

end DL

namespace DL
open PySem PySem.Spec L2
local macro_rules | `(tactic| walk_at "dn") => `(tactic| simp only [purse_set2, purse_set3, purse_set4, purse_set5, purse_app, purse_len, purse_start, purse_l, G.set, G.put, G.push, G.wipe, wipeW, G.rs, rsW, List.set_cons_zero, List.set_cons_succ, List.map_cons, List.map_nil, List.length_cons, List.length_nil, List.nil_append, List.cons_append, List.replicate_succ, List.replicate_zero, Nat.reduceAdd, Nat.reduceSub, List.getD_cons_zero, List.getD_cons_succ, Option.getD_some, Option.getD_none])
local macro_rules | `(tactic| walk_at "d1") => `(tactic| first
  | with_reducible refine i_seq ?_
  | with_reducible refine i_asg ?_
  | with_reducible refine i_d2 ?_
  | ((with_reducible refine' i_var ?e ?_); (case e => rfl))
  | with_reducible refine i_c ?_
  | ((with_reducible refine' i_ix ?e ?v ?_); (case e => rfl); (case v => first | assumption | rfl))
  | with_reducible refine i_fI0 ?_
  | with_reducible refine i_gN ?_
  | with_reducible refine i_cons ?_
  | with_reducible refine i_nil ?_
  | with_reducible refine i_dN ?_
  | ((with_reducible refine' i_len ?e ?_); (case e => rfl))
  | with_reducible refine i_d1 ?_
  | with_reducible refine i_neg ?_
  | with_reducible refine i_B ?_
  | with_reducible refine o_B ?_
  | with_reducible refine o_I ?_
  | with_reducible refine i_ifS ?_
  | with_reducible refine i_or ?_
  | with_reducible refine i_and ?_
  | with_reducible refine i_not ?_
  | with_reducible refine i_andV ?_
  | with_reducible refine i_orV ?_
  | with_reducible refine i_notV ?_
  | with_reducible refine i_if ?_
  | with_reducible refine i_yes ?_
  | with_reducible refine k_T ?_
  | with_reducible refine k_F ?_
  | with_reducible refine k_True ?_
  | with_reducible refine k_False ?_
  | with_reducible refine i_eqI ?_
  | with_reducible refine i_neI ?_
  | with_reducible refine i_addI ?_
  | with_reducible refine i_addHI ?_
  | with_reducible refine i_callT ?_
  | with_reducible refine i_callH ?_
  | ((with_reducible refine' o_Ts ?e ?_); (case e => rfl))
  | with_reducible refine o_T ?_
  | ((with_reducible refine' o_TF ?e ?_); (case e => rfl))
  | with_reducible refine o_H ?_
  | ((with_reducible refine' o_HF ?e ?_); (case e => rfl))
  | with_reducible refine i_next ?_
  | with_reducible refine i_drop ?_
  | with_reducible refine i_ret ?_
  | with_reducible refine i_retN ?_
  | ((with_reducible refine' i_gTup ?e ?_); (case e => rfl))
  | with_reducible refine i_gCons ?_
  | with_reducible refine i_gNil ?_
  | with_reducible refine i_min2 ?_
  | with_reducible refine i_max2 ?_
  | with_reducible refine i_par ?_
  | with_reducible refine o_W2 ?_
  | ((with_reducible refine' i_aug ?e ?_); (case e => rfl))
  | with_reducible refine i_intI ?_
  | with_reducible refine i_intB ?_
  | with_reducible refine i_lc ?_
  | with_reducible refine i_for ?_
  | with_reducible refine i_while ?_
  | with_reducible refine i_itL ?_
  | ((with_reducible refine' o_Lq ?e ?_); (case e => rfl))
  | with_reducible refine i_itR1 ?_
  | with_reducible refine i_itR2 ?_
  | with_reducible refine o_I1 ?_
  | with_reducible refine o_I2 ?_
  | with_reducible refine e_t ?_
  | ((with_reducible refine' e_h ?e ?p ?_); (case e => rfl); (case p => rfl))
  | with_reducible refine i_M ?_
  | with_reducible refine i_M0 ?_
  | with_reducible refine i_gSub ?_
  | with_reducible refine i_finH ?_
  | with_reducible refine i_finT ?_
  | with_reducible refine i_sl ?_
  | with_reducible refine i_slH ?_
  | with_reducible refine i_slT ?_
  | with_reducible refine i_noPart ?_
  | with_reducible refine i_part ?_
  | ((with_reducible refine' i_frzT ?e ?_); (case e => rfl))
  | ((with_reducible refine' i_frzH ?e ?m ?t ?_); (case e => rfl); (case m => rfl); (case t => rfl))
  | ((with_reducible refine' i_din ?k ?e ?_); (case k => rfl); (case e => rfl))
  | ((with_reducible refine' i_dnotin ?k ?e ?_); (case k => rfl); (case e => rfl))
  | with_reducible refine i_dput ?_
  | with_reducible refine i_newD ?_
  | with_reducible refine i_lstH ?_
  | with_reducible refine i_lst ?_
  | with_reducible refine i_tup ?_
  | with_reducible refine i_break ?_
  | with_reducible refine i_cont ?_
  | with_reducible refine i_callS ?_
  | ((with_reducible refine' i_ixHW ?e ?v ?_); (case e => first | rfl | assumption); (case v => first | assumption | rfl))
  | ((with_reducible refine' i_ixHT ?e ?v ?_); (case e => first | rfl | assumption); (case v => first | assumption | rfl))
  | ((with_reducible refine' i_lenHT ?e ?_); (case e => first | rfl | assumption))
  | ((with_reducible refine' i_lenHW ?e ?_); (case e => first | rfl | assumption))
  | ((with_reducible refine' i_frzH ?e ?m ?t ?_); (case e => rfl); (case m => rfl); (case t => rfl))
  | ((with_reducible refine' i_unw ?e ?n ?_); (case e => rfl); (case n => rfl))
  | with_reducible refine i_gwCons ?_
  | with_reducible refine i_gwNil ?_
  | with_reducible refine i_lstW ?_
  | ((with_reducible refine' i_gList ?e ?n ?_); (case e => rfl); (case n => rfl))
  | with_reducible refine i_listRgH ?_
  | with_reducible refine i_listRg ?_
  | with_reducible refine i_R1 ?_
  | with_reducible refine i_getD ?_
  | ((with_reducible refine' i_none ?k ?_); (case k => rfl))
  | walk_at "dn")
local macro_rules | `(tactic| walk_at "dl") => `(tactic| ((try walk_at "dn"); repeat walk_at "d1"))
/-! lists of whole numbers compared (stands in K1a too: never join both) -/
theorem eqvAll_ints : ∀ xs ys : List Int, PyData.eqvAll ((xs.map T.int).map T.pd) ((ys.map T.int).map T.pd) = decide (xs = ys)
  | [], [] => by simp [PyData.eqvAll]
  | [], y :: ys => by simp [PyData.eqvAll]
  | x :: xs, [] => by simp [PyData.eqvAll]
  | x :: xs, y :: ys => by
    rw [List.map_cons, List.map_cons, List.map_cons, List.map_cons]
    unfold PyData.eqvAll
    rw [eqvAll_ints xs ys]
    simp only [T.pd, PyData.eqv, Bool.beq_eq_decide_eq]
    by_cases h : x = y
    · subst h; simp
    · simp [h]
theorem teq_ints_iff (xs ys : List Int) : teq (.lst (xs.map T.int)) (.lst (ys.map T.int)) = decide (xs = ys) := by
  unfold teq
  simp only [T.pd, PyData.eqv]
  exact eqvAll_ints xs ys

end DL

namespace DL
open PySem PySem.Spec L2
local macro_rules | `(tactic| walk_at "dn") => `(tactic| simp only [purse_set2, purse_set3, purse_set4, purse_set5, purse_app, purse_len, purse_start, purse_l, G.set, G.put, G.push, G.wipe, wipeW, G.rs, rsW, List.set_cons_zero, List.set_cons_succ, List.map_cons, List.map_nil, List.length_cons, List.length_nil, List.nil_append, List.cons_append, List.replicate_succ, List.replicate_zero, Nat.reduceAdd, Nat.reduceSub, List.getD_cons_zero, List.getD_cons_succ, Option.getD_some, Option.getD_none])
local macro_rules | `(tactic| walk_at "d1") => `(tactic| first
  | with_reducible refine i_seq ?_
  | with_reducible refine i_asg ?_
  | with_reducible refine i_d2 ?_
  | ((with_reducible refine' i_var ?e ?_); (case e => rfl))
  | with_reducible refine i_c ?_
  | ((with_reducible refine' i_ix ?e ?v ?_); (case e => rfl); (case v => first | assumption | rfl))
  | with_reducible refine i_fI0 ?_
  | with_reducible refine i_gN ?_
  | with_reducible refine i_cons ?_
  | with_reducible refine i_nil ?_
  | with_reducible refine i_dN ?_
  | ((with_reducible refine' i_len ?e ?_); (case e => rfl))
  | with_reducible refine i_d1 ?_
  | with_reducible refine i_neg ?_
  | with_reducible refine i_B ?_
  | with_reducible refine o_B ?_
  | with_reducible refine o_I ?_
  | with_reducible refine i_ifS ?_
  | with_reducible refine i_or ?_
  | with_reducible refine i_and ?_
  | with_reducible refine i_not ?_
  | with_reducible refine i_andV ?_
  | with_reducible refine i_orV ?_
  | with_reducible refine i_notV ?_
  | with_reducible refine i_if ?_
  | with_reducible refine i_yes ?_
  | with_reducible refine k_T ?_
  | with_reducible refine k_F ?_
  | with_reducible refine k_True ?_
  | with_reducible refine k_False ?_
  | with_reducible refine i_eqI ?_
  | with_reducible refine i_neI ?_
  | with_reducible refine i_addI ?_
  | with_reducible refine i_addHI ?_
  | with_reducible refine i_callT ?_
  | with_reducible refine i_callH ?_
  | ((with_reducible refine' o_Ts ?e ?_); (case e => rfl))
  | with_reducible refine o_T ?_
  | ((with_reducible refine' o_TF ?e ?_); (case e => rfl))
  | with_reducible refine o_H ?_
  | ((with_reducible refine' o_HF ?e ?_); (case e => rfl))
  | with_reducible refine i_next ?_
  | with_reducible refine i_drop ?_
  | with_reducible refine i_ret ?_
  | with_reducible refine i_retN ?_
  | ((with_reducible refine' i_gTup ?e ?_); (case e => rfl))
  | with_reducible refine i_gCons ?_
  | with_reducible refine i_gNil ?_
  | with_reducible refine i_min2 ?_
  | with_reducible refine i_max2 ?_
  | with_reducible refine i_par ?_
  | with_reducible refine o_W2 ?_
  | ((with_reducible refine' i_aug ?e ?_); (case e => rfl))
  | with_reducible refine i_intI ?_
  | with_reducible refine i_intB ?_
  | with_reducible refine i_lc ?_
  | with_reducible refine i_for ?_
  | with_reducible refine i_while ?_
  | with_reducible refine i_itL ?_
  | ((with_reducible refine' o_Lq ?e ?_); (case e => rfl))
  | with_reducible refine i_itR1 ?_
  | with_reducible refine i_itR2 ?_
  | with_reducible refine o_I1 ?_
  | with_reducible refine o_I2 ?_
  | with_reducible refine e_t ?_
  | ((with_reducible refine' e_h ?e ?p ?_); (case e => rfl); (case p => rfl))
  | with_reducible refine i_M ?_
  | with_reducible refine i_M0 ?_
  | with_reducible refine i_gSub ?_
  | with_reducible refine i_finH ?_
  | with_reducible refine i_finT ?_
  | with_reducible refine i_sl ?_
  | with_reducible refine i_slH ?_
  | with_reducible refine i_slT ?_
  | with_reducible refine i_noPart ?_
  | with_reducible refine i_part ?_
  | ((with_reducible refine' i_frzT ?e ?_); (case e => rfl))
  | ((with_reducible refine' i_frzH ?e ?m ?t ?_); (case e => rfl); (case m => rfl); (case t => rfl))
  | ((with_reducible refine' i_din ?k ?e ?_); (case k => rfl); (case e => rfl))
  | ((with_reducible refine' i_dnotin ?k ?e ?_); (case k => rfl); (case e => rfl))
  | with_reducible refine i_dput ?_
  | with_reducible refine i_newD ?_
  | with_reducible refine i_lstH ?_
  | with_reducible refine i_lst ?_
  | with_reducible refine i_tup ?_
  | with_reducible refine i_break ?_
  | with_reducible refine i_cont ?_
  | with_reducible refine i_callS ?_
  | ((with_reducible refine' i_ixHW ?e ?v ?_); (case e => first | rfl | assumption); (case v => first | assumption | rfl))
  | ((with_reducible refine' i_ixHT ?e ?v ?_); (case e => first | rfl | assumption); (case v => first | assumption | rfl))
  | ((with_reducible refine' i_lenHT ?e ?_); (case e => first | rfl | assumption))
  | ((with_reducible refine' i_lenHW ?e ?_); (case e => first | rfl | assumption))
  | ((with_reducible refine' i_frzH ?e ?m ?t ?_); (case e => rfl); (case m => rfl); (case t => rfl))
  | ((with_reducible refine' i_unw ?e ?n ?_); (case e => rfl); (case n => rfl))
  | with_reducible refine i_gwCons ?_
  | with_reducible refine i_gwNil ?_
  | with_reducible refine i_lstW ?_
  | ((with_reducible refine' i_gList ?e ?n ?_); (case e => rfl); (case n => rfl))
  | with_reducible refine i_listRgH ?_
  | with_reducible refine i_listRg ?_
  | with_reducible refine i_R1 ?_
  | with_reducible refine i_getD ?_
  | ((with_reducible refine' i_none ?k ?_); (case k => rfl))
  | walk_at "dn")
local macro_rules | `(tactic| walk_at "dl") => `(tactic| ((try walk_at "dn"); repeat walk_at "d1"))
/-! going through a part -/
structure DF where
  fr : List (Int × List Nat)
  left : List Int
  cut : List Nat
def DF.step (w : Web) (p : Int) (s : DF) : DF := match s.fr with
  | [] => s
  | (x, []) :: F => ⟨F, s.left ++ [x], s.cut⟩
  | (x, k :: ks) :: F => if (w.row k).e ∈ x :: F.map (·.1) then ⟨(x, ks) :: F, s.left, s.cut ++ [k]⟩ else if (w.row k).e ∈ s.left then ⟨(x, ks) :: F, s.left, s.cut⟩ else ⟨((w.row k).e, w.fromP p (w.row k).e) :: (x, ks) :: F, s.left, s.cut⟩
def DF.go (w : Web) (p : Int) : Nat → DF → DF
  | 0, s => s
  | n + 1, s => DF.go w p n (s.step w p)
theorem DF.go_add (w : Web) (p : Int) : ∀ (n m : Nat) (s : DF), DF.go w p (n + m) s = DF.go w p m (DF.go w p n s)
  | 0, m, s => by rw [Nat.zero_add]; rfl
  | n + 1, m, s => by
    rw [show n + 1 + m = (n + m) + 1 by omega]
    show DF.go w p (n + m) (s.step w p) = DF.go w p m (DF.go w p n (s.step w p))
    exact DF.go_add w p n m _
theorem DF.go_one (w : Web) (p : Int) (n : Nat) (s : DF) : DF.go w p (n + 1) s = (DF.go w p n s).step w p := by
  rw [DF.go_add]
  rfl
theorem DF.stop {w : Web} {p : Int} {l : List Int} {c : List Nat} : ∀ n : Nat, DF.go w p n ⟨[], l, c⟩ = ⟨[], l, c⟩
  | 0 => rfl
  | n + 1 => by
    show DF.go w p n (DF.step w p ⟨[], l, c⟩) = _
    exact DF.stop n
def DF.ends (w : Web) (p : Int) (s : DF) (l : List Int) (c : List Nat) : Prop := ∃ n, DF.go w p n s = ⟨[], l, c⟩
theorem DF.uniq {w : Web} {p : Int} {s : DF} {l l' : List Int} {c c' : List Nat} (h : DF.ends w p s l c) (k : DF.ends w p s l' c') : l = l' ∧ c = c' := by
  obtain ⟨n, h⟩ := h
  obtain ⟨m, k⟩ := k
  have e1 : DF.go w p (n + m) s = ⟨[], l, c⟩ := by rw [DF.go_add, h, DF.stop]
  have e2 : DF.go w p (n + m) s = ⟨[], l', c'⟩ := by rw [Nat.add_comm, DF.go_add, k, DF.stop]
  rw [e1] at e2
  cases e2
  exact ⟨rfl, rfl⟩
def DF.init (w : Web) (p : Int) : DF := ⟨[(0, w.fromP p 0)], [], []⟩
theorem nd_fromP (w : Web) (p x : Int) : (w.fromP p x).Nodup := List.nodup_range.filter _
/-- while cuts goes on: the rows looked at -/
structure CI (w : Web) (p : Int) (s : DF) (looked : List Nat) : Prop where
  nd : (s.fr.map (·.1) ++ s.left).Nodup
  inr : ∀ y ∈ s.fr.map (·.1) ++ s.left, 0 ≤ y ∧ y < w.place p
  rem : ∀ f ∈ s.fr, f.2 = (w.fromP p f.1).filter fun k => !decide (k ∈ looked)
  un : ∀ y, y ∉ s.fr.map (·.1) ++ s.left → ∀ k ∈ w.fromP p y, k ∉ looked
  lnd : looked.Nodup
  lin : ∀ k ∈ looked, k < w.rows.length
  clen : s.cut.length ≤ looked.length
def muF : List (Int × List Nat) → Nat
  | [] => 0
  | f :: F => f.2.length + 1 + muF F
def DF.mu (s : DF) : Nat := 100 * (16 - (s.fr.length + s.left.length)) + muF s.fr
theorem CI.llen {w : Web} {p : Int} {s : DF} {looked : List Nat} (h : CI w p s looked) : looked.length ≤ w.rows.length := by
  have := h.lnd.length_le_of_subset (l₂ := List.range w.rows.length) fun k hk => List.mem_range.mpr (h.lin k hk)
  rw [List.length_range] at this
  exact this
theorem CI.plen {w : Web} {p : Int} {s : DF} {looked : List Nat} (h : CI w p s looked) : s.fr.length + s.left.length ≤ (w.place p).toNat := by
  have := h.nd.length_le_of_subset (l₂ := upN (w.place p)) fun x hx => mem_upN.mpr (h.inr x hx)
  rw [List.length_append, List.length_map, len_upN] at this
  exact this
theorem CI.start {w : Web} {p : Int} (h2 : 2 ≤ w.place p) : CI w p (DF.init w p) [] := by
  refine ⟨by simp [DF.init], fun y hy => by simp [DF.init] at hy; omega, fun f hf => ?_, fun y _ k _ h => by simp at h, List.nodup_nil, fun k h => by simp at h, by simp [DF.init]⟩
  simp only [DF.init, List.mem_singleton] at hf
  subst hf
  show w.fromP p 0 = _
  rw [List.filter_eq_self.mpr]
  intro k _
  simp
theorem CI.pop {w : Web} {p : Int} {x : Int} {F : List (Int × List Nat)} {l : List Int} {c looked : List Nat} (h : CI w p ⟨(x, []) :: F, l, c⟩ looked) : CI w p ⟨F, l ++ [x], c⟩ looked := by
  have hp : (F.map (·.1) ++ (l ++ [x])).Perm (((x, ([] : List Nat)) :: F).map (·.1) ++ l) := by
    rw [List.map_cons, List.cons_append, ← List.append_assoc]
    exact List.perm_append_singleton x _
  refine ⟨hp.nodup_iff.mpr h.nd, fun y hy => h.inr y (hp.mem_iff.mp hy), fun f hf => h.rem f (List.mem_cons_of_mem _ hf), fun y hy => h.un y fun z => hy (hp.mem_iff.mpr z), h.lnd, h.lin, h.clen⟩
theorem CI.look {w : Web} {p : Int} {x : Int} {k : Nat} {ks : List Nat} {F : List (Int × List Nat)} {l : List Int} {c looked : List Nat} (h : CI w p ⟨(x, k :: ks) :: F, l, c⟩ looked) {c' : List Nat} (hc : c'.length ≤ c.length + 1) : CI w p ⟨(x, ks) :: F, l, c'⟩ (looked ++ [k]) := by
  have hr := h.rem (x, k :: ks) (by simp)
  have hk : k ∈ (w.fromP p x).filter fun k => !decide (k ∈ looked) := by rw [← hr]; simp
  obtain ⟨hkf, hkl⟩ := List.mem_filter.mp hk
  have hkl : k ∉ looked := by simpa using hkl
  have hks := (mem_fromP.mp hkf)
  have hnd : (k :: ks).Nodup := by rw [show k :: ks = _ from hr]; exact (nd_fromP w p x).filter _
  have hother : ∀ y, y ≠ x → ∀ j ∈ w.fromP p y, j ≠ k := fun y hy j hj e => by
    subst e
    exact hy ((mem_fromP.mp hj).2.2.symm.trans hks.2.2)
  have hxF : x ∉ F.map (·.1) := fun z => by
    have := h.nd
    rw [List.map_cons, List.cons_append, List.nodup_cons] at this
    exact this.1 (List.mem_append_left _ z)
  refine ⟨h.nd, h.inr, fun f hf => ?_, fun y hy j hj z => ?_, ?_, fun j hj => ?_, ?_⟩
  · rcases List.mem_cons.mp hf with rfl | hf
    · show ks = (w.fromP p x).filter fun j => !decide (j ∈ looked ++ [k])
      have e : ((w.fromP p x).filter fun j => !decide (j ∈ looked ++ [k])) = ((w.fromP p x).filter fun j => !decide (j ∈ looked)).filter fun j => !decide (j = k) := by
        rw [List.filter_filter]
        refine List.filter_congr fun j _ => ?_
        by_cases h1 : j ∈ looked
        · simp [h1]
        · by_cases h2 : j = k
          · simp [h1, h2]
          · simp [h1, h2]
      rw [e, ← hr]
      rw [List.filter_cons, if_neg (by simp)]
      rw [List.filter_eq_self.mpr]
      intro j hj
      have := (List.nodup_cons.mp hnd).1
      simp
      exact fun e => this (e ▸ hj)
    · have e1 := h.rem f (List.mem_cons_of_mem _ hf)
      rw [e1]
      refine List.filter_congr fun j hj => ?_
      have hne := hother f.1 (fun e => hxF (by rw [← e]; exact List.mem_map.mpr ⟨f, hf, rfl⟩)) j hj
      simp [hne]
  · have hy2 : y ∉ ((x, k :: ks) :: F).map (·.1) ++ l := hy
    have hyx : y ≠ x := fun e => hy2 (by rw [e]; simp)
    rcases List.mem_append.mp z with z | z
    · exact h.un y hy2 j hj z
    · simp at z
      exact hother y hyx j hj z
  · rw [List.nodup_append]
    exact ⟨h.lnd, by simp, fun a ha b hb => by simp at hb; rw [hb]; exact fun e => hkl (e ▸ ha)⟩
  · rcases List.mem_append.mp hj with hj | hj
    · exact h.lin j hj
    · simp at hj
      rw [hj]
      exact hks.1
  · have := h.clen
    rw [List.length_append, List.length_singleton]
    show c'.length ≤ _
    have : c.length ≤ looked.length := this
    omega
theorem CI.push {w : Web} {p : Int} {F : List (Int × List Nat)} {l : List Int} {c looked : List Nat} (h : CI w p ⟨F, l, c⟩ looked) {g : Int} (hg : g ∉ F.map (·.1) ++ l) (hin : 0 ≤ g ∧ g < w.place p) : CI w p ⟨(g, w.fromP p g) :: F, l, c⟩ looked := by
  refine ⟨?_, fun y hy => ?_, fun f hf => ?_, fun y hy => h.un y fun z => hy (List.mem_cons_of_mem _ z), h.lnd, h.lin, h.clen⟩
  · rw [List.map_cons, List.cons_append, List.nodup_cons]
    exact ⟨hg, h.nd⟩
  · rcases List.mem_cons.mp hy with rfl | hy
    · exact hin
    · exact h.inr y hy
  · rcases List.mem_cons.mp hf with rfl | hf
    · show w.fromP p g = _
      rw [List.filter_eq_self.mpr]
      intro j hj
      have := h.un g hg j hj
      simp [this]
    · exact h.rem f hf
theorem atI_last {α : Type} (ys : List α) (y : α) : atI (ys ++ [y]) (-1) = some y := by
  unfold atI ixN
  rw [List.length_append, List.length_singleton, if_neg (by decide), if_pos (by omega)]
  show (ys ++ [y])[((-1 : Int) + ((ys.length + 1 : Nat) : Int)).toNat]? = some y
  rw [show ((-1 : Int) + ((ys.length + 1 : Nat) : Int)).toNat = ys.length by omega, List.getElem?_append_right (Nat.le_refl _), Nat.sub_self]
  rfl
theorem castN (ks : List Nat) : ks.map natT = (ks.map fun k => ((k : Nat) : Int)).map T.int := by rw [List.map_map]; rfl
theorem memN {ks : List Nat} {k : Nat} : ((k : Nat) : Int) ∈ ks.map (fun k => ((k : Nat) : Int)) ↔ k ∈ ks := by
  rw [List.mem_map]
  constructor
  · rintro ⟨j, hj, e⟩
    have : j = k := by omega
    rw [← this]
    exact hj
  · exact fun h => ⟨k, h, rfl⟩
def C_cuts : PC := fun ts Q => ∃ (w : Web) (p : Nat), ts = [w.t, .int p] ∧ w.Ok ∧ p < w.places.length ∧ ∀ l c, DF.ends w p (DF.init w p) l c → c.length ≤ 60 → ∀ s : List Int, s.Perm (c.map fun k => ((k : Nat) : Int)) → s.Pairwise (· ≤ ·) → Q (.f (.lt (s.map T.int)))
theorem ln_cuts : ∀ ts Q, C_cuts ts Q → ts.length = ["web", "part"].length := by rintro ts Q ⟨_, _, rfl, _⟩; rfl
def rd_cuts : DSt :=
  dSeq (dDrop (dCallT C_must_be_part (dCons (dVar 0) (dCons (dVar 1) (dNil)))))
  (dSeq (dAsg (dLstH (dCons (dC (.int 0)) (dNil))) (dgN 2))
  (dSeq (dAsg (dLstH (dNil)) (dgN 3))
  (dSeq (dAsg (dLstH (dNil)) (dgN 4))
  (dSeq (dAsg (dLstH (dNil)) (dgN 5))
  (dSeq (dWhile (dB (d2 (fI0 fun i j => .bl (decide (j < i))) (dN fLen (dCons (dVar 2) (dNil))) (dC (.int 0)))) (dSeq (dAsg (dLc finT (diL (dCallT C_rows_from (dCons (dVar 0) (dCons (dVar 1) (dCons (d2 fIx (dVar 2) (d1 fNeg (dC (.int 1)))) (dNil)))))) (dgN 8) (dB (d2 (fIn true) (dVar 8) (dVar 3))) (dVar 8) [8]) (dgN 6))
  (dIfS (dB (d2 (fEq false) (dN fLen (dCons (dVar 6) (dNil))) (dC (.int 0)))) (dDrop (dM fAppend (dVar 4) (dCons (dM0 fPop (dVar 2)) (dNil)))) (dSeq (dDrop (dM fAppend (dVar 3) (dCons (d2 fIx (dVar 6) (dC (.int 0))) (dNil))))
  (dSeq (dAsg (d2 fIx (d2 fIx (d2 fIx (dVar 0) (dC (.int 1))) (d2 fIx (dVar 6) (dC (.int 0)))) (dC (.int 2))) (dgN 7))
  (dIfS (dB (d2 (fIn false) (dVar 7) (dVar 2))) (dDrop (dM fAppend (dVar 5) (dCons (d2 fIx (dVar 6) (dC (.int 0))) (dNil)))) (dIfS (dB (d2 (fIn true) (dVar 7) (dVar 4))) (dDrop (dM fAppend (dVar 2) (dCons (dVar 7) (dNil)))) (dNext))))))))
  (dRet (dN fSortedH (dCons (dVar 5) (dNil)))))))))

theorem rp_cuts : ∀ ts Q, C_cuts ts Q → rd_cuts ⟨FinP Q (.t .non), FinP Q, fun _ => False, fun _ => False⟩ ⟨ts.map (fun t => some (W.t t)) ++ List.replicate (9 - ts.length) none, []⟩ := by
  rintro ts Q ⟨w, p, rfl, hok, hp, hQ⟩
  have h1 := hok.1
  have hpl := hok.2.1 _ (place_mem hp)
  unfold rd_cuts
  walk_at "dl"
  refine ⟨w, p, rfl, hok, hp, ?_⟩
  walk_at "dl"
  refine ⟨by decide, ?_⟩
  walk_at "dl"
  refine ⟨by decide, ?_⟩
  walk_at "dl"
  refine ⟨by decide, ?_⟩
  walk_at "dl"
  refine ⟨by decide, ?_⟩
  walk_at "dl"
  refine ⟨fun m g' => ∃ (s : DF) (looked : List Nat) (n : Nat) (o6 o7 o8 : Option W), g' = ⟨[some (.t w.t), some (.t (.int p)), some (.h 0), some (.h 1), some (.h 2), some (.h 3), o6, o7, o8], [some (.lt ((s.fr.map (·.1)).reverse.map T.int)), some (.lt (looked.map natT)), some (.lt (s.left.map T.int)), some (.lt (s.cut.map natT))]⟩ ∧
      DF.go w p n (DF.init w p) = s ∧ CI w p s looked ∧ m = s.mu,
    ⟨_, DF.init w p, [], 0, none, none, none, rfl, rfl, .start hpl.1, rfl⟩, ?_⟩
  rintro m g' ⟨s, looked, n, o6, o7, o8, rfl, hn, hC, rfl⟩
  have hll := hC.llen
  have hpp := hC.plen
  have hcl := hC.clen
  obtain ⟨fr, l, c⟩ := s
  dsimp only at hpp hcl ⊢
  cases fr with
  | nil =>
    walk_at "dl"
    refine k_dF (by simp) ?_
    walk_at "dl"
    refine i_sortedH (ns := c.map fun k => ((k : Nat) : Int)) (by rw [← castN]; rfl) fun s hp hs => ?_
    walk_at "dl"
    exact hQ l c ⟨n, hn⟩ (by omega) s hp hs
  | cons f F =>
    obtain ⟨x, rem⟩ := f
    have hx := hC.inr x (by simp)
    have hst : (((x, rem) :: F).map (·.1)).reverse.map T.int = (F.map (·.1)).reverse.map T.int ++ [T.int x] := by rw [List.map_cons, List.reverse_cons, List.map_append]; rfl
    rw [List.length_cons] at hpp
    rw [hst]
    have hlast : atI ((F.map (·.1)).reverse.map T.int ++ [T.int x]) (-1) = some (.int x) := atI_last _ _
    walk_at "dl"
    refine k_dT (by rw [List.length_append, List.length_singleton]; omega) ?_
    walk_at "dl"
    refine ⟨w, p, x, rfl, by omega, ?_⟩
    walk_at "dl"
    have hfl := fromP_len w p x
    refine lcP (w.fromP p x) (fun k => W.t (natT k)) (fun k => !decide (k ∈ looked)) natT (by rw [List.map_map]; rfl) (lineLe (by omega)) rfl ?_ rfl ?_
    · intro k hk Y N2 hY hN2
      have hcast := castN looked
      unfold natT at *
      walk_at "dl"
      refine i_ninI (xs := looked.map fun k => ((k : Nat) : Int)) (by rw [← hcast]; rfl) ?_
      walk_at "dl"
      refine k_n (fun h => ?_) (fun h => ?_)
      · walk_at "dl"
        exact hY (by rw [decide_eq_false (fun z => h (memN.mpr z))]; rfl) _ rfl
      · exact hN2 (by rw [decide_eq_true (memN.mp h)]; rfl) _ rfl
    have hr : rem = (w.fromP p x).filter fun k => !decide (k ∈ looked) := hC.rem (x, rem) (by simp)
    rw [← hr]
    walk_at "dl"
    rw [List.length_map]
    cases rem with
    | nil =>
      refine k_dT rfl ?_
      walk_at "dl"
      refine ⟨isL_lt rfl, ?_⟩
      walk_at "dl"
      refine ⟨isL_lt rfl, ?_⟩
      walk_at "dl"
      refine i_pop (us := (F.map (·.1)).reverse.map T.int ++ [T.int x]) (x := T.int x) rfl (by rw [List.length_append, List.length_singleton, Nat.add_sub_cancel, List.getElem?_append_right (Nat.le_refl _), Nat.sub_self]; rfl) ?_
      rw [List.dropLast_concat]
      walk_at "dl"
      refine i_append rfl (lineLt (by rw [List.length_map]; omega)) ?_
      rw [show l.map T.int ++ [T.int x] = (l ++ [x]).map T.int by rw [List.map_append]; rfl]
      walk_at "dn"
      refine ⟨DF.mu ⟨F, l ++ [x], c⟩, ?_, ⟨F, l ++ [x], c⟩, looked, n + 1, _, _, _, rfl, by rw [DF.go_one, hn]; rfl, hC.pop, rfl⟩
      unfold DF.mu
      dsimp only
      rw [List.length_append, List.length_singleton, List.length_cons]
      show _ < _ + (0 + 1 + muF F)
      omega
    | cons k ks =>
      refine k_dF (by rw [List.length_cons]; omega) ?_
      have hkf : k ∈ w.fromP p x := by
        have : k ∈ k :: ks := by simp
        rw [show k :: ks = _ from hr] at this
        exact (List.mem_filter.mp this).1
      obtain ⟨k1, k2, k3⟩ := mem_fromP.mp hkf
      have hrow := row_at k1
      have hro := hok.2.2.1 _ (row_mem k1)
      unfold Web.rowOk at hro
      rw [k2] at hro
      have hat0 : atI ((k :: ks).map natT) 0 = some (natT k) := atI_nat (xs := (k :: ks).map natT) (j := 0) rfl
      have hks : ks.length ≤ 60 := by
        have e := congrArg List.length hr
        have := List.length_filter_le (fun k => !decide (k ∈ looked)) (w.fromP p x)
        rw [List.length_cons] at e
        omega
      have hg := DF.go_one w p n (DF.init w p)
      rw [hn] at hg
      unfold Row.t Web.t at *
      walk_at "dl"
      refine ⟨isL_lt rfl, ?_⟩
      walk_at "dl"
      refine i_append rfl (lineLt (by rw [List.length_map]; omega)) ?_
      rw [show looked.map natT ++ [natT k] = (looked ++ [k]).map natT by rw [List.map_append]; rfl]
      unfold natT at hat0
      walk_at "dl"
      have hst2 : (F.map (·.1)).reverse.map T.int ++ [T.int x] = ((F.map (·.1)).reverse ++ [x]).map T.int := by rw [List.map_append]; rfl
      have hsx : ∀ r : List Nat, (((x, r) :: F).map (·.1)).reverse.map T.int = ((F.map (·.1)).reverse ++ [x]).map T.int := fun r => by rw [List.map_cons, List.reverse_cons]
      have hmS : ∀ y, y ∈ (F.map (·.1)).reverse ++ [x] ↔ y ∈ x :: F.map (·.1) := fun y => by
        rw [List.mem_append, List.mem_reverse, List.mem_singleton, List.mem_cons]
        exact Or.comm
      rw [hst2]
      refine i_inI (xs := (F.map (·.1)).reverse ++ [x]) rfl ?_
      walk_at "dl"
      refine k_d (fun hs => ?_) (fun hs => ?_)
      · walk_at "dl"
        refine ⟨isL_lt rfl, ?_⟩
        walk_at "dl"
        refine i_append rfl (lineLt (by rw [List.length_map]; omega)) ?_
        rw [show c.map natT ++ [T.int (k : Nat)] = (c ++ [k]).map natT by rw [List.map_append]; rfl, ← hsx ks]
        walk_at "dn"
        refine ⟨DF.mu ⟨(x, ks) :: F, l, c ++ [k]⟩, ?_, ⟨(x, ks) :: F, l, c ++ [k]⟩, looked ++ [k], n + 1, _, _, _, rfl, ?_, hC.look (by rw [List.length_append, List.length_singleton]; exact Nat.le_refl _), rfl⟩
        · show _ + (ks.length + 1 + muF F) < _ + (ks.length + 1 + 1 + muF F)
          dsimp only
          rw [List.length_cons, List.length_cons]
          omega
        · rw [hg]
          show (if _ then _ else _) = _
          rw [if_pos ((hmS _).mp hs)]
      · have hs' : ¬ (w.row k).e ∈ x :: F.map (·.1) := fun z => hs ((hmS _).mpr z)
        walk_at "dl"
        refine i_ninI (xs := l) rfl ?_
        walk_at "dl"
        refine k_n (fun hl => ?_) (fun hl => ?_)
        · walk_at "dl"
          refine ⟨isL_lt rfl, ?_⟩
          walk_at "dl"
          have hrl : ((F.map (·.1)).reverse ++ [x]).length = F.length + 1 := by simp
          refine i_append rfl (lineLt (by rw [List.length_map, hrl]; omega)) ?_
          have hsg : (((((w.row k).e, w.fromP p (w.row k).e) :: (x, ks) :: F).map (·.1)).reverse.map T.int) = ((F.map (·.1)).reverse ++ [x]).map T.int ++ [T.int (w.row k).e] := by
            rw [List.map_cons, List.reverse_cons, List.map_append, hsx]
            rfl
          rw [← hsg]
          walk_at "dn"
          have hC2 := (hC.look (c' := c) (by omega)).push (g := (w.row k).e) (fun z => by
            rcases List.mem_append.mp z with z | z
            · exact hs' z
            · exact hl z) ⟨by omega, by omega⟩
          have hp2 := hC2.plen
          have hfg := fromP_len w p (w.row k).e
          dsimp only at hp2
          rw [List.length_cons, List.length_cons] at hp2
          refine ⟨DF.mu ⟨((w.row k).e, w.fromP p (w.row k).e) :: (x, ks) :: F, l, c⟩, ?_, ⟨((w.row k).e, w.fromP p (w.row k).e) :: (x, ks) :: F, l, c⟩, looked ++ [k], n + 1, _, _, _, rfl, ?_, hC2, rfl⟩
          · show _ + ((w.fromP p (w.row k).e).length + 1 + (ks.length + 1 + muF F)) < _ + (ks.length + 1 + 1 + muF F)
            dsimp only
            rw [List.length_cons, List.length_cons, List.length_cons]
            omega
          · rw [hg]
            show (if _ then _ else _) = _
            rw [if_neg hs', if_neg hl]
        · walk_at "dl"
          rw [← hsx ks]
          refine ⟨DF.mu ⟨(x, ks) :: F, l, c⟩, ?_, ⟨(x, ks) :: F, l, c⟩, looked ++ [k], n + 1, _, _, _, rfl, ?_, hC.look (by omega), rfl⟩
          · show _ + (ks.length + 1 + muF F) < _ + (ks.length + 1 + 1 + muF F)
            dsimp only
            rw [List.length_cons, List.length_cons]
            omega
          · rw [hg]
            show (if _ then _ else _) = _
            rw [if_neg hs', if_pos hl]

end DL

namespace DL
open PySem PySem.Spec L2
local macro_rules | `(tactic| walk_at "dn") => `(tactic| simp only [purse_set2, purse_set3, purse_set4, purse_set5, purse_app, purse_len, purse_start, purse_l, G.set, G.put, G.push, G.wipe, wipeW, G.rs, rsW, List.set_cons_zero, List.set_cons_succ, List.map_cons, List.map_nil, List.length_cons, List.length_nil, List.nil_append, List.cons_append, List.replicate_succ, List.replicate_zero, Nat.reduceAdd, Nat.reduceSub, List.getD_cons_zero, List.getD_cons_succ, Option.getD_some, Option.getD_none])
local macro_rules | `(tactic| walk_at "d1") => `(tactic| first
  | with_reducible refine i_seq ?_
  | with_reducible refine i_asg ?_
  | with_reducible refine i_d2 ?_
  | ((with_reducible refine' i_var ?e ?_); (case e => rfl))
  | with_reducible refine i_c ?_
  | ((with_reducible refine' i_ix ?e ?v ?_); (case e => rfl); (case v => first | assumption | rfl))
  | with_reducible refine i_fI0 ?_
  | with_reducible refine i_gN ?_
  | with_reducible refine i_cons ?_
  | with_reducible refine i_nil ?_
  | with_reducible refine i_dN ?_
  | ((with_reducible refine' i_len ?e ?_); (case e => rfl))
  | with_reducible refine i_d1 ?_
  | with_reducible refine i_neg ?_
  | with_reducible refine i_B ?_
  | with_reducible refine o_B ?_
  | with_reducible refine o_I ?_
  | with_reducible refine i_ifS ?_
  | with_reducible refine i_or ?_
  | with_reducible refine i_and ?_
  | with_reducible refine i_not ?_
  | with_reducible refine i_andV ?_
  | with_reducible refine i_orV ?_
  | with_reducible refine i_notV ?_
  | with_reducible refine i_if ?_
  | with_reducible refine i_yes ?_
  | with_reducible refine k_T ?_
  | with_reducible refine k_F ?_
  | with_reducible refine k_True ?_
  | with_reducible refine k_False ?_
  | with_reducible refine i_eqI ?_
  | with_reducible refine i_neI ?_
  | with_reducible refine i_addI ?_
  | with_reducible refine i_addHI ?_
  | with_reducible refine i_callT ?_
  | with_reducible refine i_callH ?_
  | ((with_reducible refine' o_Ts ?e ?_); (case e => rfl))
  | with_reducible refine o_T ?_
  | ((with_reducible refine' o_TF ?e ?_); (case e => rfl))
  | with_reducible refine o_H ?_
  | ((with_reducible refine' o_HF ?e ?_); (case e => rfl))
  | with_reducible refine i_next ?_
  | with_reducible refine i_drop ?_
  | with_reducible refine i_ret ?_
  | with_reducible refine i_retN ?_
  | ((with_reducible refine' i_gTup ?e ?_); (case e => rfl))
  | with_reducible refine i_gCons ?_
  | with_reducible refine i_gNil ?_
  | with_reducible refine i_min2 ?_
  | with_reducible refine i_max2 ?_
  | with_reducible refine i_par ?_
  | with_reducible refine o_W2 ?_
  | ((with_reducible refine' i_aug ?e ?_); (case e => rfl))
  | with_reducible refine i_intI ?_
  | with_reducible refine i_intB ?_
  | with_reducible refine i_lc ?_
  | with_reducible refine i_for ?_
  | with_reducible refine i_while ?_
  | with_reducible refine i_itL ?_
  | ((with_reducible refine' o_Lq ?e ?_); (case e => rfl))
  | with_reducible refine i_itR1 ?_
  | with_reducible refine i_itR2 ?_
  | with_reducible refine o_I1 ?_
  | with_reducible refine o_I2 ?_
  | with_reducible refine e_t ?_
  | ((with_reducible refine' e_h ?e ?p ?_); (case e => rfl); (case p => rfl))
  | with_reducible refine i_M ?_
  | with_reducible refine i_M0 ?_
  | with_reducible refine i_gSub ?_
  | with_reducible refine i_finH ?_
  | with_reducible refine i_finT ?_
  | with_reducible refine i_sl ?_
  | with_reducible refine i_slH ?_
  | with_reducible refine i_slT ?_
  | with_reducible refine i_noPart ?_
  | with_reducible refine i_part ?_
  | ((with_reducible refine' i_frzT ?e ?_); (case e => rfl))
  | ((with_reducible refine' i_frzH ?e ?m ?t ?_); (case e => rfl); (case m => rfl); (case t => rfl))
  | ((with_reducible refine' i_din ?k ?e ?_); (case k => rfl); (case e => rfl))
  | ((with_reducible refine' i_dnotin ?k ?e ?_); (case k => rfl); (case e => rfl))
  | with_reducible refine i_dput ?_
  | with_reducible refine i_newD ?_
  | with_reducible refine i_lstH ?_
  | with_reducible refine i_lst ?_
  | with_reducible refine i_tup ?_
  | with_reducible refine i_break ?_
  | with_reducible refine i_cont ?_
  | with_reducible refine i_callS ?_
  | ((with_reducible refine' i_ixHW ?e ?v ?_); (case e => first | rfl | assumption); (case v => first | assumption | rfl))
  | ((with_reducible refine' i_ixHT ?e ?v ?_); (case e => first | rfl | assumption); (case v => first | assumption | rfl))
  | ((with_reducible refine' i_lenHT ?e ?_); (case e => first | rfl | assumption))
  | ((with_reducible refine' i_lenHW ?e ?_); (case e => first | rfl | assumption))
  | ((with_reducible refine' i_frzH ?e ?m ?t ?_); (case e => rfl); (case m => rfl); (case t => rfl))
  | ((with_reducible refine' i_unw ?e ?n ?_); (case e => rfl); (case n => rfl))
  | with_reducible refine i_gwCons ?_
  | with_reducible refine i_gwNil ?_
  | with_reducible refine i_lstW ?_
  | ((with_reducible refine' i_gList ?e ?n ?_); (case e => rfl); (case n => rfl))
  | with_reducible refine i_listRgH ?_
  | with_reducible refine i_listRg ?_
  | with_reducible refine i_R1 ?_
  | with_reducible refine i_getD ?_
  | ((with_reducible refine' i_none ?k ?_); (case k => rfl))
  | walk_at "dn")
local macro_rules | `(tactic| walk_at "dl") => `(tactic| ((try walk_at "dn"); repeat walk_at "d1"))
/-! what going through a part tells: cuts, and the order in which places are left -/
def frOk (w : Web) (p : Int) (left : List Int) (cut : List Nat) (all : List Int) : List Int → List (Int × List Nat) → Prop
  | _, [] => True
  | A, (x, ks) :: F => (∀ k ∈ w.fromP p x, k ∈ ks ∨ ((w.row k).e ∈ left ∨ (w.row k).e ∈ A) ∨ (k ∈ cut ∧ (w.row k).e ∈ all)) ∧ frOk w p left cut all (x :: A) F
theorem frOk.mono {w : Web} {p : Int} {left left' : List Int} {cut cut' : List Nat} {all all' : List Int} (hc : ∀ k ∈ cut, k ∈ cut') (ha : ∀ y ∈ all, y ∈ all') : ∀ {F : List (Int × List Nat)} {A A' : List Int}, (∀ y, (y ∈ left ∨ y ∈ A) → (y ∈ left' ∨ y ∈ A')) → frOk w p left cut all A F → frOk w p left' cut' all' A' F
  | [], _, _, _, _ => trivial
  | (x, ks) :: F, A, A', h, ⟨h1, h2⟩ => by
    refine ⟨fun k hk => ?_, frOk.mono hc ha (fun y hy => ?_) h2⟩
    · rcases h1 k hk with q | q | ⟨q1, q2⟩
      · exact .inl q
      · exact .inr (.inl (h _ q))
      · exact .inr (.inr ⟨hc k q1, ha _ q2⟩)
    · rcases hy with q | q
      · rcases h y (.inl q) with z | z
        · exact .inl z
        · exact .inr (List.mem_cons_of_mem _ z)
      · rcases List.mem_cons.mp q with z | z
        · exact .inr (by rw [z]; simp)
        · rcases h y (.inr z) with u | u
          · exact .inl u
          · exact .inr (List.mem_cons_of_mem _ u)
def DF.all (s : DF) : List Int := s.fr.map (·.1) ++ s.left
structure GI (w : Web) (p : Int) (s : DF) : Prop where
  nd : s.all.Nodup
  inr : ∀ y ∈ s.all, 0 ≤ y ∧ y < w.place p
  fr : frOk w p s.left s.cut s.all [] s.fr
  ks : ∀ f ∈ s.fr, f.2.Nodup ∧ ∀ k ∈ f.2, k ∈ w.fromP p f.1 ∧ k ∉ s.cut
  lf : ∀ a y b, s.left = a ++ y :: b → ∀ k ∈ w.fromP p y, (w.row k).e ∈ a ∨ (k ∈ s.cut ∧ (w.row k).e ∈ s.all)
  cin : ∀ k ∈ s.cut, k ∈ w.rowsOf p ∧ (w.row k).s ∈ s.all
  cnd : s.cut.Nodup
  bot : (∃ F ks, s.fr = F ++ [(0, ks)]) ∨ (s.fr = [] ∧ ∃ l, s.left = l ++ [0])
theorem GI.start {w : Web} {p : Int} (h2 : 2 ≤ w.place p) : GI w p (DF.init w p) := by
  refine ⟨by simp [DF.all, DF.init], fun y hy => ?_, ⟨fun k hk => .inl hk, trivial⟩, fun f hf => ?_, fun a y b e => by simp [DF.init] at e, fun k hk => by simp [DF.init] at hk, by simp [DF.init], .inl ⟨[], _, rfl⟩⟩
  · have : y = 0 := by simpa [DF.all, DF.init] using hy
    omega
  · have : f = (0, w.fromP p 0) := by simpa [DF.init] using hf
    subst this
    exact ⟨nd_fromP w p 0, fun k hk => ⟨hk, by simp [DF.init]⟩⟩
theorem GI.step {w : Web} {p : Int} {s : DF} (hok : ∀ r ∈ w.rows, w.rowOk r) (h : GI w p s) : GI w p (s.step w p) := by
  obtain ⟨fr, left, cut⟩ := s
  cases fr with
  | nil => exact h
  | cons f F =>
    obtain ⟨x, ks⟩ := f
    cases ks with
    | nil =>
      -- a place is left
      show GI w p ⟨F, left ++ [x], cut⟩
      have hmem : ∀ y, y ∈ (⟨(x, []) :: F, left, cut⟩ : DF).all ↔ y ∈ (⟨F, left ++ [x], cut⟩ : DF).all := fun y => by
        simp only [DF.all, List.map_cons, List.cons_append, List.mem_cons, List.mem_append, List.mem_singleton, List.not_mem_nil, or_false]
        constructor
        · rintro (z | z | z) <;> simp [z]
        · rintro (z | z | z) <;> simp [z]
      refine ⟨?_, fun y hy => h.inr y ((hmem y).mpr hy), ?_, fun f hf => h.ks f (List.mem_cons_of_mem _ hf), fun a y b e k hk => ?_, fun k hk => ⟨(h.cin k hk).1, (hmem _).mp (h.cin k hk).2⟩, h.cnd, ?_⟩
      · have e : (F.map (·.1) ++ (left ++ [x])).Perm (x :: F.map (·.1) ++ left) := by
          rw [← List.append_assoc]
          exact List.perm_append_comm.trans (by simp)
        exact e.nodup_iff.mpr h.nd
      · exact frOk.mono (fun _ z => z) (fun y hy => (hmem y).mp hy) (fun y hy => by
          rcases hy with z | z
          · exact .inl (by simp [z])
          · exact .inl (by simp at z; simp [z])) h.fr.2
      · rcases List.append_eq_append_iff.mp e with ⟨c, e1, e2⟩ | ⟨c, e1, e2⟩
        · -- a = left ++ c, [x] = c ++ y :: b
          cases c with
          | nil =>
            rw [List.nil_append] at e2
            have hy : y = x := by
              have := congrArg List.head? e2
              simpa using this.symm
            rw [List.append_nil] at e1
            subst hy e1
            rcases h.fr.1 k hk with q | q | ⟨q1, q2⟩
            · cases q
            · rcases q with q | q
              · exact .inl q
              · cases q
            · exact .inr ⟨q1, (hmem _).mp q2⟩
          | cons d c =>
            have := congrArg List.length e2
            simp at this
        · cases c with
          | nil =>
            rw [List.nil_append] at e2
            have hy : y = x := by
              have := congrArg List.head? e2
              simpa using this
            rw [List.append_nil] at e1
            subst hy e1
            rcases h.fr.1 k hk with q | q | ⟨q1, q2⟩
            · cases q
            · rcases q with q | q
              · exact .inl q
              · cases q
            · exact .inr ⟨q1, (hmem _).mp q2⟩
          | cons d c =>
            have e3 : y = d ∧ b = c ++ [x] := by simpa using e2
            rcases h.lf a y c (by rw [e1, e3.1]) k hk with q | ⟨q1, q2⟩
            · exact .inl q
            · exact .inr ⟨q1, (hmem _).mp q2⟩
      · rcases h.bot with ⟨G, ks, e⟩ | ⟨e, _⟩
        · cases G with
          | nil =>
            have e2 : x = 0 ∧ F = [] := by
              have e3 : (x, ([] : List Nat)) :: F = (0, ks) :: [] := e
              obtain ⟨a, b⟩ := List.cons.inj e3
              exact ⟨congrArg Prod.fst a, b⟩
            exact .inr ⟨e2.2, left, by rw [e2.1]⟩
          | cons g G =>
            have e3 : (x, ([] : List Nat)) :: F = g :: (G ++ [(0, ks)]) := e
            exact .inl ⟨G, ks, (List.cons.inj e3).2⟩
        · cases e
    | cons k ks =>
      have hks := h.ks (x, k :: ks) (by simp)
      have hkn := List.nodup_cons.mp hks.1
      have hkf := hks.2 k (by simp)
      obtain ⟨k1, k2, k3⟩ := mem_fromP.mp hkf.1
      have hro := hok _ (row_mem k1)
      unfold Web.rowOk at hro
      rw [k2] at hro
      have hbot : ∃ (G : List (Int × List Nat)) (gs : List Nat), ((x, ks) :: F) = G ++ [(0, gs)] := by
        rcases h.bot with ⟨G, gs, e⟩ | ⟨e, _⟩
        · cases G with
          | nil =>
            have e3 : (x, k :: ks) :: F = (0, gs) :: [] := e
            obtain ⟨a, b⟩ := List.cons.inj e3
            have hx0 : x = 0 := congrArg Prod.fst a
            exact ⟨[], ks, by rw [b, hx0]; rfl⟩
          | cons g G =>
            have e3 : (x, k :: ks) :: F = g :: (G ++ [(0, gs)]) := e
            exact ⟨(x, ks) :: G, gs, by rw [(List.cons.inj e3).2]; rfl⟩
        · cases e
      unfold DF.step
      dsimp only
      split
      · -- a cut
        rename_i hin
        have hall : (⟨(x, ks) :: F, left, cut ++ [k]⟩ : DF).all = (⟨(x, k :: ks) :: F, left, cut⟩ : DF).all := rfl
        have hea : (w.row k).e ∈ (⟨(x, ks) :: F, left, cut ++ [k]⟩ : DF).all := by
          unfold DF.all
          exact List.mem_append_left _ hin
        refine ⟨h.nd, h.inr, ⟨fun j hj => ?_, frOk.mono (fun j hj => by simp [hj]) (fun _ z => z) (fun _ z => z) h.fr.2⟩, fun f hf => ?_, fun a y b e j hj => ?_, fun j hj => ?_, ?_, ?_⟩
        · rcases h.fr.1 j hj with q | q | ⟨q1, q2⟩
          · rcases List.mem_cons.mp q with z | z
            · subst z
              exact .inr (.inr ⟨by simp, hea⟩)
            · exact .inl z
          · exact .inr (.inl q)
          · exact .inr (.inr ⟨by simp [q1], q2⟩)
        · rcases List.mem_cons.mp hf with z | z
          · subst z
            exact ⟨hkn.2, fun j hj => ⟨(hks.2 j (by simp [hj])).1, fun y => by
              rcases List.mem_append.mp y with u | u
              · exact (hks.2 j (by simp [hj])).2 u
              · exact hkn.1 (by rw [← List.mem_singleton.mp u]; exact hj)⟩⟩
          · have hf2 := h.ks f (List.mem_cons_of_mem _ z)
            refine ⟨hf2.1, fun j hj => ⟨(hf2.2 j hj).1, fun y => ?_⟩⟩
            rcases List.mem_append.mp y with u | u
            · exact (hf2.2 j hj).2 u
            · have hjk := List.mem_singleton.mp u
              subst hjk
              have hfx : f.1 = x := by
                obtain ⟨_, _, a⟩ := mem_fromP.mp (hf2.2 j hj).1
                rw [← a, k3]
              have hnd := h.nd
              have : x ∉ F.map (·.1) ++ left := (List.nodup_cons.mp hnd).1
              exact this (List.mem_append_left _ (hfx ▸ List.mem_map.mpr ⟨f, z, rfl⟩))
        · rcases h.lf a y b e j hj with q | ⟨q1, q2⟩
          · exact .inl q
          · exact .inr ⟨by simp [q1], q2⟩
        · rcases List.mem_append.mp hj with u | u
          · exact h.cin j u
          · rw [List.mem_singleton.mp u]
            exact ⟨mem_rowsOf.mpr ⟨k1, k2⟩, by rw [k3]; simp [DF.all]⟩
        · rw [List.nodup_append]
          exact ⟨h.cnd, by simp, fun a ha b hb => by rw [List.mem_singleton.mp hb]; exact fun z => hkf.2 (z ▸ ha)⟩
        · exact .inl hbot
      · rename_i hnin
        split
        · -- only looked at
          rename_i hl
          refine ⟨h.nd, h.inr, ⟨fun j hj => ?_, h.fr.2⟩, fun f hf => ?_, h.lf, h.cin, h.cnd, ?_⟩
          · rcases h.fr.1 j hj with q | q | q
            · rcases List.mem_cons.mp q with z | z
              · subst z
                exact .inr (.inl (.inl hl))
              · exact .inl z
            · exact .inr (.inl q)
            · exact .inr (.inr q)
          · rcases List.mem_cons.mp hf with z | z
            · subst z
              exact ⟨hkn.2, fun j hj => hks.2 j (by simp [hj])⟩
            · exact h.ks f (List.mem_cons_of_mem _ z)
          · exact .inl hbot
        · -- on to a new place
          rename_i hl
          have hall : ∀ y, y ∈ (⟨(x, k :: ks) :: F, left, cut⟩ : DF).all → y ∈ (⟨((w.row k).e, w.fromP p (w.row k).e) :: (x, ks) :: F, left, cut⟩ : DF).all := fun y hy => List.mem_cons_of_mem _ hy
          have hne : (w.row k).e ∉ (⟨(x, k :: ks) :: F, left, cut⟩ : DF).all := fun z => by
            rcases List.mem_append.mp z with u | u
            · exact hnin u
            · exact hl u
          refine ⟨List.nodup_cons.mpr ⟨hne, h.nd⟩, fun y hy => ?_, ⟨fun j hj => .inl hj, fun j hj => ?_, ?_⟩, fun f hf => ?_, fun a y b e j hj => ?_, fun j hj => ⟨(h.cin j hj).1, hall _ (h.cin j hj).2⟩, h.cnd, ?_⟩
          · rcases List.mem_cons.mp hy with z | z
            · rw [z]
              exact ⟨show 0 ≤ (w.row k).e by omega, show (w.row k).e < w.place p by omega⟩
            · exact h.inr y z
          · rcases h.fr.1 j hj with q | q | ⟨q1, q2⟩
            · rcases List.mem_cons.mp q with z | z
              · subst z
                exact .inr (.inl (.inr (by simp)))
              · exact .inl z
            · rcases q with q | q
              · exact .inr (.inl (.inl q))
              · cases q
            · exact .inr (.inr ⟨q1, hall _ q2⟩)
          · exact frOk.mono (fun _ z => z) hall (fun y hy => by
              rcases hy with z | z
              · exact .inl z
              · exact .inr (by simp at z; simp [z])) h.fr.2
          · rcases List.mem_cons.mp hf with z | z
            · subst z
              refine ⟨nd_fromP w p _, fun j hj => ⟨hj, fun y => hne ?_⟩⟩
              have := (h.cin j y).2
              rw [(mem_fromP.mp hj).2.2] at this
              exact this
            · rcases List.mem_cons.mp z with u | u
              · subst u
                exact ⟨hkn.2, fun j hj => hks.2 j (by simp [hj])⟩
              · exact h.ks f (List.mem_cons_of_mem _ u)
          · rcases h.lf a y b e j hj with q | ⟨q1, q2⟩
            · exact .inl q
            · exact .inr ⟨q1, hall _ q2⟩
          · obtain ⟨G, gs, z⟩ := hbot
            exact .inl ⟨((w.row k).e, w.fromP p (w.row k).e) :: G, gs, by rw [z]; rfl⟩
theorem GI.go {w : Web} {p : Int} (hok : ∀ r ∈ w.rows, w.rowOk r) : ∀ (n : Nat) {s : DF}, GI w p s → GI w p (DF.go w p n s)
  | 0, _, h => h
  | n + 1, s, h => GI.go hok n (h.step hok)
/-- at the end -/
structure Gone (w : Web) (p : Int) (l : List Int) (c : List Nat) : Prop where
  nd : l.Nodup
  inr : ∀ y ∈ l, 0 ≤ y ∧ y < w.place p
  all : ∀ x, 0 ≤ x → x < w.place p → x ∈ l
  lst : ∃ l', l = l' ++ [0]
  bef : ∀ k ∈ w.rowsOf p, k ∉ c → ∃ a b, l = a ++ (w.row k).s :: b ∧ (w.row k).e ∈ a
  cin : ∀ k ∈ c, k ∈ w.rowsOf p
  cnd : c.Nodup
theorem gone_of {w : Web} {p : Nat} (hok : w.Ok) (hp : p < w.places.length) {l : List Int} {c : List Nat} (h : DF.ends w p (DF.init w p) l c) : Gone w p l c := by
  have hpm := hok.2.1 _ (place_mem hp)
  obtain ⟨n, hn⟩ := h
  have g := GI.go hok.2.2.1 n (GI.start (w := w) (p := (p : Int)) (by omega))
  rw [hn] at g
  obtain ⟨l', hl'⟩ : ∃ l', l = l' ++ [0] := by
    rcases g.bot with ⟨F, ks, e⟩ | ⟨_, l', e⟩
    · simp at e
    · exact ⟨l', e⟩
  have hall : (⟨[], l, c⟩ : DF).all = l := rfl
  have reach : ∀ {x : Int}, Reach (w.edges p false) 0 x → x ∈ l := fun h => by
    induction h with
    | refl => rw [hl']; simp
    | step _ hm ih =>
      obtain ⟨k, hk, e⟩ := List.mem_map.mp hm
      obtain ⟨k1, k2⟩ := mem_rowsOf.mp hk
      unfold Web.edge at e
      rw [if_neg (by decide)] at e
      obtain ⟨e1, e2⟩ := Prod.mk.inj e
      obtain ⟨a, b, eab⟩ := List.append_of_mem ih
      rcases g.lf a _ b eab k (mem_fromP.mpr ⟨k1, k2, e1⟩) with q | ⟨_, q⟩
      · rw [e2] at q
        rw [eab]
        exact List.mem_append_left _ q
      · rw [e2] at q
        exact q
  refine ⟨g.nd, g.inr, fun x a b => reach ((hok.2.2.2 p hp).1 x a b).1, ⟨l', hl'⟩, fun k hk hc => ?_, fun k hk => (g.cin k hk).1, g.cnd⟩
  obtain ⟨k1, k2⟩ := mem_rowsOf.mp hk
  have hro := hok.2.2.1 _ (row_mem k1)
  unfold Web.rowOk at hro
  rw [k2] at hro
  obtain ⟨a, b, eab⟩ := List.append_of_mem (reach ((hok.2.2.2 p hp).1 (w.row k).s (by omega) (by omega)).1)
  rcases g.lf a _ b eab k (mem_fromP.mpr ⟨k1, k2, rfl⟩) with q | ⟨q, _⟩
  · exact ⟨a, b, eab, q⟩
  · exact absurd q hc
/-! the stretch web -/
def rowA (r : Row) : Row := ⟨0, r.s, r.e, -1⟩
def plainK (w : Web) (p : Int) (c : List Nat) : List Nat := (w.rowsOf p).filter fun k => !decide (k ∈ c)
def cutR (w : Web) (k : Nat) : List Row := (if (w.row k).e ≠ 0 then [⟨0, 0, (w.row k).e, -1⟩] else []) ++ [⟨0, (w.row k).s, 1, -1⟩]
def apartR (w : Web) (p : Int) (c : List Nat) : List Row := (plainK w p c).map (fun k => rowA (w.row k)) ++ c.flatMap (cutR w)
def Web.stretch (w : Web) (p : Int) (c : List Nat) : Web := ⟨[w.place p], apartR w p c⟩
theorem mem_plain {w : Web} {p : Int} {c : List Nat} {k : Nat} : k ∈ plainK w p c ↔ k ∈ w.rowsOf p ∧ k ∉ c := by
  unfold plainK
  rw [List.mem_filter]
  simp
theorem mem_cutR {w : Web} {k : Nat} {r : Row} : r ∈ cutR w k ↔ ((w.row k).e ≠ 0 ∧ r = ⟨0, 0, (w.row k).e, -1⟩) ∨ r = ⟨0, (w.row k).s, 1, -1⟩ := by
  unfold cutR
  rw [List.mem_append, List.mem_singleton]
  by_cases h : (w.row k).e ≠ 0
  · rw [if_pos h, List.mem_singleton]
    simp [h]
  · rw [if_neg h]
    simp [h]
theorem cutR_len (w : Web) (k : Nat) : (cutR w k).length ≤ 2 := by
  unfold cutR
  split <;> simp
theorem mem_apart {w : Web} {p : Int} {c : List Nat} {r : Row} : r ∈ apartR w p c ↔ (∃ k ∈ w.rowsOf p, k ∉ c ∧ r = rowA (w.row k)) ∨ ∃ k ∈ c, ((w.row k).e ≠ 0 ∧ r = ⟨0, 0, (w.row k).e, -1⟩) ∨ r = ⟨0, (w.row k).s, 1, -1⟩ := by
  unfold apartR
  rw [List.mem_append, List.mem_map, List.mem_flatMap]
  constructor
  · rintro (⟨k, hk, rfl⟩ | ⟨k, hk, hr⟩)
    · obtain ⟨a, b⟩ := mem_plain.mp hk
      exact .inl ⟨k, a, b, rfl⟩
    · exact .inr ⟨k, hk, mem_cutR.mp hr⟩
  · rintro (⟨k, a, b, rfl⟩ | ⟨k, hk, hr⟩)
    · exact .inl ⟨k, mem_plain.mpr ⟨a, b⟩, rfl⟩
    · exact .inr ⟨k, hk, mem_cutR.mpr hr⟩
theorem flat_len {α β : Type} (f : α → List β) (n : Nat) (h : ∀ a, (f a).length ≤ n) : ∀ l : List α, (l.flatMap f).length ≤ n * l.length
  | [] => by simp
  | a :: l => by
    rw [List.flatMap_cons, List.length_append, List.length_cons, Nat.mul_add]
    have := flat_len f n h l
    have := h a
    omega
theorem filter_two {α : Type} (q : α → Bool) : ∀ l : List α, (l.filter q).length + (l.filter fun x => !q x).length = l.length
  | [] => rfl
  | a :: l => by
    have := filter_two q l
    rw [List.filter_cons, List.filter_cons, List.length_cons]
    cases q a <;> simp <;> omega
theorem idx_out {a b : List Int} {x : Int} (h : x ∉ a) : (a ++ b).idxOf x = a.length + b.idxOf x := by
  rw [List.idxOf_append, if_neg h]
  omega
theorem idx_in {a b : List Int} {x : Int} (h : x ∈ a) : (a ++ b).idxOf x = a.idxOf x := by
  rw [List.idxOf_append, if_pos h]
theorem apart_len {w : Web} {p : Int} {l : List Int} {c : List Nat} (g : Gone w p l c) : (apartR w p c).length ≤ 2 * w.rows.length ∧ (w.rowsOf p).length ≤ (apartR w p c).length := by
  have h1 : (plainK w p c).length + c.length = (w.rowsOf p).length := by
    have hn : (w.rowsOf p).Nodup := by
      unfold Web.rowsOf
      exact List.nodup_range.filter _
    have hp : ((w.rowsOf p).filter fun k => decide (k ∈ c)).Perm c := by
      refine (List.perm_ext_iff_of_nodup (hn.filter _) g.cnd).mpr fun k => ?_
      rw [List.mem_filter, decide_eq_true_eq]
      exact ⟨fun z => z.2, fun z => ⟨g.cin k z, z⟩⟩
    have h2 := filter_two (fun k => decide (k ∈ c)) (w.rowsOf p)
    have h3 := hp.length_eq
    unfold plainK
    omega
  have h2 := flat_len (cutR w) 2 (cutR_len w) c
  have h3 := rowsOf_len w p
  have h4 : c.length ≤ (c.flatMap (cutR w)).length := by
    clear h1 h2 g
    induction c with
    | nil => simp
    | cons a l ih =>
      rw [List.flatMap_cons, List.length_append, List.length_cons]
      have : 1 ≤ (cutR w a).length := by
        unfold cutR
        rw [List.length_append, List.length_singleton]
        omega
      omega
  unfold apartR
  rw [List.length_append, List.length_map]
  omega
theorem edge_of {w : Web} {p : Int} {c : List Nat} {r : Row} (hr : r ∈ apartR w p c) (tn : Bool) : (if tn = true then (r.e, r.s) else (r.s, r.e)) ∈ (w.stretch p c).edges 0 tn := by
  obtain ⟨i, hi, e⟩ := List.getElem_of_mem hr
  have hrow : (w.stretch p c).row i = r := by
    unfold Web.row
    show (apartR w p c).getD i row0 = r
    rw [List.getD_eq_getElem?_getD, List.getElem?_eq_getElem hi, e]
    rfl
  have hp : r.p = 0 := by
    rcases mem_apart.mp hr with ⟨k, _, _, rfl⟩ | ⟨k, _, ⟨_, rfl⟩ | rfl⟩ <;> rfl
  refine List.mem_map.mpr ⟨i, mem_rowsOf.mpr ⟨hi, by rw [hrow]; exact hp⟩, ?_⟩
  unfold Web.edge
  rw [hrow]
theorem stretch_ok {w : Web} {p : Nat} {l : List Int} {c : List Nat} (hok : w.Ok) (hp : p < w.places.length) (hl : w.rows.length ≤ 30) (g : Gone w p l c) : (w.stretch p c).Ok := by
  have hpm := hok.2.1 _ (place_mem hp)
  have hal := apart_len g
  have h0 : 0 < (w.rowsOf p).length := by
    have h := ((hok.2.2.2 p hp).1 0 (by omega) (by omega)).2
    cases h with
    | step ha hm =>
      unfold Web.edges at hm
      obtain ⟨k, hk, _⟩ := List.mem_map.mp hm
      exact List.length_pos_of_mem hk
  have rok : ∀ k ∈ w.rowsOf p, 0 ≤ (w.row k).s ∧ 0 ≤ (w.row k).e ∧ (w.row k).s < w.place p ∧ (w.row k).e < w.place p ∧ (w.row k).s ≠ 1 := fun k hk => by
    obtain ⟨k1, k2⟩ := mem_rowsOf.mp hk
    have hro := hok.2.2.1 _ (row_mem k1)
    unfold Web.rowOk at hro
    rw [k2] at hro
    exact ⟨by omega, by omega, by omega, by omega, by omega⟩
  refine ⟨⟨by show 1 ≤ 1; omega, by show 1 ≤ 4; omega, by show 1 ≤ (apartR w p c).length; omega, by show (apartR w p c).length ≤ 60; omega⟩, fun x hx => ?_, fun r hr => ?_, fun q hq => ?_⟩
  · have : x = w.place p := by
      have hx' : x ∈ [w.place p] := hx
      simpa using hx'
    rw [this]
    exact hpm
  · rcases mem_apart.mp hr with ⟨k, hk, _, rfl⟩ | ⟨k, hk, ⟨_, rfl⟩ | rfl⟩
    · have := rok k hk
      show (0 : Int) ≤ 0 ∧ (0 : Int) < ((1 : Nat) : Int) ∧ 0 ≤ (w.row k).s ∧ 0 ≤ (w.row k).e ∧ (w.row k).s < w.place p ∧ (w.row k).e < w.place p ∧ (w.row k).s ≠ 1 ∧ (-1 : Int) < ((1 : Nat) : Int) ∧ ((-1 : Int) = -1 ∨ (0 : Int) < -1)
      refine ⟨by decide, by decide, by omega, by omega, by omega, by omega, by omega, by decide, .inl rfl⟩
    · have := rok k (g.cin k hk)
      show (0 : Int) ≤ 0 ∧ (0 : Int) < ((1 : Nat) : Int) ∧ (0 : Int) ≤ 0 ∧ 0 ≤ (w.row k).e ∧ (0 : Int) < w.place p ∧ (w.row k).e < w.place p ∧ (0 : Int) ≠ 1 ∧ (-1 : Int) < ((1 : Nat) : Int) ∧ ((-1 : Int) = -1 ∨ (0 : Int) < -1)
      refine ⟨by decide, by decide, by decide, by omega, by omega, by omega, by decide, by decide, .inl rfl⟩
    · have := rok k (g.cin k hk)
      show (0 : Int) ≤ 0 ∧ (0 : Int) < ((1 : Nat) : Int) ∧ 0 ≤ (w.row k).s ∧ (0 : Int) ≤ 1 ∧ (w.row k).s < w.place p ∧ (1 : Int) < w.place p ∧ (w.row k).s ≠ 1 ∧ (-1 : Int) < ((1 : Nat) : Int) ∧ ((-1 : Int) = -1 ∨ (0 : Int) < -1)
      refine ⟨by decide, by decide, by omega, by decide, by omega, by omega, by omega, by decide, .inl rfl⟩
  · have hq0 : q = 0 := by
      have : q < 1 := hq
      omega
    subst hq0
    have fwd : ∀ {x : Int}, Reach (w.edges p false) 0 x → Reach ((w.stretch p c).edges 0 false) 0 x := fun h => by
      induction h with
      | refl => exact .refl
      | step _ hm ih =>
        obtain ⟨k, hk, e⟩ := List.mem_map.mp hm
        unfold Web.edge at e
        rw [if_neg (by decide)] at e
        obtain ⟨e1, e2⟩ := Prod.mk.inj e
        by_cases hc : k ∈ c
        · by_cases he : (w.row k).e = 0
          · rw [← e2, he]
            exact .refl
          · have := edge_of (tn := false) (mem_apart.mpr (.inr ⟨k, hc, .inl ⟨he, rfl⟩⟩) : (⟨0, 0, (w.row k).e, -1⟩ : Row) ∈ apartR w p c)
            rw [← e2]
            exact .step .refl this
        · have := edge_of (tn := false) (mem_apart.mpr (.inl ⟨k, hk, hc, rfl⟩) : rowA (w.row k) ∈ apartR w p c)
          rw [← e2]
          refine .step ih ?_
          rw [← e1]
          exact this
    have bwd : ∀ {x : Int}, Reach (w.edges p true) 1 x → Reach ((w.stretch p c).edges 0 true) 1 x := fun h => by
      induction h with
      | refl => exact .refl
      | step _ hm ih =>
        obtain ⟨k, hk, e⟩ := List.mem_map.mp hm
        unfold Web.edge at e
        rw [if_pos rfl] at e
        obtain ⟨e1, e2⟩ := Prod.mk.inj e
        by_cases hc : k ∈ c
        · have := edge_of (tn := true) (mem_apart.mpr (.inr ⟨k, hc, .inr rfl⟩) : (⟨0, (w.row k).s, 1, -1⟩ : Row) ∈ apartR w p c)
          rw [← e2]
          exact .step .refl this
        · have := edge_of (tn := true) (mem_apart.mpr (.inl ⟨k, hk, hc, rfl⟩) : rowA (w.row k) ∈ apartR w p c)
          rw [← e2]
          refine .step ih ?_
          rw [← e1]
          exact this
    exact ⟨fun x a b => ⟨fwd ((hok.2.2.2 p hp).1 x a b).1, bwd ((hok.2.2.2 p hp).1 x a b).2⟩, fun z => absurd z (by decide)⟩
theorem stretch_loose {w : Web} {p : Nat} {l : List Int} {c : List Nat} (hok : w.Ok) (hp : p < w.places.length) (g : Gone w p l c) : (w.stretch p c).Loose 0 := by
  have hpm := hok.2.1 _ (place_mem hp)
  obtain ⟨l', hl'⟩ := g.lst
  have hlen : l.length = l'.length + 1 := by rw [hl', List.length_append, List.length_singleton]
  have idx0 : l.idxOf 0 = l'.length := by
    have hn := g.nd
    rw [hl'] at hn ⊢
    have h0 : (0 : Int) ∉ l' := fun z => by
      have := (List.nodup_append.mp hn).2.2 0 z 0 (by simp)
      exact this rfl
    rw [idx_out h0]
    simp
  have idxlt : ∀ x ∈ l, l.idxOf x < l.length := fun x hx => List.idxOf_lt_length_of_mem hx
  have idxne : ∀ x ∈ l, x ≠ 0 → l.idxOf x < l'.length := fun x hx h0 => by
    rcases Nat.lt_or_ge (l.idxOf x) l'.length with z | z
    · exact z
    · have h1 := idxlt x hx
      have h2 : l.idxOf x = l.idxOf 0 := by omega
      have h3 : l[l.idxOf x]'h1 = x := List.getElem_idxOf h1
      have h4 : l[l.idxOf 0]'(by omega) = 0 := List.getElem_idxOf (by omega)
      exact absurd (by rw [← h3, ← h4]; congr 1) h0
  refine ⟨fun x => if x = 1 then l.length + 1 else l.length - l.idxOf x, fun r hr _ => ?_⟩
  rcases mem_apart.mp hr with ⟨k, hk, hkc, rfl⟩ | ⟨k, hk, ⟨he, rfl⟩ | rfl⟩
  · obtain ⟨k1, k2⟩ := mem_rowsOf.mp hk
    have hro := hok.2.2.1 _ (row_mem k1)
    unfold Web.rowOk at hro
    rw [k2] at hro
    show (if (w.row k).s = 1 then l.length + 1 else l.length - l.idxOf (w.row k).s) < (if (w.row k).e = 1 then l.length + 1 else l.length - l.idxOf (w.row k).e)
    rw [if_neg (by omega)]
    split
    · omega
    · obtain ⟨a, b, eab, hea⟩ := g.bef k hk hkc
      have hs : (w.row k).s ∉ a := fun z => by
        have hn := g.nd
        rw [eab] at hn
        exact (List.nodup_append.mp hn).2.2 _ z _ (by simp) rfl
      have i1 : l.idxOf (w.row k).s = a.length := by rw [eab, idx_out hs]; simp
      have i2 : l.idxOf (w.row k).e < a.length := by
        rw [eab, idx_in hea]
        exact List.idxOf_lt_length_of_mem hea
      have i3 : a.length < l.length := by rw [eab]; simp
      omega
  · have hkm := g.cin k hk
    obtain ⟨k1, k2⟩ := mem_rowsOf.mp hkm
    have hro := hok.2.2.1 _ (row_mem k1)
    unfold Web.rowOk at hro
    rw [k2] at hro
    show (if (0 : Int) = 1 then l.length + 1 else l.length - l.idxOf 0) < (if (w.row k).e = 1 then l.length + 1 else l.length - l.idxOf (w.row k).e)
    rw [if_neg (by decide)]
    split
    · omega
    · have := idxne (w.row k).e (g.all _ (by omega) (by omega)) he
      omega
  · have hkm := g.cin k hk
    obtain ⟨k1, k2⟩ := mem_rowsOf.mp hkm
    have hro := hok.2.2.1 _ (row_mem k1)
    unfold Web.rowOk at hro
    rw [k2] at hro
    show (if (w.row k).s = 1 then l.length + 1 else l.length - l.idxOf (w.row k).s) < (if (1 : Int) = 1 then l.length + 1 else _)
    rw [if_neg (by omega), if_pos rfl]
    omega
/-! a loose part has no cuts -/
theorem loose_step {w : Web} {p : Int} {f : Int → Nat} (hf : ∀ r ∈ w.rows, r.p = p → f r.s < f r.e) {s : DF} (hk : ∀ q ∈ s.fr, ∀ k ∈ q.2, k ∈ w.fromP p q.1) (hp : (s.fr.map (·.1)).Pairwise (fun a b => f b < f a)) (hc : s.cut = []) :
    (∀ q ∈ (s.step w p).fr, ∀ k ∈ q.2, k ∈ w.fromP p q.1) ∧ ((s.step w p).fr.map (·.1)).Pairwise (fun a b => f b < f a) ∧ (s.step w p).cut = [] := by
  obtain ⟨fr, left, cut⟩ := s
  cases fr with
  | nil => exact ⟨hk, hp, hc⟩
  | cons q F =>
    obtain ⟨x, ks⟩ := q
    cases ks with
    | nil => exact ⟨fun q hq => hk q (List.mem_cons_of_mem _ hq), (List.pairwise_cons.mp hp).2, hc⟩
    | cons k ks =>
      have hkx := hk (x, k :: ks) (by simp) k (by simp)
      obtain ⟨k1, k2, k3⟩ := mem_fromP.mp hkx
      have hlt := hf _ (row_mem k1) k2
      rw [k3] at hlt
      have hrest : ∀ q ∈ (x, ks) :: F, ∀ j ∈ q.2, j ∈ w.fromP p q.1 := fun q hq j hj => by
        rcases List.mem_cons.mp hq with z | z
        · subst z
          exact hk (x, k :: ks) (by simp) j (by simp; exact .inr hj)
        · exact hk q (List.mem_cons_of_mem _ z) j hj
      have habove : ∀ y ∈ x :: F.map (·.1), f y < f (w.row k).e := fun y hy => by
        rcases List.mem_cons.mp hy with z | z
        · rw [z]; exact hlt
        · exact Nat.lt_trans ((List.pairwise_cons.mp hp).1 y z) hlt
      unfold DF.step
      dsimp only
      split
      · rename_i hin
        exact absurd (habove _ hin) (Nat.lt_irrefl _)
      · split
        · exact ⟨hrest, hp, hc⟩
        · refine ⟨fun q hq j hj => ?_, List.pairwise_cons.mpr ⟨habove, hp⟩, hc⟩
          rcases List.mem_cons.mp hq with z | z
          · subst z
            exact hj
          · exact hrest q z j hj
theorem loose_cuts {w : Web} {p : Int} (hlo : w.Loose p) {l : List Int} {c : List Nat} (h : DF.ends w p (DF.init w p) l c) : c = [] := by
  obtain ⟨f, hf⟩ := hlo
  obtain ⟨n, hn⟩ := h
  have go : ∀ (n : Nat) (s : DF), (∀ q ∈ s.fr, ∀ k ∈ q.2, k ∈ w.fromP p q.1) → (s.fr.map (·.1)).Pairwise (fun a b => f b < f a) → s.cut = [] → (DF.go w p n s).cut = [] := by
    intro n
    induction n with
    | zero => exact fun s _ _ h => h
    | succ n ih =>
      intro s a b d
      obtain ⟨a', b', d'⟩ := loose_step hf a b d
      exact ih _ a' b' d'
  have := go n (DF.init w p) (fun q hq k hk => by
    have : q = (0, w.fromP p 0) := by simpa [DF.init] using hq
    subst this
    exact hk) (by simp [DF.init]) rfl
  rw [hn] at this
  exact this

end DL

namespace DL
open PySem PySem.Spec L2
local macro_rules | `(tactic| walk_at "dn") => `(tactic| simp only [purse_set2, purse_set3, purse_set4, purse_set5, purse_app, purse_len, purse_start, purse_l, G.set, G.put, G.push, G.wipe, wipeW, G.rs, rsW, List.set_cons_zero, List.set_cons_succ, List.map_cons, List.map_nil, List.length_cons, List.length_nil, List.nil_append, List.cons_append, List.replicate_succ, List.replicate_zero, Nat.reduceAdd, Nat.reduceSub, List.getD_cons_zero, List.getD_cons_succ, Option.getD_some, Option.getD_none])
local macro_rules | `(tactic| walk_at "d1") => `(tactic| first
  | with_reducible refine i_seq ?_
  | with_reducible refine i_asg ?_
  | with_reducible refine i_d2 ?_
  | ((with_reducible refine' i_var ?e ?_); (case e => rfl))
  | with_reducible refine i_c ?_
  | ((with_reducible refine' i_ix ?e ?v ?_); (case e => rfl); (case v => first | assumption | rfl))
  | with_reducible refine i_fI0 ?_
  | with_reducible refine i_gN ?_
  | with_reducible refine i_cons ?_
  | with_reducible refine i_nil ?_
  | with_reducible refine i_dN ?_
  | ((with_reducible refine' i_len ?e ?_); (case e => rfl))
  | with_reducible refine i_d1 ?_
  | with_reducible refine i_neg ?_
  | with_reducible refine i_B ?_
  | with_reducible refine o_B ?_
  | with_reducible refine o_I ?_
  | with_reducible refine i_ifS ?_
  | with_reducible refine i_or ?_
  | with_reducible refine i_and ?_
  | with_reducible refine i_not ?_
  | with_reducible refine i_andV ?_
  | with_reducible refine i_orV ?_
  | with_reducible refine i_notV ?_
  | with_reducible refine i_if ?_
  | with_reducible refine i_yes ?_
  | with_reducible refine k_T ?_
  | with_reducible refine k_F ?_
  | with_reducible refine k_True ?_
  | with_reducible refine k_False ?_
  | with_reducible refine i_eqI ?_
  | with_reducible refine i_neI ?_
  | with_reducible refine i_addI ?_
  | with_reducible refine i_addHI ?_
  | with_reducible refine i_callT ?_
  | with_reducible refine i_callH ?_
  | ((with_reducible refine' o_Ts ?e ?_); (case e => rfl))
  | with_reducible refine o_T ?_
  | ((with_reducible refine' o_TF ?e ?_); (case e => rfl))
  | with_reducible refine o_H ?_
  | ((with_reducible refine' o_HF ?e ?_); (case e => rfl))
  | with_reducible refine i_next ?_
  | with_reducible refine i_drop ?_
  | with_reducible refine i_ret ?_
  | with_reducible refine i_retN ?_
  | ((with_reducible refine' i_gTup ?e ?_); (case e => rfl))
  | with_reducible refine i_gCons ?_
  | with_reducible refine i_gNil ?_
  | with_reducible refine i_min2 ?_
  | with_reducible refine i_max2 ?_
  | with_reducible refine i_par ?_
  | with_reducible refine o_W2 ?_
  | ((with_reducible refine' i_aug ?e ?_); (case e => rfl))
  | with_reducible refine i_intI ?_
  | with_reducible refine i_intB ?_
  | with_reducible refine i_lc ?_
  | with_reducible refine i_for ?_
  | with_reducible refine i_while ?_
  | with_reducible refine i_itL ?_
  | ((with_reducible refine' o_Lq ?e ?_); (case e => rfl))
  | with_reducible refine i_itR1 ?_
  | with_reducible refine i_itR2 ?_
  | with_reducible refine o_I1 ?_
  | with_reducible refine o_I2 ?_
  | with_reducible refine e_t ?_
  | ((with_reducible refine' e_h ?e ?p ?_); (case e => rfl); (case p => rfl))
  | with_reducible refine i_M ?_
  | with_reducible refine i_M0 ?_
  | with_reducible refine i_gSub ?_
  | with_reducible refine i_finH ?_
  | with_reducible refine i_finT ?_
  | with_reducible refine i_sl ?_
  | with_reducible refine i_slH ?_
  | with_reducible refine i_slT ?_
  | with_reducible refine i_noPart ?_
  | with_reducible refine i_part ?_
  | ((with_reducible refine' i_frzT ?e ?_); (case e => rfl))
  | ((with_reducible refine' i_frzH ?e ?m ?t ?_); (case e => rfl); (case m => rfl); (case t => rfl))
  | ((with_reducible refine' i_din ?k ?e ?_); (case k => rfl); (case e => rfl))
  | ((with_reducible refine' i_dnotin ?k ?e ?_); (case k => rfl); (case e => rfl))
  | with_reducible refine i_dput ?_
  | with_reducible refine i_newD ?_
  | with_reducible refine i_lstH ?_
  | with_reducible refine i_lst ?_
  | with_reducible refine i_tup ?_
  | with_reducible refine i_break ?_
  | with_reducible refine i_cont ?_
  | with_reducible refine i_callS ?_
  | ((with_reducible refine' i_ixHW ?e ?v ?_); (case e => first | rfl | assumption); (case v => first | assumption | rfl))
  | ((with_reducible refine' i_ixHT ?e ?v ?_); (case e => first | rfl | assumption); (case v => first | assumption | rfl))
  | ((with_reducible refine' i_lenHT ?e ?_); (case e => first | rfl | assumption))
  | ((with_reducible refine' i_lenHW ?e ?_); (case e => first | rfl | assumption))
  | ((with_reducible refine' i_frzH ?e ?m ?t ?_); (case e => rfl); (case m => rfl); (case t => rfl))
  | ((with_reducible refine' i_unw ?e ?n ?_); (case e => rfl); (case n => rfl))
  | with_reducible refine i_gwCons ?_
  | with_reducible refine i_gwNil ?_
  | with_reducible refine i_lstW ?_
  | ((with_reducible refine' i_gList ?e ?n ?_); (case e => rfl); (case n => rfl))
  | with_reducible refine i_listRgH ?_
  | with_reducible refine i_listRg ?_
  | with_reducible refine i_R1 ?_
  | with_reducible refine i_getD ?_
  | ((with_reducible refine' i_none ?k ?_); (case k => rfl))
  | walk_at "dn")
local macro_rules | `(tactic| walk_at "dl") => `(tactic| ((try walk_at "dn"); repeat walk_at "d1"))
/-! a part cut apart -/
def CutsOf (w : Web) (p : Int) (cs : List Nat) : Prop := ∃ l c, DF.ends w p (DF.init w p) l c ∧ cs.Perm c ∧ cs.Pairwise (· ≤ ·)
theorem cast_perm {s : List Int} {c : List Nat} (h : s.Perm (c.map fun k => ((k : Nat) : Int))) : ∃ cs : List Nat, s = cs.map (fun k => ((k : Nat) : Int)) ∧ cs.Perm c := by
  refine ⟨s.map Int.toNat, ?_, ?_⟩
  · rw [List.map_map]
    have : ∀ x ∈ s, ((fun k : Nat => ((k : Nat) : Int)) ∘ Int.toNat) x = x := fun x hx => by
      obtain ⟨k, _, rfl⟩ := List.mem_map.mp (h.mem_iff.mp hx)
      rfl
    exact (List.map_id' s).symm.trans (List.map_congr_left fun x hx => (this x hx).symm)
  · have := h.map Int.toNat
    rw [List.map_map] at this
    have e : c.map (Int.toNat ∘ fun k => ((k : Nat) : Int)) = c := (List.map_congr_left fun k _ => Int.toNat_natCast k).trans (List.map_id' c)
    rw [e] at this
    exact this
theorem cutsOf_mk {w : Web} {p : Int} {l : List Int} {c : List Nat} (h : DF.ends w p (DF.init w p) l c) {s : List Int} (hp : s.Perm (c.map fun k => ((k : Nat) : Int))) (hs : s.Pairwise (· ≤ ·)) : ∃ cs : List Nat, s.map T.int = cs.map natT ∧ s = cs.map (fun k => ((k : Nat) : Int)) ∧ CutsOf w p cs := by
  obtain ⟨cs, rfl, h2⟩ := cast_perm hp
  refine ⟨cs, by rw [List.map_map]; rfl, rfl, l, c, h, h2, ?_⟩
  rw [List.pairwise_map] at hs
  exact hs.imp fun h => by omega
theorem nat_sorted : ∀ {xs ys : List Nat}, xs.Perm ys → xs.Pairwise (· ≤ ·) → ys.Pairwise (· ≤ ·) → xs = ys
  | [], ys, h, _, _ => h.nil_eq
  | x :: xs, [], h, _, _ => by have := h.length_eq; simp at this
  | x :: xs, y :: ys, h, h1, h2 => by
    obtain ⟨a1, a2⟩ := List.pairwise_cons.mp h1
    obtain ⟨b1, b2⟩ := List.pairwise_cons.mp h2
    have e : x = y := by
      have m1 : x ∈ y :: ys := h.mem_iff.mp (by simp)
      have m2 : y ∈ x :: xs := h.mem_iff.mpr (by simp)
      rcases List.mem_cons.mp m1 with z | z
      · exact z
      · rcases List.mem_cons.mp m2 with u | u
        · exact u.symm
        · have := b1 x z
          have := a1 y u
          omega
    subst e
    rw [nat_sorted ((List.perm_cons x).mp h) a2 b2]
theorem CutsOf.uniq {w : Web} {p : Int} {cs cs' : List Nat} (h : CutsOf w p cs) (h' : CutsOf w p cs') : cs = cs' := by
  obtain ⟨l, c, e, hp, hs⟩ := h
  obtain ⟨l', c', e', hp', hs'⟩ := h'
  obtain ⟨_, rfl⟩ := DF.uniq e e'
  exact nat_sorted (hp.trans hp'.symm) hs hs'
theorem CutsOf.gone {w : Web} {p : Nat} {cs : List Nat} (hok : w.Ok) (hp : p < w.places.length) (h : CutsOf w p cs) : ∃ l, Gone w p l cs := by
  obtain ⟨l, c, e, hpm, _⟩ := h
  have g := gone_of hok hp e
  exact ⟨l, g.nd, g.inr, g.all, g.lst, fun k hk hc => g.bef k hk fun z => hc (hpm.mem_iff.mpr z), fun k hk => g.cin k (hpm.mem_iff.mp hk), hpm.nodup_iff.mpr g.cnd⟩
theorem CutsOf.loose {w : Web} {p : Int} {cs : List Nat} (hlo : w.Loose p) (h : CutsOf w p cs) : cs = [] := by
  obtain ⟨l, c, e, hpm, _⟩ := h
  rw [loose_cuts hlo e] at hpm
  exact hpm.eq_nil
abbrev wordT (s : String) : T := .str (PySem.Str.ofString s)
def markT (m : String) (k : Nat) : T := .tup [wordT m, .int (k : Nat)]
def cutM (w : Web) (k : Nat) : List T := (if (w.row k).e ≠ 0 then [markT "begin" k] else []) ++ [markT "end" k]
def apartM (w : Web) (p : Int) (c : List Nat) : List T := (plainK w p c).map (markT "plain") ++ c.flatMap (cutM w)
def C_cut_apart : SC := fun ws m QC => ∃ (w : Web) (p : Nat), ws = [.t w.t, .t (.int p)] ∧ m = [] ∧ w.Ok ∧ p < w.places.length ∧ ∀ cs, CutsOf w p cs → cs.length ≤ 60 → QC (.h 2) [] [.lt ((apartR w p cs).map Row.t), .lt (apartM w p cs), .tw [.h 0, .h 1]]
theorem ln_cut_apart : ∀ ws m Q, C_cut_apart ws m Q → ws.length = ["a", "b"].length := by rintro ws m Q ⟨_, _, rfl, _⟩; rfl
theorem callS_apart {w : Web} {p : Nat} {sl : List (Option W)} {mem : Sto} {Q : W → G → Prop} (hok : w.Ok) (hp : p < w.places.length)
    (h : ∀ cs, CutsOf w p cs → cs.length ≤ 60 → Q (.h (mem.length + 2)) ⟨sl, mem ++ [some (.lt ((apartR w p cs).map Row.t)), some (.lt (apartM w p cs)), some (.tw [.h (mem.length + 0), .h (mem.length + 1)])]⟩) : callS C_cut_apart [.t w.t, .t (.int p)] ⟨sl, mem⟩ Q :=
  ⟨[], [], [.t w.t, .t (.int p)], List.nodup_nil, rfl, rfl, fun i c e => by simp at e, w, p, rfl, rfl, hok, hp, fun cs hcs hl => ⟨.h (mem.length + 2), [], [.lt ((apartR w p cs).map Row.t), .lt (apartM w p cs), .tw [.h (mem.length + 0), .h (mem.length + 1)]], rfl, rfl, rfl, h cs hcs hl⟩⟩
def rd_cut_apart : DSt :=
  dSeq (dAsg (dCallT C_cuts (dCons (dVar 0) (dCons (dVar 1) (dNil)))) (dgN 2))
  (dSeq (dAsg (dLstH (dNil)) (dgN 3))
  (dSeq (dAsg (dLstH (dNil)) (dgN 4))
  (dSeq (dFor (diL (dCallT C_rows_of (dCons (dVar 0) (dCons (dVar 1) (dNil))))) (dgN 5) (dIfS (dB (d2 (fIn true) (dVar 5) (dVar 2))) (dSeq (dDrop (dM fAppend (dVar 3) (dCons (dTup (dCons (dC (.int 0)) (dCons (d2 fIx (d2 fIx (d2 fIx (dVar 0) (dC (.int 1))) (dVar 5)) (dC (.int 1))) (dCons (d2 fIx (d2 fIx (d2 fIx (dVar 0) (dC (.int 1))) (dVar 5)) (dC (.int 2))) (dCons (d1 fNeg (dC (.int 1))) (dNil)))))) (dNil))))
  (dDrop (dM fAppend (dVar 4) (dCons (dTup (dCons (dC (.str (PySem.Str.ofString "plain"))) (dCons (dVar 5) (dNil)))) (dNil))))) (dNext)))
  (dSeq (dFor (diL (dVar 2)) (dgN 5) (dSeq (dIfS (dB (d2 (fEq true) (d2 fIx (d2 fIx (d2 fIx (dVar 0) (dC (.int 1))) (dVar 5)) (dC (.int 2))) (dC (.int 0)))) (dSeq (dDrop (dM fAppend (dVar 3) (dCons (dTup (dCons (dC (.int 0)) (dCons (dC (.int 0)) (dCons (d2 fIx (d2 fIx (d2 fIx (dVar 0) (dC (.int 1))) (dVar 5)) (dC (.int 2))) (dCons (d1 fNeg (dC (.int 1))) (dNil)))))) (dNil))))
  (dDrop (dM fAppend (dVar 4) (dCons (dTup (dCons (dC (.str (PySem.Str.ofString "begin"))) (dCons (dVar 5) (dNil)))) (dNil))))) (dNext))
  (dSeq (dDrop (dM fAppend (dVar 3) (dCons (dTup (dCons (dC (.int 0)) (dCons (d2 fIx (d2 fIx (d2 fIx (dVar 0) (dC (.int 1))) (dVar 5)) (dC (.int 1))) (dCons (dC (.int 1)) (dCons (d1 fNeg (dC (.int 1))) (dNil)))))) (dNil))))
  (dDrop (dM fAppend (dVar 4) (dCons (dTup (dCons (dC (.str (PySem.Str.ofString "end"))) (dCons (dVar 5) (dNil)))) (dNil)))))))
  (dRet (dTupW (dCons (dVar 3) (dCons (dVar 4) (dNil)))))))))

theorem rp_cut_apart : ∀ ws m QC, C_cut_apart ws m QC → rd_cut_apart ⟨FinS m.length QC (.t .non), FinS m.length QC, fun _ => False, fun _ => False⟩ ⟨ws.map some ++ List.replicate (6 - ws.length) none, m.map some⟩ := by
  rintro ws m QC ⟨w, p, rfl, rfl, hok, hp, hQ⟩
  have h1 := hok.1
  have hol := rowsOf_len w p
  unfold rd_cut_apart
  walk_at "dl"
  refine ⟨w, p, rfl, hok, hp, fun l c hd hcl s hsp hss => ?_⟩
  obtain ⟨cs, e1, e2, hcs⟩ := cutsOf_mk hd hsp hss
  have hcl2 : cs.length ≤ 60 := by
    obtain ⟨l2, c2, hd2, hp2, _⟩ := hcs
    have : c = c2 := (DF.uniq hd hd2).2
    rw [hp2.length_eq, ← this]
    exact hcl
  obtain ⟨l3, g⟩ := hcs.gone hok hp
  have hcr : ∀ k ∈ cs, k < w.rows.length := fun k hk => (mem_rowsOf.mp (g.cin k hk)).1
  rw [e1]
  unfold Web.t
  walk_at "dl"
  refine ⟨by decide, ?_⟩
  walk_at "dl"
  refine ⟨by decide, ?_⟩
  walk_at "dl"
  refine ⟨w, p, rfl, by omega, ?_⟩
  walk_at "dl"
  refine forG (w.rowsOf p) (fun k => W.t (natT k)) (fun pre g' => ∃ (o5 : Option W), g' = ⟨[some (.t (.tup [.lst (w.places.map T.int), .lst (w.rows.map Row.t)])), some (.t (.int p)), some (.t (.lst (cs.map natT))), some (.h 0), some (.h 1), o5], [some (.lt ((pre.filter fun k => !decide (k ∈ cs)).map fun k => (rowA (w.row k)).t)), some (.lt ((pre.filter fun k => !decide (k ∈ cs)).map (markT "plain")))]⟩)
    (by rw [List.map_map]; rfl) ⟨_, rfl⟩ (fun _ _ _ => by trivial) ?_ ?_
  · rintro pre k post hsp g' ⟨o5, rfl⟩ N hN
    have hk : k ∈ w.rowsOf p := by rw [hsp]; simp
    have hkr := (mem_rowsOf.mp hk).1
    have hr := row_at hkr
    have hpl : pre.length < w.rows.length := by
      have := congrArg List.length hsp
      rw [List.length_append, List.length_cons] at this
      omega
    have hfl : ∀ q : Nat → Bool, (pre.filter q).length ≤ pre.length := fun q => List.length_filter_le _ _
    have hfs := fun q : Nat → Bool => List.filter_append (p := q) pre [k]
    unfold natT Row.t at *
    walk_at "dl"
    refine i_ninI (xs := cs.map fun k => ((k : Nat) : Int)) (by rw [List.map_map]; rfl) ?_
    walk_at "dl"
    refine k_n (fun c => ?_) (fun c => ?_)
    · have hkc : k ∉ cs := fun z => c (memN.mpr z)
      walk_at "dl"
      refine ⟨isL_lt rfl, ?_⟩
      walk_at "dl"
      refine ⟨by decide, ?_⟩
      walk_at "dl"
      refine i_append rfl (lineLt (by rw [List.length_map]; have := hfl (fun k => !decide (k ∈ cs)); omega)) ?_
      simp only [G.put, List.set_cons_zero]
      walk_at "dl"
      refine ⟨isL_lt rfl, ?_⟩
      walk_at "dl"
      refine ⟨by decide, ?_⟩
      walk_at "dl"
      refine i_append rfl (lineLt (by rw [List.length_map]; have := hfl (fun k => !decide (k ∈ cs)); omega)) ?_
      simp only [G.put, List.set_cons_zero, List.set_cons_succ]
      refine hN _ ⟨some (.t (.int (k : Nat))), ?_⟩
      rw [hfs, List.filter_cons_of_pos (by simp [hkc]), List.filter_nil, List.map_append, List.map_append]
      rfl
    · have hkc : k ∈ cs := memN.mp c
      walk_at "dl"
      refine hN _ ⟨some (.t (.int (k : Nat))), ?_⟩
      rw [hfs, List.filter_cons_of_neg (by simp [hkc]), List.filter_nil, List.append_nil]
  · rintro g' ⟨o5, rfl⟩
    rw [show (w.rowsOf p).filter (fun k => !decide (k ∈ cs)) = plainK w p cs from rfl]
    have hpl : (plainK w p cs).length ≤ w.rows.length := Nat.le_trans (List.length_filter_le _ _) hol
    walk_at "dl"
    refine forG cs (fun k => W.t (natT k)) (fun pre g' => ∃ (o5 : Option W), g' = ⟨[some (.t (.tup [.lst (w.places.map T.int), .lst (w.rows.map Row.t)])), some (.t (.int p)), some (.t (.lst (cs.map natT))), some (.h 0), some (.h 1), o5], [some (.lt ((plainK w p cs).map (fun k => (rowA (w.row k)).t) ++ (pre.flatMap (cutR w)).map Row.t)), some (.lt ((plainK w p cs).map (markT "plain") ++ pre.flatMap (cutM w)))]⟩)
      (by rw [List.map_map]; rfl) ⟨o5, by simp⟩ (by rintro _ _ ⟨_, rfl⟩; rfl) ?_ ?_
    · rintro pre k post hsp g' ⟨o5, rfl⟩ N hN
      have hkr := hcr k (by rw [hsp]; simp)
      have hr := row_at hkr
      have hpl2 : pre.length < 60 := by
        have := congrArg List.length hsp
        rw [List.length_append, List.length_cons] at this
        omega
      have hf1 := flat_len (cutR w) 2 (cutR_len w) pre
      have hf2 := flat_len (cutM w) 2 (fun a => by unfold cutM; split <;> simp) pre
      have eR : (pre ++ [k]).flatMap (cutR w) = pre.flatMap (cutR w) ++ cutR w k := by rw [List.flatMap_append]; simp
      have eM : (pre ++ [k]).flatMap (cutM w) = pre.flatMap (cutM w) ++ cutM w k := by rw [List.flatMap_append]; simp
      have l1 : ((plainK w p cs).map (fun k => (rowA (w.row k)).t) ++ (pre.flatMap (cutR w)).map Row.t).length ≤ 1200 := by
        rw [List.length_append, List.length_map, List.length_map]
        omega
      have l2 : ((plainK w p cs).map (markT "plain") ++ pre.flatMap (cutM w)).length ≤ 1200 := by
        rw [List.length_append, List.length_map]
        omega
      rw [eR, eM, List.map_append, ← List.append_assoc, ← List.append_assoc] at hN
      generalize (plainK w p cs).map (fun k => (rowA (w.row k)).t) ++ (pre.flatMap (cutR w)).map Row.t = LR at l1 hN
      generalize (plainK w p cs).map (markT "plain") ++ pre.flatMap (cutM w) = LM at l2 hN
      unfold natT Row.t at *
      walk_at "dl"
      refine k_n (fun c => ?_) (fun c => ?_)
      · walk_at "dl"
        refine ⟨isL_lt rfl, ?_⟩
        walk_at "dl"
        refine ⟨by decide, ?_⟩
        walk_at "dl"
        refine i_append rfl (lineLt (by omega)) ?_
        simp only [G.put, List.set_cons_zero]
        walk_at "dl"
        refine ⟨isL_lt rfl, ?_⟩
        walk_at "dl"
        refine ⟨by decide, ?_⟩
        walk_at "dl"
        refine i_append rfl (lineLt (by omega)) ?_
        simp only [G.put, List.set_cons_zero, List.set_cons_succ]
        walk_at "dl"
        refine ⟨isL_lt rfl, ?_⟩
        walk_at "dl"
        refine ⟨by decide, ?_⟩
        walk_at "dl"
        refine i_append rfl (lineLt (by rw [List.length_append]; simp; omega)) ?_
        simp only [G.put, List.set_cons_zero]
        walk_at "dl"
        refine ⟨isL_lt rfl, ?_⟩
        walk_at "dl"
        refine ⟨by decide, ?_⟩
        walk_at "dl"
        refine i_append rfl (lineLt (by rw [List.length_append]; simp; omega)) ?_
        simp only [G.put, List.set_cons_zero, List.set_cons_succ]
        refine hN _ ⟨some (.t (.int (k : Nat))), ?_⟩
        unfold cutR cutM
        rw [if_pos c, if_pos c, List.append_assoc, List.append_assoc]
        rfl
      · walk_at "dl"
        refine ⟨isL_lt rfl, ?_⟩
        walk_at "dl"
        refine ⟨by decide, ?_⟩
        walk_at "dl"
        refine i_append rfl (lineLt (by omega)) ?_
        simp only [G.put, List.set_cons_zero]
        walk_at "dl"
        refine ⟨isL_lt rfl, ?_⟩
        walk_at "dl"
        refine ⟨by decide, ?_⟩
        walk_at "dl"
        refine i_append rfl (lineLt (by omega)) ?_
        simp only [G.put, List.set_cons_zero, List.set_cons_succ]
        refine hN _ ⟨some (.t (.int (k : Nat))), ?_⟩
        unfold cutR cutM
        rw [if_neg (fun z => z c), if_neg (fun z => z c)]
        rfl
    · rintro g' ⟨o5, rfl⟩
      walk_at "dl"
      refine i_tupW ?_
      walk_at "dl"
      refine ⟨by decide, ?_⟩
      have hq := hQ cs hcs hcl2
      refine fin_new [0, 1, 2] [.lt ((apartR w p cs).map Row.t), .lt (apartM w p cs), .tw [.h 0, .h 1]] (.h 2) (by decide) (fun j hj => ?_) rfl rfl (fun i c' e => ?_) hq
      · have : j = 0 ∨ j = 1 ∨ j = 2 := by simpa using hj
        show j < 3
        omega
      · have eA : (apartR w p cs).map Row.t = (plainK w p cs).map (fun k => (rowA (w.row k)).t) ++ (cs.flatMap (cutR w)).map Row.t := by
          unfold apartR
          rw [List.map_append, List.map_map]
          rfl
        match i, e with
        | 0, e =>
          cases e
          exact ⟨0, _, rfl, rfl, by rw [eA]; rfl⟩
        | 1, e =>
          cases e
          exact ⟨1, _, rfl, rfl, rfl⟩
        | 2, e =>
          cases e
          exact ⟨2, .tw [.h 0, .h 1], rfl, rfl, rfl⟩
        | i + 3, e => simp at e
def C_stretch_web : SC := fun ws m QC => ∃ (w : Web) (p : Nat), ws = [.t w.t, .t (.int p)] ∧ m = [] ∧ w.Ok ∧ p < w.places.length ∧ ∀ cs, CutsOf w p cs → cs.length ≤ 60 → QC (.h 2) [] [.lt [.int (w.place p)], .lt ((apartR w p cs).map Row.t), .tw [.h 0, .h 1]]
theorem ln_stretch_web : ∀ ws m Q, C_stretch_web ws m Q → ws.length = ["a", "b"].length := by rintro ws m Q ⟨_, _, rfl, _⟩; rfl
theorem callS_stretch {w : Web} {p : Nat} {sl : List (Option W)} {mem : Sto} {Q : W → G → Prop} (hok : w.Ok) (hp : p < w.places.length)
    (h : ∀ cs, CutsOf w p cs → cs.length ≤ 60 → Q (.h (mem.length + 2)) ⟨sl, mem ++ [some (.lt [.int (w.place p)]), some (.lt ((apartR w p cs).map Row.t)), some (.tw [.h (mem.length + 0), .h (mem.length + 1)])]⟩) : callS C_stretch_web [.t w.t, .t (.int p)] ⟨sl, mem⟩ Q :=
  ⟨[], [], [.t w.t, .t (.int p)], List.nodup_nil, rfl, rfl, fun i c e => by simp at e, w, p, rfl, rfl, hok, hp, fun cs hcs hl => ⟨.h (mem.length + 2), [], [.lt [.int (w.place p)], .lt ((apartR w p cs).map Row.t), .tw [.h (mem.length + 0), .h (mem.length + 1)]], rfl, rfl, rfl, h cs hcs hl⟩⟩
def rd_stretch_web : DSt :=
  dSeq (dAsg (d2 fIxP (dCallS C_cut_apart (dCons (dVar 0) (dCons (dVar 1) (dNil)))) (dC (.int 0))) (dgN 2))
  (dRet (dTupW (dCons (dLstH (dCons (d2 fIx (d2 fIx (dVar 0) (dC (.int 0))) (dVar 1)) (dNil))) (dCons (dVar 2) (dNil)))))

theorem rp_stretch_web : ∀ ws m QC, C_stretch_web ws m QC → rd_stretch_web ⟨FinS m.length QC (.t .non), FinS m.length QC, fun _ => False, fun _ => False⟩ ⟨ws.map some ++ List.replicate (3 - ws.length) none, m.map some⟩ := by
  rintro ws m QC ⟨w, p, rfl, rfl, hok, hp, hQ⟩
  have h1 := hok.1
  have pa := place_at (w := w) (i := (p : Int)) (by omega) (by omega)
  unfold rd_stretch_web
  walk_at "dl"
  refine callS_apart hok hp fun cs hcs hcl => ?_
  walk_at "dl"
  refine i_ixP rfl (atI_nat (j := 0) rfl) ?_
  unfold Web.t
  walk_at "dl"
  refine i_tupW ?_
  walk_at "dl"
  refine ⟨by decide, ?_⟩
  walk_at "dl"
  refine ⟨by decide, ?_⟩
  refine fin_new [3, 0, 4] [.lt [.int (w.place p)], .lt ((apartR w p cs).map Row.t), .tw [.h 0, .h 1]] (.h 2) (by decide) (fun j hj => ?_) rfl rfl (fun i c' e => ?_) (hQ cs hcs hcl)
  · have : j = 3 ∨ j = 0 ∨ j = 4 := by simpa using hj
    show j < 5
    omega
  · match i, e with
    | 0, e =>
      cases e
      exact ⟨3, _, rfl, rfl, rfl⟩
    | 1, e =>
      cases e
      exact ⟨0, _, rfl, rfl, rfl⟩
    | 2, e =>
      cases e
      exact ⟨4, .tw [.h 3, .h 0], rfl, rfl, rfl⟩
    | i + 3, e => simp at e

end DL

namespace DL
open PySem PySem.Spec L2
local macro_rules | `(tactic| walk_at "dn") => `(tactic| simp only [purse_set2, purse_set3, purse_set4, purse_set5, purse_app, purse_len, purse_start, purse_l, G.set, G.put, G.push, G.wipe, wipeW, G.rs, rsW, List.set_cons_zero, List.set_cons_succ, List.map_cons, List.map_nil, List.length_cons, List.length_nil, List.nil_append, List.cons_append, List.replicate_succ, List.replicate_zero, Nat.reduceAdd, Nat.reduceSub, List.getD_cons_zero, List.getD_cons_succ, Option.getD_some, Option.getD_none])
local macro_rules | `(tactic| walk_at "d1") => `(tactic| first
  | with_reducible refine i_seq ?_
  | with_reducible refine i_asg ?_
  | with_reducible refine i_d2 ?_
  | ((with_reducible refine' i_var ?e ?_); (case e => rfl))
  | with_reducible refine i_c ?_
  | ((with_reducible refine' i_ix ?e ?v ?_); (case e => rfl); (case v => first | assumption | rfl))
  | with_reducible refine i_fI0 ?_
  | with_reducible refine i_gN ?_
  | with_reducible refine i_cons ?_
  | with_reducible refine i_nil ?_
  | with_reducible refine i_dN ?_
  | ((with_reducible refine' i_len ?e ?_); (case e => rfl))
  | with_reducible refine i_d1 ?_
  | with_reducible refine i_neg ?_
  | with_reducible refine i_B ?_
  | with_reducible refine o_B ?_
  | with_reducible refine o_I ?_
  | with_reducible refine i_ifS ?_
  | with_reducible refine i_or ?_
  | with_reducible refine i_and ?_
  | with_reducible refine i_not ?_
  | with_reducible refine i_andV ?_
  | with_reducible refine i_orV ?_
  | with_reducible refine i_notV ?_
  | with_reducible refine i_if ?_
  | with_reducible refine i_yes ?_
  | with_reducible refine k_T ?_
  | with_reducible refine k_F ?_
  | with_reducible refine k_True ?_
  | with_reducible refine k_False ?_
  | with_reducible refine i_eqI ?_
  | with_reducible refine i_neI ?_
  | with_reducible refine i_addI ?_
  | with_reducible refine i_addHI ?_
  | with_reducible refine i_callT ?_
  | with_reducible refine i_callH ?_
  | ((with_reducible refine' o_Ts ?e ?_); (case e => rfl))
  | with_reducible refine o_T ?_
  | ((with_reducible refine' o_TF ?e ?_); (case e => rfl))
  | with_reducible refine o_H ?_
  | ((with_reducible refine' o_HF ?e ?_); (case e => rfl))
  | with_reducible refine i_next ?_
  | with_reducible refine i_drop ?_
  | with_reducible refine i_ret ?_
  | with_reducible refine i_retN ?_
  | ((with_reducible refine' i_gTup ?e ?_); (case e => rfl))
  | with_reducible refine i_gCons ?_
  | with_reducible refine i_gNil ?_
  | with_reducible refine i_min2 ?_
  | with_reducible refine i_max2 ?_
  | with_reducible refine i_par ?_
  | with_reducible refine o_W2 ?_
  | ((with_reducible refine' i_aug ?e ?_); (case e => rfl))
  | with_reducible refine i_intI ?_
  | with_reducible refine i_intB ?_
  | with_reducible refine i_lc ?_
  | with_reducible refine i_for ?_
  | with_reducible refine i_while ?_
  | with_reducible refine i_itL ?_
  | ((with_reducible refine' o_Lq ?e ?_); (case e => rfl))
  | with_reducible refine i_itR1 ?_
  | with_reducible refine i_itR2 ?_
  | with_reducible refine o_I1 ?_
  | with_reducible refine o_I2 ?_
  | with_reducible refine e_t ?_
  | ((with_reducible refine' e_h ?e ?p ?_); (case e => rfl); (case p => rfl))
  | with_reducible refine i_M ?_
  | with_reducible refine i_M0 ?_
  | with_reducible refine i_gSub ?_
  | with_reducible refine i_finH ?_
  | with_reducible refine i_finT ?_
  | with_reducible refine i_sl ?_
  | with_reducible refine i_slH ?_
  | with_reducible refine i_slT ?_
  | with_reducible refine i_noPart ?_
  | with_reducible refine i_part ?_
  | ((with_reducible refine' i_frzT ?e ?_); (case e => rfl))
  | ((with_reducible refine' i_frzH ?e ?m ?t ?_); (case e => rfl); (case m => rfl); (case t => rfl))
  | ((with_reducible refine' i_din ?k ?e ?_); (case k => rfl); (case e => rfl))
  | ((with_reducible refine' i_dnotin ?k ?e ?_); (case k => rfl); (case e => rfl))
  | with_reducible refine i_dput ?_
  | with_reducible refine i_newD ?_
  | with_reducible refine i_lstH ?_
  | with_reducible refine i_lst ?_
  | with_reducible refine i_tup ?_
  | with_reducible refine i_break ?_
  | with_reducible refine i_cont ?_
  | with_reducible refine i_callS ?_
  | ((with_reducible refine' i_ixHW ?e ?v ?_); (case e => first | rfl | assumption); (case v => first | assumption | rfl))
  | ((with_reducible refine' i_ixHT ?e ?v ?_); (case e => first | rfl | assumption); (case v => first | assumption | rfl))
  | ((with_reducible refine' i_lenHT ?e ?_); (case e => first | rfl | assumption))
  | ((with_reducible refine' i_lenHW ?e ?_); (case e => first | rfl | assumption))
  | ((with_reducible refine' i_frzH ?e ?m ?t ?_); (case e => rfl); (case m => rfl); (case t => rfl))
  | ((with_reducible refine' i_unw ?e ?n ?_); (case e => rfl); (case n => rfl))
  | with_reducible refine i_gwCons ?_
  | with_reducible refine i_gwNil ?_
  | with_reducible refine i_lstW ?_
  | ((with_reducible refine' i_gList ?e ?n ?_); (case e => rfl); (case n => rfl))
  | with_reducible refine i_listRgH ?_
  | with_reducible refine i_listRg ?_
  | with_reducible refine i_R1 ?_
  | with_reducible refine i_getD ?_
  | ((with_reducible refine' i_none ?k ?_); (case k => rfl))
  | walk_at "dn")
local macro_rules | `(tactic| walk_at "dl") => `(tactic| ((try walk_at "dn"); repeat walk_at "d1"))
/-! the law's own going (from Sk50: never join with it) -/
theorem no_fn {P : Program} {w : World} {K : PySem.W.Frag} {mg : Str → Option Value} {base : Heap} {k : Nat} {f : Addr} {fd : FuncData} {ps : List Str} {C : SC} (h : ∀ ws m Q, ¬ C ws m Q) : FnOk P w K mg base CX0 k f fd ps (sps K C) :=
  ⟨fun vs H Q E z => by
    obtain ⟨al, S, F, m0, ws, QC, _, _, c, _⟩ := z
    exact (h _ _ _ c).elim, fun A outer s H args us vs Q E _ _ _ _ z => by
    obtain ⟨al, S, F, m0, ws, QC, _, _, c, _⟩ := z
    exact (h _ _ _ c).elim⟩
def CR__law_go (d : Nat) : SC := fun ws m QC => ∃ (w : Web) (p : Nat) (B : List Int) (x : Int) (L : List Int) (C : List Nat), ws = [.t w.t, .t (.int p), .t (.lst ((B.reverse ++ [x]).map T.int)), .h 0, .h 1] ∧ m = [.lt (L.map T.int), .lt (C.map natT)] ∧ w.Ok ∧ p < w.places.length ∧
  (x :: B ++ L).Nodup ∧ (∀ y ∈ x :: B ++ L, 0 ≤ y ∧ y < w.place p) ∧ (w.place p).toNat < B.length + 1 + L.length + d ∧ C.length ≤ 60 * (L.length + B.length) ∧
  ∀ (L' : List Int) (C' : List Nat), (∀ F : List (Int × List Nat), F.map (·.1) = B → ∃ n, DF.go w p n ⟨(x, w.fromP p x) :: F, L, C⟩ = ⟨F, L', C'⟩) → (B ++ L').Nodup → (∀ y ∈ B ++ L', 0 ≤ y ∧ y < w.place p) → L.length + 1 ≤ L'.length → C'.length + 60 * L.length ≤ C.length + 60 * L'.length →
    QC (.t .non) [.lt (L'.map T.int), .lt (C'.map natT)] []
abbrev C__law_go : SC := CR__law_go 17
theorem ln__law_go (d : Nat) : ∀ ws m Q, CR__law_go d ws m Q → ws.length = ["a", "b", "c", "d", "e"].length := by rintro ws m Q ⟨_, _, _, _, _, _, rfl, _⟩; rfl
theorem go_len {w : Web} {p : Nat} {B L : List Int} {x : Int} (nd : (x :: B ++ L).Nodup) (hin : ∀ y ∈ x :: B ++ L, 0 ≤ y ∧ y < w.place p) : B.length + 1 + L.length ≤ (w.place p).toNat := by
  have := nd.length_le_of_subset (l₂ := upN (w.place p)) fun y hy => mem_upN.mpr (hin y hy)
  rw [List.length_append, List.length_cons, len_upN] at this
  omega
theorem no__law_go : ∀ ws m Q, ¬ CR__law_go 0 ws m Q := by
  rintro ws m Q ⟨w, p, B, x, L, C, _, _, _, _, nd, hin, hd, _⟩
  have := go_len nd hin
  omega
theorem callS_go {d j1 j2 : Nat} {w : Web} {p : Nat} {B : List Int} {x : Int} {L : List Int} {C : List Nat} {sl : List (Option W)} {mem : Sto} {Q : W → G → Prop} (hne : j1 ≠ j2) (e1 : mem[j1]? = some (some (.lt (L.map T.int)))) (e2 : mem[j2]? = some (some (.lt (C.map natT)))) (hok : w.Ok) (hp : p < w.places.length)
    (nd : (x :: B ++ L).Nodup) (hin : ∀ y ∈ x :: B ++ L, 0 ≤ y ∧ y < w.place p) (hd : (w.place p).toNat < B.length + 1 + L.length + d) (hc : C.length ≤ 60 * (L.length + B.length))
    (h : ∀ (L' : List Int) (C' : List Nat), (∀ F : List (Int × List Nat), F.map (·.1) = B → ∃ n, DF.go w p n ⟨(x, w.fromP p x) :: F, L, C⟩ = ⟨F, L', C'⟩) → (B ++ L').Nodup → (∀ y ∈ B ++ L', 0 ≤ y ∧ y < w.place p) → L.length + 1 ≤ L'.length → C'.length + 60 * L.length ≤ C.length + 60 * L'.length →
      Q (.t .non) ⟨sl, (mem.set j2 (some (.lt (C'.map natT)))).set j1 (some (.lt (L'.map T.int)))⟩) : callS (CR__law_go d) [.t w.t, .t (.int p), .t (.lst ((B.reverse ++ [x]).map T.int)), .h j1, .h j2] ⟨sl, mem⟩ Q := by
  refine ⟨[j1, j2], [.lt (L.map T.int), .lt (C.map natT)], [.t w.t, .t (.int p), .t (.lst ((B.reverse ++ [x]).map T.int)), .h 0, .h 1], by simp [hne], rfl, rfl, fun i c e => ?_, w, p, B, x, L, C, rfl, rfl, hok, hp, nd, hin, hd, hc, fun L' C' h1 h2 h3 h4 h5 => ⟨.t .non, [.lt (L'.map T.int), .lt (C'.map natT)], [], rfl, rfl, rfl, ?_⟩⟩
  · match i, e with
    | 0, e => cases e; exact ⟨j1, _, rfl, rfl, e1⟩
    | 1, e => cases e; exact ⟨j2, _, rfl, rfl, e2⟩
    | i + 2, e => simp at e
  · rw [List.map_nil, List.append_nil]
    exact h L' C' h1 h2 h3 h4 h5
def rd__law_go (C__law_go : SC) : DSt :=
  dSeq (dFor (diL (dCallT C__law_from (dCons (dVar 0) (dCons (dVar 1) (dCons (d2 fIx (dVar 2) (d1 fNeg (dC (.int 1)))) (dNil)))))) (dgN 5) (dSeq (dAsg (d2 fIx (d2 fIx (d2 fIx (dVar 0) (dC (.int 1))) (dVar 5)) (dC (.int 2))) (dgN 6))
  (dIfS (dB (d2 (fIn false) (dVar 6) (dVar 2))) (dDrop (dM fAppend (dVar 4) (dCons (dVar 5) (dNil)))) (dIfS (dB (d2 (fIn true) (dVar 6) (dVar 3))) (dDrop (dCallS C__law_go (dCons (dVar 0) (dCons (dVar 1) (dCons (d2 fAdd (dVar 2) (dLst (dCons (dVar 6) (dNil)))) (dCons (dVar 3) (dCons (dVar 4) (dNil)))))))) (dNext)))))
  (dDrop (dM fAppend (dVar 3) (dCons (d2 fIx (dVar 2) (d1 fNeg (dC (.int 1)))) (dNil))))

theorem rp__law_go (d : Nat) : ∀ ws m QC, CR__law_go (d + 1) ws m QC → rd__law_go (CR__law_go d) ⟨FinS m.length QC (.t .non), FinS m.length QC, fun _ => False, fun _ => False⟩ ⟨ws.map some ++ List.replicate (7 - ws.length) none, m.map some⟩ := by
  rintro ws m QC ⟨w, p, B, x, L, C, rfl, rfl, hok, hp, nd, hin, hd, hc, hQ⟩
  have h1 := hok.1
  have hpl := hok.2.1 _ (place_mem hp)
  have hfl := fromP_len w p x
  have hlast : atI ((B.reverse ++ [x]).map T.int) (-1) = some (.int x) := by
    rw [List.map_append]
    exact atI_last _ _
  have hmS : ∀ y, y ∈ B.reverse ++ [x] ↔ y ∈ x :: B := fun y => by
    rw [List.mem_append, List.mem_reverse, List.mem_singleton, List.mem_cons]
    exact Or.comm
  unfold rd__law_go
  walk_at "dl"
  refine ⟨w, p, x, rfl, by omega, ?_⟩
  walk_at "dl"
  refine forG (w.fromP p x) (fun k => W.t (natT k)) (fun pre g' => ∃ (Li : List Int) (Ci : List Nat) (o5 o6 : Option W), g' = ⟨[some (.t w.t), some (.t (.int p)), some (.t (.lst ((B.reverse ++ [x]).map T.int))), some (.h 0), some (.h 1), o5, o6], [some (.lt (Li.map T.int)), some (.lt (Ci.map natT))]⟩ ∧
      (∀ F : List (Int × List Nat), F.map (·.1) = B → ∃ n, DF.go w p n ⟨(x, w.fromP p x) :: F, L, C⟩ = ⟨(x, (w.fromP p x).drop pre.length) :: F, Li, Ci⟩) ∧ (x :: B ++ Li).Nodup ∧ (∀ y ∈ x :: B ++ Li, 0 ≤ y ∧ y < w.place p) ∧ L.length ≤ Li.length ∧ Ci.length + 60 * L.length ≤ C.length + 60 * Li.length + pre.length)
    (by rw [List.map_map]; rfl) ⟨L, C, none, none, rfl, fun F hF => ⟨0, rfl⟩, nd, hin, Nat.le_refl _, by simp⟩ (fun _ _ _ => rfl) ?_ ?_
  · rintro pre k post hsp g' ⟨Li, Ci, o5, o6, rfl, hgo, nd', hin', hLi, hCi⟩ N hN
    have hkf : k ∈ w.fromP p x := by rw [hsp]; simp
    obtain ⟨k1, k2, k3⟩ := mem_fromP.mp hkf
    have hrow := row_at k1
    have hro := hok.2.2.1 _ (row_mem k1)
    unfold Web.rowOk at hro
    rw [k2] at hro
    have hpl2 : pre.length ≤ 60 := by
      have e := congrArg List.length hsp
      rw [List.length_append, List.length_cons] at e
      omega
    have hlen := go_len nd' hin'
    have hdr : (w.fromP p x).drop pre.length = k :: (w.fromP p x).drop (pre ++ [k]).length := by
      rw [hsp, List.drop_left, List.length_append, List.length_singleton]
      rw [show pre ++ k :: post = (pre ++ [k]) ++ post by rw [List.append_assoc]; rfl, show pre.length + 1 = (pre ++ [k]).length by rw [List.length_append, List.length_singleton], List.drop_left]
    have hpk : (pre ++ [k]).length = pre.length + 1 := by rw [List.length_append, List.length_singleton]
    unfold natT Web.t Row.t at *
    walk_at "dl"
    refine i_inI (xs := B.reverse ++ [x]) rfl ?_
    walk_at "dl"
    refine k_d (fun hs => ?_) (fun hs => ?_)
    · have hs' := (hmS _).mp hs
      walk_at "dl"
      refine ⟨isL_lt rfl, ?_⟩
      walk_at "dl"
      refine i_append rfl (lineLt (by rw [List.length_map]; omega)) ?_
      rw [show Ci.map (fun k => T.int (k : Nat)) ++ [T.int (k : Nat)] = (Ci ++ [k]).map (fun k => T.int (k : Nat)) by rw [List.map_append]; rfl]
      walk_at "dn"
      refine hN _ ⟨Li, Ci ++ [k], _, _, rfl, fun F hF => ?_, nd', hin', hLi, by rw [List.length_append, List.length_singleton, hpk]; omega⟩
      obtain ⟨n, hn⟩ := hgo F hF
      refine ⟨n + 1, ?_⟩
      rw [DF.go_one, hn, hdr]
      show (if _ then _ else _) = _
      rw [if_pos (by rw [hF]; exact hs')]
    · have hs' : ¬ (w.row k).e ∈ x :: B := fun z => hs ((hmS _).mpr z)
      walk_at "dl"
      refine i_ninI (xs := Li) rfl ?_
      walk_at "dl"
      refine k_n (fun hl => ?_) (fun hl => ?_)
      · walk_at "dl"
        refine ⟨by decide, ?_⟩
        refine i_addL (xs := (B.reverse ++ [x]).map T.int) (ys := [T.int (w.row k).e]) rfl rfl (lineLe (by rw [List.length_map, List.length_append, List.length_reverse, List.length_singleton, List.length_singleton]; omega)) ?_
        rw [show (B.reverse ++ [x]).map T.int ++ [T.int (w.row k).e] = ((x :: B).reverse ++ [(w.row k).e]).map T.int by rw [List.map_append (l₁ := (x :: B).reverse), List.reverse_cons]; rfl]
        walk_at "dl"
        refine callS_go (w := w) (p := p) (B := x :: B) (x := (w.row k).e) (L := Li) (C := Ci) (by decide) rfl rfl hok hp ?_ ?_ (by rw [List.length_cons]; omega) (by rw [List.length_cons]; omega) fun L' C' g1 g2 g3 g4 g5 => ?_
        · rw [List.cons_append, List.nodup_cons]
          exact ⟨fun z => by
            rcases List.mem_append.mp z with z | z
            · exact hs' z
            · exact hl z, nd'⟩
        · intro y hy
          rcases List.mem_cons.mp hy with rfl | hy
          · exact ⟨by omega, by omega⟩
          · exact hin' y hy
        · walk_at "dl"
          refine hN _ ⟨L', C', _, _, rfl, fun F hF => ?_, g2, g3, by omega, by rw [hpk]; omega⟩
          obtain ⟨n, hn⟩ := hgo F hF
          obtain ⟨n2, hn2⟩ := g1 ((x, (w.fromP p x).drop (pre ++ [k]).length) :: F) (by rw [List.map_cons, hF])
          refine ⟨n + 1 + n2, ?_⟩
          rw [DF.go_add, DF.go_one, hn, hdr]
          rw [show DF.step w p ⟨(x, k :: (w.fromP p x).drop (pre ++ [k]).length) :: F, Li, Ci⟩ = ⟨((w.row k).e, w.fromP p (w.row k).e) :: (x, (w.fromP p x).drop (pre ++ [k]).length) :: F, Li, Ci⟩ by
            show (if _ then _ else _) = _
            rw [if_neg (by rw [hF]; exact hs'), if_neg hl]]
          exact hn2
      · walk_at "dl"
        refine hN _ ⟨Li, Ci, _, _, rfl, fun F hF => ?_, nd', hin', hLi, by rw [hpk]; omega⟩
        obtain ⟨n, hn⟩ := hgo F hF
        refine ⟨n + 1, ?_⟩
        rw [DF.go_one, hn, hdr]
        show (if _ then _ else _) = _
        rw [if_neg (by rw [hF]; exact hs'), if_pos hl]
  · rintro g' ⟨Li, Ci, o5, o6, rfl, hgo, nd', hin', hLi, hCi⟩
    have hlen := go_len nd' hin'
    walk_at "dl"
    refine ⟨isL_lt rfl, ?_⟩
    walk_at "dl"
    refine i_append rfl (lineLt (by rw [List.length_map]; omega)) ?_
    rw [show Li.map T.int ++ [T.int x] = (Li ++ [x]).map T.int by rw [List.map_append]; rfl]
    walk_at "dn"
    have hperm : (B ++ (Li ++ [x])).Perm (x :: B ++ Li) := by
      rw [← List.append_assoc]
      exact List.perm_append_singleton x _
    have q := hQ (Li ++ [x]) Ci (fun F hF => ?_) (hperm.nodup_iff.mpr nd') (fun y hy => hin' y (hperm.mem_iff.mp hy)) (by rw [List.length_append, List.length_singleton]; omega) (by rw [List.length_append, List.length_singleton]; omega)
    · refine fin_s [] [.lt ((Li ++ [x]).map T.int), .lt (Ci.map natT)] [] (.t .non) (by decide) (fun j hj => ?_) rfl rfl rfl (fun i c' e => ?_) q
      · have : j < 2 := by
          have := hj
          simp at this
          omega
        exact this
      · match i, e with
        | 0, e => cases e; exact ⟨0, _, rfl, rfl, rfl⟩
        | 1, e => cases e; exact ⟨1, _, rfl, rfl, rfl⟩
        | i + 2, e => simp at e
    · obtain ⟨n, hn⟩ := hgo F hF
      rw [List.drop_length] at hn
      refine ⟨n + 1, ?_⟩
      rw [DF.go_one, hn]
      rfl
def C__law_cuts : PC := fun ts Q => ∃ (w : Web) (p : Nat), ts = [w.t, .int p] ∧ w.Ok ∧ p < w.places.length ∧ ∀ l c, DF.ends w p (DF.init w p) l c → ∀ s : List Int, s.Perm (c.map fun k => ((k : Nat) : Int)) → s.Pairwise (· ≤ ·) → Q (.f (.lt (s.map T.int)))
theorem ln__law_cuts : ∀ ts Q, C__law_cuts ts Q → ts.length = ["web", "part"].length := by rintro ts Q ⟨_, _, rfl, _⟩; rfl
def rd__law_cuts : DSt :=
  dSeq (dAsg (dLstH (dNil)) (dgN 2))
  (dSeq (dDrop (dCallS C__law_go (dCons (dVar 0) (dCons (dVar 1) (dCons (dLst (dCons (dC (.int 0)) (dNil))) (dCons (dLstH (dNil)) (dCons (dVar 2) (dNil))))))))
  (dRet (dN fSortedH (dCons (dVar 2) (dNil)))))

theorem rp__law_cuts : ∀ ts Q, C__law_cuts ts Q → rd__law_cuts ⟨FinP Q (.t .non), FinP Q, fun _ => False, fun _ => False⟩ ⟨ts.map (fun t => some (W.t t)) ++ List.replicate (3 - ts.length) none, []⟩ := by
  rintro ts Q ⟨w, p, rfl, hok, hp, hQ⟩
  have hpl := hok.2.1 _ (place_mem hp)
  unfold rd__law_cuts
  walk_at "dl"
  refine ⟨by decide, ?_⟩
  walk_at "dl"
  refine ⟨by decide, ?_⟩
  walk_at "dl"
  refine ⟨by decide, ?_⟩
  walk_at "dl"
  refine callS_go (d := 17) (w := w) (p := p) (B := []) (x := 0) (L := []) (C := []) (by decide) rfl rfl hok hp (by simp) (fun y hy => by simp at hy; omega) (by rw [List.length_nil]; omega) (by simp) fun L' C' g1 g2 g3 g4 g5 => ?_
  walk_at "dl"
  refine i_sortedH (ns := C'.map fun k => ((k : Nat) : Int)) (by rw [← castN]; rfl) fun s hp hs => ?_
  walk_at "dl"
  exact hQ L' C' (g1 [] rfl) s hp hs

end DL

namespace DL
open PySem PySem.Spec L2
local macro_rules | `(tactic| walk_at "dn") => `(tactic| simp only [purse_set2, purse_set3, purse_set4, purse_set5, purse_app, purse_len, purse_start, purse_l, G.set, G.put, G.push, G.wipe, wipeW, G.rs, rsW, List.set_cons_zero, List.set_cons_succ, List.map_cons, List.map_nil, List.length_cons, List.length_nil, List.nil_append, List.cons_append, List.replicate_succ, List.replicate_zero, Nat.reduceAdd, Nat.reduceSub, List.getD_cons_zero, List.getD_cons_succ, Option.getD_some, Option.getD_none])
local macro_rules | `(tactic| walk_at "d1") => `(tactic| first
  | with_reducible refine i_seq ?_
  | with_reducible refine i_asg ?_
  | with_reducible refine i_d2 ?_
  | ((with_reducible refine' i_var ?e ?_); (case e => rfl))
  | with_reducible refine i_c ?_
  | ((with_reducible refine' i_ix ?e ?v ?_); (case e => rfl); (case v => first | assumption | rfl))
  | with_reducible refine i_fI0 ?_
  | with_reducible refine i_gN ?_
  | with_reducible refine i_cons ?_
  | with_reducible refine i_nil ?_
  | with_reducible refine i_dN ?_
  | ((with_reducible refine' i_len ?e ?_); (case e => rfl))
  | with_reducible refine i_d1 ?_
  | with_reducible refine i_neg ?_
  | with_reducible refine i_B ?_
  | with_reducible refine o_B ?_
  | with_reducible refine o_I ?_
  | with_reducible refine i_ifS ?_
  | with_reducible refine i_or ?_
  | with_reducible refine i_and ?_
  | with_reducible refine i_not ?_
  | with_reducible refine i_andV ?_
  | with_reducible refine i_orV ?_
  | with_reducible refine i_notV ?_
  | with_reducible refine i_if ?_
  | with_reducible refine i_yes ?_
  | with_reducible refine k_T ?_
  | with_reducible refine k_F ?_
  | with_reducible refine k_True ?_
  | with_reducible refine k_False ?_
  | with_reducible refine i_eqI ?_
  | with_reducible refine i_neI ?_
  | with_reducible refine i_addI ?_
  | with_reducible refine i_addHI ?_
  | with_reducible refine i_callT ?_
  | with_reducible refine i_callH ?_
  | ((with_reducible refine' o_Ts ?e ?_); (case e => rfl))
  | with_reducible refine o_T ?_
  | ((with_reducible refine' o_TF ?e ?_); (case e => rfl))
  | with_reducible refine o_H ?_
  | ((with_reducible refine' o_HF ?e ?_); (case e => rfl))
  | with_reducible refine i_next ?_
  | with_reducible refine i_drop ?_
  | with_reducible refine i_ret ?_
  | with_reducible refine i_retN ?_
  | ((with_reducible refine' i_gTup ?e ?_); (case e => rfl))
  | with_reducible refine i_gCons ?_
  | with_reducible refine i_gNil ?_
  | with_reducible refine i_min2 ?_
  | with_reducible refine i_max2 ?_
  | with_reducible refine i_par ?_
  | with_reducible refine o_W2 ?_
  | ((with_reducible refine' i_aug ?e ?_); (case e => rfl))
  | with_reducible refine i_intI ?_
  | with_reducible refine i_intB ?_
  | with_reducible refine i_lc ?_
  | with_reducible refine i_for ?_
  | with_reducible refine i_while ?_
  | with_reducible refine i_itL ?_
  | ((with_reducible refine' o_Lq ?e ?_); (case e => rfl))
  | with_reducible refine i_itR1 ?_
  | with_reducible refine i_itR2 ?_
  | with_reducible refine o_I1 ?_
  | with_reducible refine o_I2 ?_
  | with_reducible refine e_t ?_
  | ((with_reducible refine' e_h ?e ?p ?_); (case e => rfl); (case p => rfl))
  | with_reducible refine i_M ?_
  | with_reducible refine i_M0 ?_
  | with_reducible refine i_gSub ?_
  | with_reducible refine i_finH ?_
  | with_reducible refine i_finT ?_
  | with_reducible refine i_sl ?_
  | with_reducible refine i_slH ?_
  | with_reducible refine i_slT ?_
  | with_reducible refine i_noPart ?_
  | with_reducible refine i_part ?_
  | ((with_reducible refine' i_frzT ?e ?_); (case e => rfl))
  | ((with_reducible refine' i_frzH ?e ?m ?t ?_); (case e => rfl); (case m => rfl); (case t => rfl))
  | ((with_reducible refine' i_din ?k ?e ?_); (case k => rfl); (case e => rfl))
  | ((with_reducible refine' i_dnotin ?k ?e ?_); (case k => rfl); (case e => rfl))
  | with_reducible refine i_dput ?_
  | with_reducible refine i_newD ?_
  | with_reducible refine i_lstH ?_
  | with_reducible refine i_lst ?_
  | with_reducible refine i_tup ?_
  | with_reducible refine i_break ?_
  | with_reducible refine i_cont ?_
  | with_reducible refine i_callS ?_
  | ((with_reducible refine' i_ixHW ?e ?v ?_); (case e => first | rfl | assumption); (case v => first | assumption | rfl))
  | ((with_reducible refine' i_ixHT ?e ?v ?_); (case e => first | rfl | assumption); (case v => first | assumption | rfl))
  | ((with_reducible refine' i_lenHT ?e ?_); (case e => first | rfl | assumption))
  | ((with_reducible refine' i_lenHW ?e ?_); (case e => first | rfl | assumption))
  | ((with_reducible refine' i_frzH ?e ?m ?t ?_); (case e => rfl); (case m => rfl); (case t => rfl))
  | ((with_reducible refine' i_unw ?e ?n ?_); (case e => rfl); (case n => rfl))
  | with_reducible refine i_gwCons ?_
  | with_reducible refine i_gwNil ?_
  | with_reducible refine i_lstW ?_
  | ((with_reducible refine' i_gList ?e ?n ?_); (case e => rfl); (case n => rfl))
  | with_reducible refine i_listRgH ?_
  | with_reducible refine i_listRg ?_
  | with_reducible refine i_R1 ?_
  | with_reducible refine i_getD ?_
  | ((with_reducible refine' i_none ?k ?_); (case k => rfl))
  | walk_at "dn")
local macro_rules | `(tactic| walk_at "dl") => `(tactic| ((try walk_at "dn"); repeat walk_at "d1"))
/-! stretch webs: the law -/
def C__law_marked : PC := fun ts Q => ∃ (w : Web) (p : Nat), ts = [w.t, .int p] ∧ w.Ok ∧ p < w.places.length ∧ ∀ cs, CutsOf w p cs → Q (.t (.tup [.lst ((apartR w p cs).map Row.t), .lst (apartM w p cs)]))
theorem ln__law_marked : ∀ ts Q, C__law_marked ts Q → ts.length = ["a", "b"].length := by rintro ts Q ⟨_, _, rfl, _⟩; rfl
def rd__law_marked : DSt :=
  dSeq (dAsg (dCallT C__law_cuts (dCons (dVar 0) (dCons (dVar 1) (dNil)))) (dgN 2))
  (dSeq (dAsg (dLstH (dNil)) (dgN 3))
  (dSeq (dAsg (dLstH (dNil)) (dgN 4))
  (dSeq (dFor (diR1 (dCons (dN fLen (dCons (d2 fIx (dVar 0) (dC (.int 1))) (dNil))) (dNil))) (dgN 5) (dIfS (dAnd (dB (d2 (fEq false) (d2 fIx (d2 fIx (d2 fIx (dVar 0) (dC (.int 1))) (dVar 5)) (dC (.int 0))) (dVar 1))) (dB (d2 (fIn true) (dVar 5) (dVar 2)))) (dSeq (dDrop (dM fAppend (dVar 3) (dCons (dTup (dCons (dC (.int 0)) (dCons (d2 fIx (d2 fIx (d2 fIx (dVar 0) (dC (.int 1))) (dVar 5)) (dC (.int 1))) (dCons (d2 fIx (d2 fIx (d2 fIx (dVar 0) (dC (.int 1))) (dVar 5)) (dC (.int 2))) (dCons (d1 fNeg (dC (.int 1))) (dNil)))))) (dNil))))
  (dDrop (dM fAppend (dVar 4) (dCons (dTup (dCons (dC (.str (PySem.Str.ofString "plain"))) (dCons (dVar 5) (dNil)))) (dNil))))) (dNext)))
  (dSeq (dFor (diL (dVar 2)) (dgN 5) (dSeq (dIfS (dB (d2 (fEq true) (d2 fIx (d2 fIx (d2 fIx (dVar 0) (dC (.int 1))) (dVar 5)) (dC (.int 2))) (dC (.int 0)))) (dSeq (dDrop (dM fAppend (dVar 3) (dCons (dTup (dCons (dC (.int 0)) (dCons (dC (.int 0)) (dCons (d2 fIx (d2 fIx (d2 fIx (dVar 0) (dC (.int 1))) (dVar 5)) (dC (.int 2))) (dCons (d1 fNeg (dC (.int 1))) (dNil)))))) (dNil))))
  (dDrop (dM fAppend (dVar 4) (dCons (dTup (dCons (dC (.str (PySem.Str.ofString "begin"))) (dCons (dVar 5) (dNil)))) (dNil))))) (dNext))
  (dSeq (dDrop (dM fAppend (dVar 3) (dCons (dTup (dCons (dC (.int 0)) (dCons (d2 fIx (d2 fIx (d2 fIx (dVar 0) (dC (.int 1))) (dVar 5)) (dC (.int 1))) (dCons (dC (.int 1)) (dCons (d1 fNeg (dC (.int 1))) (dNil)))))) (dNil))))
  (dDrop (dM fAppend (dVar 4) (dCons (dTup (dCons (dC (.str (PySem.Str.ofString "end"))) (dCons (dVar 5) (dNil)))) (dNil)))))))
  (dRet (dTup (dCons (dFrz 3) (dCons (dFrz 4) (dNil)))))))))

theorem rp__law_marked : ∀ ts Q, C__law_marked ts Q → rd__law_marked ⟨FinP Q (.t .non), FinP Q, fun _ => False, fun _ => False⟩ ⟨ts.map (fun t => some (W.t t)) ++ List.replicate (6 - ts.length) none, []⟩ := by
  rintro ts Q ⟨w, p, rfl, hok, hp, hQ⟩
  have h1 := hok.1
  have hol := rowsOf_len w p
  unfold rd__law_marked
  walk_at "dl"
  refine ⟨w, p, rfl, hok, hp, fun l c hd s hsp hss => ?_⟩
  obtain ⟨cs, e1, e2, hcs⟩ := cutsOf_mk hd hsp hss
  obtain ⟨l3, g⟩ := hcs.gone hok hp
  have hcr : ∀ k ∈ cs, k < w.rows.length := fun k hk => (mem_rowsOf.mp (g.cin k hk)).1
  have hcl2 : cs.length ≤ 60 := by
    have hx : cs.Nodup := g.cnd
    have := hx.length_le_of_subset (l₂ := List.range w.rows.length) fun k hk => List.mem_range.mpr (hcr k hk)
    rw [List.length_range] at this
    omega
  rw [e1]
  unfold Web.t
  walk_at "dl"
  refine ⟨by decide, ?_⟩
  walk_at "dl"
  refine ⟨by decide, ?_⟩
  walk_at "dl"
  rw [List.length_map]
  refine ⟨by constructor <;> omega, ?_⟩
  refine forG (List.range w.rows.length) (fun k => W.t (natT k)) (fun pre g' => ∃ (o5 : Option W), g' = ⟨[some (.t (.tup [.lst (w.places.map T.int), .lst (w.rows.map Row.t)])), some (.t (.int p)), some (.t (.lst (cs.map natT))), some (.h 0), some (.h 1), o5], [some (.lt (((pre.filter fun k => decide ((w.row k).p = (p : Int))).filter fun k => !decide (k ∈ cs)).map fun k => (rowA (w.row k)).t)), some (.lt (((pre.filter fun k => decide ((w.row k).p = (p : Int))).filter fun k => !decide (k ∈ cs)).map (markT "plain")))]⟩)
    (by rw [Int.toNat_natCast, rgW0]; rfl) ⟨_, rfl⟩ (fun _ _ _ => trivial) ?_ ?_
  · rintro pre k post hsp g' ⟨o5, rfl⟩ N hN
    have hk : k < w.rows.length := by
      have : k ∈ List.range w.rows.length := by rw [hsp]; simp
      exact List.mem_range.mp this
    have hr := row_at hk
    have hpl : pre.length < w.rows.length := by
      have := congrArg List.length hsp
      rw [List.length_append, List.length_cons, List.length_range] at this
      omega
    have hfl : ((pre.filter fun k => decide ((w.row k).p = (p : Int))).filter fun k => !decide (k ∈ cs)).length ≤ pre.length := Nat.le_trans (List.length_filter_le _ _) (List.length_filter_le _ _)
    have hf1 := List.filter_append (p := fun k => decide ((w.row k).p = (p : Int))) pre [k]
    have skip : ((pre ++ [k]).filter fun k => decide ((w.row k).p = (p : Int))).filter (fun k => !decide (k ∈ cs)) = (pre.filter fun k => decide ((w.row k).p = (p : Int))).filter (fun k => !decide (k ∈ cs)) ++ if (w.row k).p = (p : Int) ∧ k ∉ cs then [k] else [] := by
      rw [hf1, List.filter_append]
      by_cases c1 : (w.row k).p = (p : Int)
      · by_cases c2 : k ∈ cs
        · rw [if_neg (fun z => z.2 c2), List.filter_cons_of_pos (by simpa using c1), List.filter_nil, List.filter_cons_of_neg (by simp [c2])]
          rfl
        · rw [if_pos ⟨c1, c2⟩, List.filter_cons_of_pos (by simpa using c1), List.filter_nil, List.filter_cons_of_pos (by simp [c2])]
          rfl
      · rw [if_neg (fun z => c1 z.1), List.filter_cons_of_neg (by simpa using c1)]
        rfl
    rw [skip] at hN
    generalize (pre.filter fun k => decide ((w.row k).p = (p : Int))).filter (fun k => !decide (k ∈ cs)) = L at hfl hN
    unfold natT Row.t at *
    walk_at "dl"
    refine k_d (fun c1 => ?_) (fun c1 => ?_)
    · walk_at "dl"
      refine i_ninI (xs := cs.map fun k => ((k : Nat) : Int)) (by rw [List.map_map]; rfl) ?_
      walk_at "dl"
      refine k_n (fun c => ?_) (fun c => ?_)
      · have hkc : k ∉ cs := fun z => c (memN.mpr z)
        rw [if_pos ⟨c1, hkc⟩] at hN
        walk_at "dl"
        refine ⟨isL_lt rfl, ?_⟩
        walk_at "dl"
        refine ⟨by decide, ?_⟩
        walk_at "dl"
        refine i_append rfl (lineLt (by rw [List.length_map]; omega)) ?_
        simp only [G.put, List.set_cons_zero]
        walk_at "dl"
        refine ⟨isL_lt rfl, ?_⟩
        walk_at "dl"
        refine ⟨by decide, ?_⟩
        walk_at "dl"
        refine i_append rfl (lineLt (by rw [List.length_map]; omega)) ?_
        simp only [G.put, List.set_cons_zero, List.set_cons_succ]
        refine hN _ ⟨some (.t (.int (k : Nat))), ?_⟩
        rw [List.map_append, List.map_append]
        rfl
      · have hkc : k ∈ cs := memN.mp c
        rw [if_neg (fun z => z.2 hkc), List.append_nil] at hN
        walk_at "dl"
        exact hN _ ⟨some (.t (.int (k : Nat))), rfl⟩
    · rw [if_neg (fun z => c1 z.1), List.append_nil] at hN
      walk_at "dl"
      exact hN _ ⟨some (.t (.int (k : Nat))), rfl⟩
  · rintro g' ⟨o5, rfl⟩
    rw [show ((List.range w.rows.length).filter fun k => decide ((w.row k).p = (p : Int))).filter (fun k => !decide (k ∈ cs)) = plainK w p cs from rfl]
    have hpl : (plainK w p cs).length ≤ w.rows.length := Nat.le_trans (List.length_filter_le _ _) hol
    walk_at "dl"
    refine forG cs (fun k => W.t (natT k)) (fun pre g' => ∃ (o5 : Option W), g' = ⟨[some (.t (.tup [.lst (w.places.map T.int), .lst (w.rows.map Row.t)])), some (.t (.int p)), some (.t (.lst (cs.map natT))), some (.h 0), some (.h 1), o5], [some (.lt ((plainK w p cs).map (fun k => (rowA (w.row k)).t) ++ (pre.flatMap (cutR w)).map Row.t)), some (.lt ((plainK w p cs).map (markT "plain") ++ pre.flatMap (cutM w)))]⟩)
      (by rw [List.map_map]; rfl) ⟨o5, by simp⟩ (by rintro _ _ ⟨_, rfl⟩; rfl) ?_ ?_
    · rintro pre k post hsp g' ⟨o5, rfl⟩ N hN
      have hkr := hcr k (by rw [hsp]; simp)
      have hr := row_at hkr
      have hpl2 : pre.length < 60 := by
        have := congrArg List.length hsp
        rw [List.length_append, List.length_cons] at this
        omega
      have hf1 := flat_len (cutR w) 2 (cutR_len w) pre
      have hf2 := flat_len (cutM w) 2 (fun a => by unfold cutM; split <;> simp) pre
      have eR : (pre ++ [k]).flatMap (cutR w) = pre.flatMap (cutR w) ++ cutR w k := by rw [List.flatMap_append]; simp
      have eM : (pre ++ [k]).flatMap (cutM w) = pre.flatMap (cutM w) ++ cutM w k := by rw [List.flatMap_append]; simp
      have l1 : ((plainK w p cs).map (fun k => (rowA (w.row k)).t) ++ (pre.flatMap (cutR w)).map Row.t).length ≤ 1200 := by
        rw [List.length_append, List.length_map, List.length_map]
        omega
      have l2 : ((plainK w p cs).map (markT "plain") ++ pre.flatMap (cutM w)).length ≤ 1200 := by
        rw [List.length_append, List.length_map]
        omega
      rw [eR, eM, List.map_append, ← List.append_assoc, ← List.append_assoc] at hN
      generalize (plainK w p cs).map (fun k => (rowA (w.row k)).t) ++ (pre.flatMap (cutR w)).map Row.t = LR at l1 hN
      generalize (plainK w p cs).map (markT "plain") ++ pre.flatMap (cutM w) = LM at l2 hN
      unfold natT Row.t at *
      walk_at "dl"
      refine k_n (fun c => ?_) (fun c => ?_)
      · walk_at "dl"
        refine ⟨isL_lt rfl, ?_⟩
        walk_at "dl"
        refine ⟨by decide, ?_⟩
        walk_at "dl"
        refine i_append rfl (lineLt (by omega)) ?_
        simp only [G.put, List.set_cons_zero]
        walk_at "dl"
        refine ⟨isL_lt rfl, ?_⟩
        walk_at "dl"
        refine ⟨by decide, ?_⟩
        walk_at "dl"
        refine i_append rfl (lineLt (by omega)) ?_
        simp only [G.put, List.set_cons_zero, List.set_cons_succ]
        walk_at "dl"
        refine ⟨isL_lt rfl, ?_⟩
        walk_at "dl"
        refine ⟨by decide, ?_⟩
        walk_at "dl"
        refine i_append rfl (lineLt (by rw [List.length_append]; simp; omega)) ?_
        simp only [G.put, List.set_cons_zero]
        walk_at "dl"
        refine ⟨isL_lt rfl, ?_⟩
        walk_at "dl"
        refine ⟨by decide, ?_⟩
        walk_at "dl"
        refine i_append rfl (lineLt (by rw [List.length_append]; simp; omega)) ?_
        simp only [G.put, List.set_cons_zero, List.set_cons_succ]
        refine hN _ ⟨some (.t (.int (k : Nat))), ?_⟩
        unfold cutR cutM
        rw [if_pos c, if_pos c, List.append_assoc, List.append_assoc]
        rfl
      · walk_at "dl"
        refine ⟨isL_lt rfl, ?_⟩
        walk_at "dl"
        refine ⟨by decide, ?_⟩
        walk_at "dl"
        refine i_append rfl (lineLt (by omega)) ?_
        simp only [G.put, List.set_cons_zero]
        walk_at "dl"
        refine ⟨isL_lt rfl, ?_⟩
        walk_at "dl"
        refine ⟨by decide, ?_⟩
        walk_at "dl"
        refine i_append rfl (lineLt (by omega)) ?_
        simp only [G.put, List.set_cons_zero, List.set_cons_succ]
        refine hN _ ⟨some (.t (.int (k : Nat))), ?_⟩
        unfold cutR cutM
        rw [if_neg (fun z => z c), if_neg (fun z => z c)]
        rfl
    · rintro g' ⟨o5, rfl⟩
      walk_at "dl"
      refine ⟨by decide, ?_⟩
      have q := hQ cs hcs
      have eA : (apartR w p cs).map Row.t = (plainK w p cs).map (fun k => (rowA (w.row k)).t) ++ (cs.flatMap (cutR w)).map Row.t := by
        unfold apartR
        rw [List.map_append, List.map_map]
        rfl
      rw [eA] at q
      exact q
def C__law_right : PC := fun ts Q => ∃ (w : Web) (p : Nat) (cs : List Nat), ts = [w.t, .int p, (w.stretch p cs).t] ∧ w.Ok ∧ w.rows.length ≤ 30 ∧ p < w.places.length ∧ CutsOf w p cs ∧ Q (.t (.bl true))
theorem ln__law_right : ∀ ts Q, C__law_right ts Q → ts.length = ["a", "b", "c"].length := by rintro ts Q ⟨_, _, _, rfl, _⟩; rfl
theorem stretch_again {w : Web} {p : Nat} {cs cs' : List Nat} (hok : w.Ok) (hp : p < w.places.length) (g : ∃ l, Gone w p l cs) (h : CutsOf (w.stretch p cs) ((0 : Nat) : Int) cs') : apartR (w.stretch p cs) ((0 : Nat) : Int) cs' = apartR w p cs := by
  obtain ⟨l, g⟩ := g
  have hlo := stretch_loose hok hp g
  have := CutsOf.loose (p := ((0 : Nat) : Int)) hlo h
  subst this
  have h0 : ∀ r ∈ apartR w p cs, r.p = 0 ∧ r.c = -1 := fun r hr => by
    rcases mem_apart.mp hr with ⟨k, _, _, rfl⟩ | ⟨k, _, ⟨_, rfl⟩ | rfl⟩ <;> exact ⟨rfl, rfl⟩
  have hrow : ∀ i (hi : i < (apartR w p cs).length), (w.stretch p cs).row i = (apartR w p cs)[i] := fun i hi => by
    unfold Web.row
    show (apartR w p cs).getD i row0 = _
    rw [List.getD_eq_getElem?_getD, List.getElem?_eq_getElem hi]
    rfl
  have hall : plainK (w.stretch p cs) ((0 : Nat) : Int) [] = List.range (apartR w p cs).length := by
    unfold plainK Web.rowsOf
    rw [List.filter_eq_self.mpr (fun k _ => by simp), List.filter_eq_self.mpr]
    · rfl
    · intro k hk
      have hk' : k < (apartR w p cs).length := List.mem_range.mp hk
      rw [hrow k hk', (h0 _ (List.getElem_mem hk')).1]
      rfl
  have e : apartR (w.stretch p cs) ((0 : Nat) : Int) [] = (plainK (w.stretch p cs) ((0 : Nat) : Int) []).map (fun k => rowA ((w.stretch p cs).row k)) := by
    unfold apartR
    rw [List.flatMap_nil, List.append_nil]
  rw [e, hall]
  refine List.ext_getElem (by rw [List.length_map, List.length_range]) fun i h1 h2 => ?_
  rw [List.getElem_map, List.getElem_range, hrow i h2]
  have := h0 _ (List.getElem_mem h2)
  generalize (apartR w p cs)[i] = r at this
  obtain ⟨a, b, c, d⟩ := r
  obtain ⟨rfl, rfl⟩ := this
  rfl
def rd__law_right : DSt :=
  dSeq (dAsg (d2 fIx (dCallT C__law_marked (dCons (dVar 0) (dCons (dVar 1) (dNil)))) (dC (.int 0))) (dgN 3))
  (dSeq (dIfS (dOr (dNot (dB (dN fIsi (dCons (dVar 2) (dCons (dC (.raw (.ty "tuple"))) (dNil)))))) (dB (d2 (fEq true) (dVar 2) (dTup (dCons (dLst (dCons (d2 fIx (d2 fIx (dVar 0) (dC (.int 0))) (dVar 1)) (dNil))) (dCons (dVar 3) (dNil))))))) (dRet (dC (.bl false))) (dNext))
  (dSeq (dIfS (dOr (dNot (dB (dN fIsi (dCons (d2 fIx (dVar 2) (dC (.int 0))) (dCons (dC (.raw (.ty "list"))) (dNil)))))) (dNot (dB (dN fIsi (dCons (d2 fIx (dVar 2) (dC (.int 1))) (dCons (dC (.raw (.ty "list"))) (dNil))))))) (dRet (dC (.bl false))) (dNext))
  (dSeq (dIfS (dNot (dB (dN fAll (dCons (dLc finT (diL (d2 fIx (dVar 2) (dC (.int 1)))) (dgN 4) (dYes) (dAndV (dN fIsi (dCons (dVar 4) (dCons (dC (.raw (.ty "tuple"))) (dNil)))) (dN fAll (dCons (dLc finT (diT (dVar 4)) (dgN 5) (dYes) (dCallT C__law_whole (dCons (dVar 5) (dNil))) [5]) (dNil)))) [4]) (dNil))))) (dRet (dC (.bl false))) (dNext))
  (dSeq (dIfS (dOr (dB (d2 (fIsB true) (dCallT C_is_web (dCons (dVar 2) (dNil))) (dC (.bl true)))) (dOr (dB (d2 (fIsB true) (dCallT C_is_loose (dCons (dVar 2) (dCons (dC (.int 0)) (dNil)))) (dC (.bl true)))) (dB (d2 (fEq true) (dCallT C_cuts (dCons (dVar 2) (dCons (dC (.int 0)) (dNil)))) (dLst (dNil)))))) (dRet (dC (.bl false))) (dNext))
  (dRet (d2 (fEqN false) (dCallS C_stretch_web (dCons (dVar 2) (dCons (dC (.int 0)) (dNil)))) (dVar 2)))))))

theorem rp__law_right : ∀ ts Q, C__law_right ts Q → rd__law_right ⟨FinP Q (.t .non), FinP Q, fun _ => False, fun _ => False⟩ ⟨ts.map (fun t => some (W.t t)) ++ List.replicate (6 - ts.length) none, []⟩ := by
  rintro ts Q ⟨w, p, cs, rfl, hok, h30, hp, hcs, hQ⟩
  have hg := hcs.gone hok hp
  obtain ⟨l3, g⟩ := hg
  have hal := apart_len g
  have hsok := stretch_ok hok hp h30 g
  have hslo := stretch_loose hok hp g
  have pa := place_at (w := w) (i := (p : Int)) (by omega) (by omega)
  have hS : (w.stretch p cs).t = .tup [.lst [.int (w.place p)], .lst ((apartR w p cs).map Row.t)] := rfl
  unfold rd__law_right
  walk_at "dl"
  refine ⟨w, p, rfl, hok, hp, fun cs' hcs' => ?_⟩
  have : cs' = cs := hcs'.uniq hcs
  subst this
  walk_at "dl"
  refine i_isi (a := "tuple") (b := true) rfl rfl ?_
  walk_at "dl"
  rw [Bool.not_true]
  walk_at "dl"
  refine ⟨by decide, ?_⟩
  walk_at "dl"
  refine ⟨by decide, ?_⟩
  walk_at "dl"
  refine i_neT (u := (w.stretch p cs').t) (v := (w.stretch p cs').t) rfl rfl (sh_web _ 5) (sh_web _ 5) ?_
  rw [teq_web, Bool.not_true]
  rw [hS]
  walk_at "dl"
  refine i_isi (a := "list") (b := true) rfl rfl ?_
  walk_at "dl"
  rw [Bool.not_true]
  walk_at "dl"
  refine i_isi (a := "list") (b := true) rfl rfl ?_
  walk_at "dl"
  rw [Bool.not_true]
  walk_at "dl"
  have hrl : (apartR w p cs').length ≤ 60 := hsok.1.2.2.2
  refine lcP (apartR w p cs') (fun r => W.t r.t) (fun _ => true) (fun _ => .bl true) (by rw [List.map_map]; rfl) (lineLe (by omega)) rfl ?_ rfl ?_
  · intro r hr Y N hY hN
    unfold Row.t
    walk_at "dl"
    refine i_isi (a := "tuple") (b := true) rfl rfl ?_
    walk_at "dl"
    refine lcP [r.p, r.s, r.e, r.c] (fun x => W.t (.int x)) (fun _ => true) (fun _ => .bl true) rfl (by simp; decide) trivial ?_ rfl ?_
    · intro x hx Y2 N2 hY2 hN2
      walk_at "dl"
      refine ⟨x, rfl, ?_⟩
      exact hY2 rfl _ rfl
    show finT (([true, true, true, true].map T.bl).map W.t) _ _
    refine i_finT ?_
    walk_at "dl"
    refine i_all (ns := [true, true, true, true]) rfl ?_
    exact hY rfl _ rfl
  rw [List.filter_eq_self.mpr (fun _ _ => rfl), show ((apartR w p cs').map fun _ => T.bl true) = ((apartR w p cs').map fun _ => true).map T.bl by rw [List.map_map]; rfl]
  walk_at "dl"
  refine i_all rfl ?_
  rw [show ((apartR w p cs').map fun _ => true).all id = true by simp]
  walk_at "dl"
  rw [Bool.not_true]
  walk_at "dl"
  rw [← hS]
  refine ⟨w.stretch p cs', rfl, by show (apartR w p cs').length ≤ 1000; omega, by show 1 ≤ 1000; decide, fun _ => ?_, fun z => absurd hsok z⟩
  walk_at "dl"
  refine i_notB ?_
  rw [show (!decide (true = true)) = false from rfl]
  walk_at "dl"
  refine ⟨w.stretch p cs', 0, rfl, hsok, by show 0 < 1; decide, fun _ => ?_, fun z => absurd hslo z⟩
  walk_at "dl"
  refine i_notB ?_
  rw [show (!decide (true = true)) = false from rfl]
  walk_at "dl"
  refine ⟨w.stretch p cs', 0, rfl, hsok, by show 0 < 1; decide, fun l c hd hcl s hsp hss => ?_⟩
  have : c = [] := loose_cuts hslo hd
  subst this
  have : s = [] := hsp.eq_nil
  subst this
  walk_at "dl"
  refine ⟨by decide, ?_⟩
  refine i_neT (u := .lst []) (v := .lst []) rfl rfl (sh_ints 7 []) (sh_ints 7 []) ?_
  rw [show (!teq (T.lst []) (T.lst [])) = false by rw [show (T.lst []) = T.lst (([] : List Int).map T.int) from rfl, teq_ints]; rfl]
  walk_at "dl"
  refine callS_stretch (w := w.stretch p cs') (p := 0) hsok (by show 0 < 1; decide) fun cs2 hcs2 _ => ?_
  have hag := stretch_again hok hp ⟨l3, g⟩ hcs2
  rw [hag]
  walk_at "dl"
  refine i_eqN (u := (w.stretch p cs').t) (v := (w.stretch p cs').t) rfl rfl (sh_web _ 5) (sh_web _ 5) ?_
  rw [teq_web]
  exact e_t hQ
theorem app_at {M L : Sto} (i : Nat) : (M ++ L)[M.length + i]? = L[i]? := by
  rw [List.getElem?_append_right (by omega), Nat.add_sub_cancel_left]
theorem tree_two {g : G} {n : Nat} {us vs : List T} (e1 : g.mem[n + 0]? = some (some (.lt us))) (e2 : g.mem[n + 1]? = some (some (.lt vs))) (e3 : g.mem[n + 2]? = some (some (.tw [.h (n + 0), .h (n + 1)]))) : g.treeD 6 (.h (n + 2)) = some (.tup [.lst us, .lst vs]) := by
  have a : g.treeD 5 (.h (n + 0)) = some (.lst us) := by unfold G.treeD; rw [e1]
  have b : g.treeD 5 (.h (n + 1)) = some (.lst vs) := by unfold G.treeD; rw [e2]
  have c : allS ([W.h (n + 0), W.h (n + 1)].map (g.treeD 5)) = some [.lst us, .lst vs] := by
    show allS [g.treeD 5 (.h (n + 0)), g.treeD 5 (.h (n + 1))] = _
    rw [a, b]
    rfl
  unfold G.treeD
  rw [e3]
  dsimp only
  rw [c]
def rd_law : DSt :=
  dSeq (dAsg (dCallS C__law_purse (dCons (dVar 0) (dNil))) (dgN 1))
  (dSeq (dAsg (dCallS C__law_web (dCons (dVar 1) (dCons (dC (.bl false)) (dNil)))) (dgN 2))
  (dSeq (dAsg (dCallT C__law_copy (dCons (dVar 2) (dNil))) (dgN 3))
  (dSeq (dFor (diR1 (dCons (dN fLen (dCons (d2 fIx (dVar 2) (dC (.int 0))) (dNil))) (dNil))) (dgN 4) (dFor (diR1 (dCons (dC (.int 2)) (dNil))) (dgN 5) (dSeq (dAsg (dCallS C_stretch_web (dCons (dVar 3) (dCons (dVar 4) (dNil)))) (dgN 6))
  (dSeq (dIfS (dOr (dNot (dB (dCallN C__law_right (dCons (dVar 2) (dCons (dVar 4) (dCons (dVar 6) (dNil))))))) (dB (d2 (fEq true) (dVar 3) (dVar 2)))) (dRet (dC (.bl false))) (dNext))
  (dSeq (dDrop (dM fAppend (d2 fIxP (dVar 6) (dC (.int 0))) (dCons (dC (.int 99)) (dNil))))
  (dDrop (dM0 fClear (d2 fIxP (dVar 6) (dC (.int 1))))))))))
  (dRet (d2 (fEq false) (dVar 3) (dVar 2))))))

theorem rp_law : ∀ ws m QC, C_law ws m QC → rd_law ⟨FinS m.length QC (.t .non), FinS m.length QC, fun _ => False, fun _ => False⟩ ⟨ws.map some ++ List.replicate (7 - ws.length) none, m.map some⟩ := by
  rintro ws m QC ⟨ns, rfl, rfl, hns, hQ⟩
  unfold rd_law
  walk_at "dl"
  refine callS_purse fun cells h0 h1 => ?_
  walk_at "dl"
  refine callS_web h0 h1 (by omega) fun w t c hok hl hasc ht hc => ?_
  have hok1 := hok.1
  walk_at "dl"
  refine ⟨w, rfl, by omega, ?_⟩
  unfold Web.t
  walk_at "dl"
  rw [List.length_map]
  refine ⟨by constructor <;> omega, ?_⟩
  rw [show ((w.places.length : Nat) : Int).toNat = w.places.length from Int.toNat_natCast _]
  refine forR (List.range w.places.length) (fun k => W.t (natT k)) (fun _ g' => ∃ (M : Sto) (o4 o5 o6 : Option W), g' = ⟨[some (.t (.sq (ns.map T.int))), some (.h 0), some (.t w.t), some (.t w.t), o4, o5, o6], M⟩) (by rw [rgW0]; rfl) ⟨_, _, _, _, rfl⟩ (fun _ _ _ => trivial) ?_ ?_
  · rintro i p hp g' ⟨M, o4, o5, o6, rfl⟩ N hN
    have hp : p < w.places.length := by
      have := List.getElem?_eq_some_iff.mp hp
      obtain ⟨a, b⟩ := this
      rw [List.length_range] at a
      rw [List.getElem_range] at b
      omega
    unfold natT
    walk_at "dl"
    refine ⟨by decide, ?_⟩
    refine forR (List.range 2) (fun k => W.t (natT k)) (fun _ g' => ∃ (M : Sto) (o5 o6 : Option W), g' = ⟨[some (.t (.sq (ns.map T.int))), some (.h 0), some (.t w.t), some (.t w.t), some (.t (.int p)), o5, o6], M⟩)
      (by rw [show (2 : Int).toNat = 2 from rfl, rgW0]; rfl) ⟨M, o5, o6, rfl⟩ (fun _ _ _ => trivial) ?_ ?_
    · rintro i2 k2 hk g' ⟨M, o5, o6, rfl⟩ N2 hN2
      unfold natT
      walk_at "dl"
      refine callS_stretch (w := w) (p := p) hok hp fun cs hcs hcl => ?_
      walk_at "dl"
      have m0 := app_at (M := M) (L := [some (Cell.lt [T.int (w.place p)]), some (Cell.lt ((apartR w p cs).map Row.t)), some (Cell.tw [W.h (M.length + 0), W.h (M.length + 1)])]) 0
      have m1 := app_at (M := M) (L := [some (Cell.lt [T.int (w.place p)]), some (Cell.lt ((apartR w p cs).map Row.t)), some (Cell.tw [W.h (M.length + 0), W.h (M.length + 1)])]) 1
      have m2 := app_at (M := M) (L := [some (Cell.lt [T.int (w.place p)]), some (Cell.lt ((apartR w p cs).map Row.t)), some (Cell.tw [W.h (M.length + 0), W.h (M.length + 1)])]) 2
      generalize M ++ [some (Cell.lt [T.int (w.place p)]), some (Cell.lt ((apartR w p cs).map Row.t)), some (Cell.tw [W.h (M.length + 0), W.h (M.length + 1)])] = M2 at m0 m1 m2 ⊢
      refine i_callN ?_
      walk_at "dl"
      refine o_nest (us := [w.t, .int p, (w.stretch p cs).t]) (allS_cons (allS_cons ?_)) ?_
      · show allS [G.treeD _ 6 (.h (M.length + 2))] = _
        rw [tree_two m0 m1 m2]
        rfl
      refine ⟨w, p, cs, rfl, hok, by omega, hp, hcs, ?_⟩
      refine o_ftT rfl ?_
      walk_at "dl"
      rw [Bool.not_true]
      walk_at "dl"
      refine i_neT (x := .t w.t) (y := .t w.t) (u := w.t) (v := w.t) rfl rfl (sh_web w 5) (sh_web w 5) ?_
      rw [teq_web, Bool.not_true]
      walk_at "dl"
      refine i_ixP m2 (atI_nat (j := 0) rfl) ?_
      walk_at "dl"
      refine ⟨isL_lt m0, ?_⟩
      walk_at "dl"
      refine i_append m0 (lineLt (by show 1 ≤ 10000; decide)) ?_
      simp only [G.put]
      walk_at "dl"
      refine i_ixP (ws := [W.h (M.length + 0), W.h (M.length + 1)]) (by rw [List.getElem?_set_ne (by omega)]; exact m2) (atI_nat (j := 1) rfl) ?_
      walk_at "dl"
      refine ⟨isL_lt (us := (apartR w p cs).map Row.t) (by show (List.set _ _ _)[_]? = _; rw [List.getElem?_set_ne (by omega)]; exact m1), ?_⟩
      walk_at "dl"
      refine i_clear (us := (apartR w p cs).map Row.t) (by show (List.set _ _ _)[_]? = _; rw [List.getElem?_set_ne (by omega)]; exact m1) ?_
      simp only [G.put]
      walk_at "dl"
      exact hN2 _ ⟨_, _, _, rfl⟩
    · rintro g' ⟨M, o5, o6, rfl⟩
      walk_at "dl"
      exact hN _ ⟨_, _, _, _, rfl⟩
  · rintro g' ⟨M, o4, o5, o6, rfl⟩
    walk_at "dl"
    refine i_eqT (x := .t w.t) (y := .t w.t) (u := w.t) (v := w.t) rfl rfl (sh_web w 5) (sh_web w 5) ?_
    rw [teq_web]
    exact fin_true hQ

end DL


namespace DL
open PySem PySem.Spec PyProof.Rows L2
local macro_rules | `(tactic| walk_at "dn") => `(tactic| simp only [purse_set2, purse_set3, purse_set4, purse_set5, purse_app, purse_len, purse_start, purse_l, G.set, G.put, G.push, G.wipe, wipeW, G.rs, rsW, List.set_cons_zero, List.set_cons_succ, List.map_cons, List.map_nil, List.length_cons, List.length_nil, List.nil_append, List.cons_append, List.replicate_succ, List.replicate_zero, Nat.reduceAdd, Nat.reduceSub, List.getD_cons_zero, List.getD_cons_succ, Option.getD_some, Option.getD_none])
local macro_rules | `(tactic| walk_at "d1") => `(tactic| first
  | with_reducible refine i_seq ?_
  | with_reducible refine i_asg ?_
  | with_reducible refine i_d2 ?_
  | ((with_reducible refine' i_var ?e ?_); (case e => rfl))
  | with_reducible refine i_c ?_
  | ((with_reducible refine' i_ix ?e ?v ?_); (case e => rfl); (case v => first | assumption | rfl))
  | with_reducible refine i_fI0 ?_
  | with_reducible refine i_gN ?_
  | with_reducible refine i_cons ?_
  | with_reducible refine i_nil ?_
  | with_reducible refine i_dN ?_
  | ((with_reducible refine' i_len ?e ?_); (case e => rfl))
  | with_reducible refine i_d1 ?_
  | with_reducible refine i_neg ?_
  | with_reducible refine i_B ?_
  | with_reducible refine o_B ?_
  | with_reducible refine o_I ?_
  | with_reducible refine i_ifS ?_
  | with_reducible refine i_or ?_
  | with_reducible refine i_and ?_
  | with_reducible refine i_not ?_
  | with_reducible refine i_andV ?_
  | with_reducible refine i_orV ?_
  | with_reducible refine i_notV ?_
  | with_reducible refine i_if ?_
  | with_reducible refine i_yes ?_
  | with_reducible refine k_T ?_
  | with_reducible refine k_F ?_
  | with_reducible refine k_True ?_
  | with_reducible refine k_False ?_
  | with_reducible refine i_eqI ?_
  | with_reducible refine i_neI ?_
  | with_reducible refine i_addI ?_
  | with_reducible refine i_addHI ?_
  | with_reducible refine i_callT ?_
  | with_reducible refine i_callH ?_
  | ((with_reducible refine' o_Ts ?e ?_); (case e => rfl))
  | with_reducible refine o_T ?_
  | ((with_reducible refine' o_TF ?e ?_); (case e => rfl))
  | with_reducible refine o_H ?_
  | ((with_reducible refine' o_HF ?e ?_); (case e => rfl))
  | with_reducible refine i_next ?_
  | with_reducible refine i_drop ?_
  | with_reducible refine i_ret ?_
  | with_reducible refine i_retN ?_
  | ((with_reducible refine' i_gTup ?e ?_); (case e => rfl))
  | with_reducible refine i_gCons ?_
  | with_reducible refine i_gNil ?_
  | with_reducible refine i_min2 ?_
  | with_reducible refine i_max2 ?_
  | with_reducible refine i_par ?_
  | with_reducible refine o_W2 ?_
  | ((with_reducible refine' i_aug ?e ?_); (case e => rfl))
  | with_reducible refine i_intI ?_
  | with_reducible refine i_intB ?_
  | with_reducible refine i_lc ?_
  | with_reducible refine i_for ?_
  | with_reducible refine i_while ?_
  | with_reducible refine i_itL ?_
  | ((with_reducible refine' o_Lq ?e ?_); (case e => rfl))
  | with_reducible refine i_itR1 ?_
  | with_reducible refine i_itR2 ?_
  | with_reducible refine o_I1 ?_
  | with_reducible refine o_I2 ?_
  | with_reducible refine e_t ?_
  | ((with_reducible refine' e_h ?e ?p ?_); (case e => rfl); (case p => rfl))
  | with_reducible refine i_M ?_
  | with_reducible refine i_M0 ?_
  | with_reducible refine i_gSub ?_
  | with_reducible refine i_finH ?_
  | with_reducible refine i_finT ?_
  | with_reducible refine i_sl ?_
  | with_reducible refine i_slH ?_
  | with_reducible refine i_slT ?_
  | with_reducible refine i_noPart ?_
  | with_reducible refine i_part ?_
  | ((with_reducible refine' i_frzT ?e ?_); (case e => rfl))
  | ((with_reducible refine' i_frzH ?e ?m ?t ?_); (case e => rfl); (case m => rfl); (case t => rfl))
  | ((with_reducible refine' i_din ?k ?e ?_); (case k => rfl); (case e => rfl))
  | ((with_reducible refine' i_dnotin ?k ?e ?_); (case k => rfl); (case e => rfl))
  | with_reducible refine i_dput ?_
  | with_reducible refine i_newD ?_
  | with_reducible refine i_lstH ?_
  | with_reducible refine i_lst ?_
  | with_reducible refine i_tup ?_
  | with_reducible refine i_break ?_
  | with_reducible refine i_cont ?_
  | with_reducible refine i_callS ?_
  | ((with_reducible refine' i_ixHW ?e ?v ?_); (case e => first | rfl | assumption); (case v => first | assumption | rfl))
  | ((with_reducible refine' i_ixHT ?e ?v ?_); (case e => first | rfl | assumption); (case v => first | assumption | rfl))
  | ((with_reducible refine' i_lenHT ?e ?_); (case e => first | rfl | assumption))
  | ((with_reducible refine' i_lenHW ?e ?_); (case e => first | rfl | assumption))
  | ((with_reducible refine' i_frzH ?e ?m ?t ?_); (case e => rfl); (case m => rfl); (case t => rfl))
  | ((with_reducible refine' i_unw ?e ?n ?_); (case e => rfl); (case n => rfl))
  | with_reducible refine i_gwCons ?_
  | with_reducible refine i_gwNil ?_
  | with_reducible refine i_lstW ?_
  | ((with_reducible refine' i_gList ?e ?n ?_); (case e => rfl); (case n => rfl))
  | with_reducible refine i_listRgH ?_
  | with_reducible refine i_listRg ?_
  | with_reducible refine i_R1 ?_
  | with_reducible refine i_getD ?_
  | ((with_reducible refine' i_none ?k ?_); (case k => rfl))
  | walk_at "dn")
local macro_rules | `(tactic| walk_at "dl") => `(tactic| ((try walk_at "dn"); repeat walk_at "d1"))
def topS (i : Nat) : Stmt := PySem.Challenge.pw_fewcounters_k51_whole_stretch_webs.main.body.getD i (.Pass ⟨0, 0, 0, 0⟩)
structure Mi (mg : Str → Option Value) : Prop where
  h_set : mg "set" = none
  m_MOST_PLACES : ∃ tk : Tok, mg "MOST_PLACES" = some (.int 16 tk)
  m_MOST_PARTS : ∃ tk : Tok, mg "MOST_PARTS" = some (.int 4 tk)
  m_MOST_ROWS : ∃ tk : Tok, mg "MOST_ROWS" = some (.int 60 tk)
abbrev s__law_purse : Stmt := topS 25
theorem sc__law_purse : FnScope ["_law_script", "_law_cells"] ["_law_script"] (defScope s__law_purse) := ⟨rfl, rfl, rfl, by decide +kernel, rfl, by decide +kernel, by decide +kernel⟩
theorem kn__law_purse {P : Program} {w : World} {K : PySem.W.Frag} {mg : Str → Option Value} {base : Heap} {k : Nat} (B : Bi mg) (M : Mi mg) (O : Ow K mg "_law_purse" s__law_purse ["_law_script"])  : Kn P w K mg base (k + 1) "_law_purse" ["_law_script"] C__law_purse := by
  obtain ⟨f, fd, F, gm, bd⟩ := O.ex
  refine ⟨f, fd, dfn_ok F sc__law_purse ln__law_purse ?_, gm, F.kp, bd⟩
  intro cdv A outer s H E hr
  exact ⟨_, rd__law_purse, dss_cons (ds_set 1 sc__law_purse.nd (de_slH (de_var 0) (do_none) (do_some (de_int))))
  (dss_cons (ds_if (dt_eq hr (de_var 1) (de_lst (da_nil))) (dss_one (ds_set 1 sc__law_purse.nd (de_lstH (da_cons (de_int) (da_nil))))) (dss_nil))
  (dss_one (ds_ret (de_lstW (da_cons (de_var 1) (da_cons (de_int) (da_nil))))))), rp__law_purse⟩

abbrev s__law_draw : Stmt := topS 26
theorem sc__law_draw : FnScope ["_law_purse_here", "_law_out_of", "_law_cells", "_law_turn", "_law_at", "_law_cell", "_law_number"] ["_law_purse_here", "_law_out_of"] (defScope s__law_draw) := ⟨rfl, rfl, rfl, by decide +kernel, rfl, by decide +kernel, by decide +kernel⟩
theorem kn__law_draw {P : Program} {w : World} {K : PySem.W.Frag} {mg : Str → Option Value} {base : Heap} {k : Nat} (B : Bi mg) (M : Mi mg) (O : Ow K mg "_law_draw" s__law_draw ["_law_purse_here", "_law_out_of"])  : Kn P w K mg base (k + 1) "_law_draw" ["_law_purse_here", "_law_out_of"] C__law_draw := by
  obtain ⟨f, fd, F, gm, bd⟩ := O.ex
  refine ⟨f, fd, dfn_ok F sc__law_draw ln__law_draw ?_, gm, F.kp, bd⟩
  intro cdv A outer s H E hr
  exact ⟨_, rd__law_draw, dss_cons (ds_asg (de_var 0) (dg_unw rfl (dgw_cons (dg_name 2 sc__law_draw.nd) (dgw_cons (dg_name 3 sc__law_draw.nd) (dgw_nil)))))
  (dss_cons (ds_set 4 sc__law_draw.nd (de_mod (de_var 3) (de_len B.h_len (da_cons (de_var 2) (da_nil)))))
  (dss_cons (ds_set 5 sc__law_draw.nd (de_ix (de_var 2) (de_var 4)))
  (dss_cons (ds_asg (de_add (de_var 3) (de_int)) (dg_sub (de_var 0) (de_int)))
  (dss_cons (ds_if (dt_ge (de_var 5) (de_pow (de_int) (de_int))) (dss_cons (ds_asg (de_fdivW (de_var 5) (de_var 1)) (dg_sub (de_var 2) (de_var 4)))
  (dss_one (ds_ret (de_mod (de_var 5) (de_var 1))))) (dss_nil))
  (dss_cons (ds_set 6 sc__law_draw.nd (de_mod (de_add (de_add (de_mul (de_var 5) (de_int)) (de_mul (de_mul (de_var 3) (de_var 3)) (de_int))) (de_int)) (de_int)))
  (dss_cons (ds_set 6 sc__law_draw.nd (de_mod (de_mul (de_var 6) (de_var 6)) (de_int)))
  (dss_one (ds_ret (de_mod (de_mod (de_mul (de_var 6) (de_var 6)) (de_int)) (de_var 1)))))))))), rp__law_draw⟩

abbrev s__law_order : Stmt := topS 27
theorem sc__law_order : FnScope ["_law_purse_here", "_law_many", "_law_found", "_law_k"] ["_law_purse_here", "_law_many"] (defScope s__law_order) := ⟨rfl, rfl, rfl, by decide +kernel, rfl, by decide +kernel, by decide +kernel⟩
theorem kn__law_order {P : Program} {w : World} {K : PySem.W.Frag} {mg : Str → Option Value} {base : Heap} {k : Nat} (B : Bi mg) (M : Mi mg) (O : Ow K mg "_law_order" s__law_order ["_law_purse_here", "_law_many"]) (G__law_draw : Kn P w K mg base k "_law_draw" ["_law_purse_here", "_law_out_of"] C__law_draw) : Kn P w K mg base (k + 1) "_law_order" ["_law_purse_here", "_law_many"] C__law_order := by
  obtain ⟨f, fd, F, gm, bd⟩ := O.ex
  obtain ⟨f__law_draw, fd__law_draw, ok__law_draw, mg__law_draw, kp__law_draw, bd__law_draw⟩ := G__law_draw.ex
  refine ⟨f, fd, dfn_ok F sc__law_order ln__law_order ?_, gm, F.kp, bd⟩
  intro cdv A outer s H E hr
  exact ⟨_, rd__law_order, dss_cons (ds_set 2 sc__law_order.nd (de_lstH (da_nil)))
  (dss_cons (ds_for rfl (di_range1 B.h_range (da_cons (de_var 1) (da_nil))) (dg_name 3 sc__law_order.nd) (dss_one (ds_expr (de_insert (de_var 2) (da_cons (de_callS ok__law_draw hr mg__law_draw kp__law_draw bd__law_draw (da_cons (de_var 0) (da_cons (de_add (de_var 3) (de_int)) (da_nil)))) (da_cons (de_var 3) (da_nil)))))))
  (dss_one (ds_ret (de_var 2)))), rp__law_order⟩

abbrev s__law_part : Stmt := topS 28
theorem sc__law_part : FnScope ["_law_purse_here", "_law_many", "_law_loose", "_law_order_here", "_law_rows", "_law_k", "_law_size", "_law_at", "_law_one", "_law_other", "_law_low", "_law_names", "_law_place"] ["_law_purse_here", "_law_many", "_law_loose"] (defScope s__law_part) := ⟨rfl, rfl, rfl, by decide +kernel, rfl, by decide +kernel, by decide +kernel⟩
theorem kn__law_part {P : Program} {w : World} {K : PySem.W.Frag} {mg : Str → Option Value} {base : Heap} {k : Nat} (B : Bi mg) (M : Mi mg) (O : Ow K mg "_law_part" s__law_part ["_law_purse_here", "_law_many", "_law_loose"]) (G__law_draw : Kn P w K mg base k "_law_draw" ["_law_purse_here", "_law_out_of"] C__law_draw) (G__law_order : Kn P w K mg base k "_law_order" ["_law_purse_here", "_law_many"] C__law_order) : Kn P w K mg base (k + 1) "_law_part" ["_law_purse_here", "_law_many", "_law_loose"] C__law_part := by
  obtain ⟨f, fd, F, gm, bd⟩ := O.ex
  obtain ⟨f__law_draw, fd__law_draw, ok__law_draw, mg__law_draw, kp__law_draw, bd__law_draw⟩ := G__law_draw.ex
  obtain ⟨f__law_order, fd__law_order, ok__law_order, mg__law_order, kp__law_order, bd__law_order⟩ := G__law_order.ex
  refine ⟨f, fd, dfn_ok F sc__law_part ln__law_part ?_, gm, F.kp, bd⟩
  intro cdv A outer s H E hr
  exact ⟨_, rd__law_part, dss_cons (ds_set 3 sc__law_part.nd (de_lstH (da_cons (de_int) (da_cons (de_int) (da_nil)))))
  (dss_cons (ds_set 4 sc__law_part.nd (de_lstH (da_cons (de_lst (da_cons (de_int) (da_cons (de_int) (da_nil)))) (da_nil))))
  (dss_cons (ds_for rfl (di_range1 B.h_range (da_cons (de_var 1) (da_nil))) (dg_name 5 sc__law_part.nd) (dss_cons (ds_set 6 sc__law_part.nd (de_len B.h_len (da_cons (de_var 3) (da_nil))))
  (dss_one (ds_if (dt_w (dw_and (dt_lt (de_var 6) (de_int)) (dw_and1 (dt_eq hr (de_callS ok__law_draw hr mg__law_draw kp__law_draw bd__law_draw (da_cons (de_var 0) (da_cons (de_int) (da_nil)))) (de_int))))) (dss_cons (ds_set 7 sc__law_part.nd (de_callS ok__law_draw hr mg__law_draw kp__law_draw bd__law_draw (da_cons (de_var 0) (da_cons (de_len B.h_len (da_cons (de_var 4) (da_nil))) (da_nil)))))
  (dss_cons (ds_asg (de_ix (de_var 4) (de_var 7)) (dg_list rfl (dgs_cons (dg_name 8 sc__law_part.nd) (dgs_cons (dg_name 9 sc__law_part.nd) (dgs_nil)))))
  (dss_cons (ds_if (dt_val (de_var 2)) (dss_cons (ds_set 10 sc__law_part.nd (de_index (de_var 3) (da_cons (de_var 8) (da_nil))))
  (dss_one (ds_expr (de_insert (de_var 3) (da_cons (de_add (de_add (de_var 10) (de_int)) (de_callS ok__law_draw hr mg__law_draw kp__law_draw bd__law_draw (da_cons (de_var 0) (da_cons (de_sub (de_index (de_var 3) (da_cons (de_var 9) (da_nil))) (de_var 10)) (da_nil))))) (da_cons (de_var 6) (da_nil))))))) (dss_one (ds_expr (de_insert (de_var 3) (da_cons (de_add (de_int) (de_callS ok__law_draw hr mg__law_draw kp__law_draw bd__law_draw (da_cons (de_var 0) (da_cons (de_sub (de_var 6) (de_int)) (da_nil))))) (da_cons (de_var 6) (da_nil)))))))
  (dss_cons (ds_asg (de_lst (da_cons (de_var 8) (da_cons (de_var 6) (da_nil)))) (dg_sub (de_var 4) (de_var 7)))
  (dss_one (ds_expr (de_append (de_var 4) (da_cons (de_lst (da_cons (de_var 6) (da_cons (de_var 9) (da_nil)))) (da_nil))))))))) (dss_one (ds_if (dt_val (de_var 2)) (dss_cons (ds_set 10 sc__law_part.nd (de_callS ok__law_draw hr mg__law_draw kp__law_draw bd__law_draw (da_cons (de_var 0) (da_cons (de_sub (de_var 6) (de_int)) (da_nil)))))
  (dss_one (ds_expr (de_append (de_var 4) (da_cons (de_lst (da_cons (de_ix (de_var 3) (de_var 10)) (da_cons (de_ix (de_var 3) (de_add (de_add (de_var 10) (de_int)) (de_callS ok__law_draw hr mg__law_draw kp__law_draw bd__law_draw (da_cons (de_var 0) (da_cons (de_sub (de_sub (de_var 6) (de_int)) (de_var 10)) (da_nil)))))) (da_nil)))) (da_nil)))))) (dss_one (ds_expr (de_append (de_var 4) (da_cons (de_lst (da_cons (de_ix (de_var 3) (de_callS ok__law_draw hr mg__law_draw kp__law_draw bd__law_draw (da_cons (de_var 0) (da_cons (de_sub (de_var 6) (de_int)) (da_nil))))) (da_cons (de_ix (de_var 3) (de_callS ok__law_draw hr mg__law_draw kp__law_draw bd__law_draw (da_cons (de_var 0) (da_cons (de_var 6) (da_nil))))) (da_nil)))) (da_nil)))))))))))
  (dss_cons (ds_set 11 sc__law_part.nd (de_add (de_lst (da_cons (de_int) (da_cons (de_int) (da_nil)))) (de_lcU (fin := finT) (own := [("_law_place", 12)]) fin_T rfl sc__law_part.nd (di_list (de_callS ok__law_order hr mg__law_order kp__law_order bd__law_order (da_cons (de_var 0) (da_cons (de_sub (de_len B.h_len (da_cons (de_var 3) (da_nil))) (de_int)) (da_nil))))) (blkOk_by (own := [("_law_place", 12)]) (N := ["_law_purse_here", "_law_many", "_law_loose", "_law_order_here", "_law_rows", "_law_k", "_law_size", "_law_at", "_law_one", "_law_other", "_law_low", "_law_names", "_law_place"]) (sc := defScope s__law_part) (by decide +kernel)) (fun _ _ _ _ _ => ⟨_, cg_name 12 sc__law_part.nd⟩) (fun _ _ _ _ _ => ⟨_, dts_nil⟩) (fun _ _ _ _ _ => ⟨_, de_add (de_int) (de_var 12)⟩) s)))
  (dss_one (ds_ret (de_tup (da_cons (de_len B.h_len (da_cons (de_var 3) (da_nil))) (da_cons (de_lcU (fin := finT) (own := [("_law_one", 8), ("_law_other", 9)]) fin_T rfl sc__law_part.nd (di_list (de_var 4)) (blkOk_by (own := [("_law_one", 8), ("_law_other", 9)]) (N := ["_law_purse_here", "_law_many", "_law_loose", "_law_order_here", "_law_rows", "_law_k", "_law_size", "_law_at", "_law_one", "_law_other", "_law_low", "_law_names", "_law_place"]) (sc := defScope s__law_part) (by decide +kernel)) (fun _ _ _ _ _ => ⟨_, cg_list rfl (cgs_cons (cg_name 8 sc__law_part.nd) (cgs_cons (cg_name 9 sc__law_part.nd) (cgs_nil)))⟩) (fun _ _ _ _ _ => ⟨_, dts_nil⟩) (fun _ _ _ _ _ => ⟨_, de_lst (da_cons (de_ix (de_var 11) (de_var 8)) (da_cons (de_ix (de_var 11) (de_var 9)) (da_nil)))⟩) s) (da_nil))))))))), rp__law_part⟩

abbrev s__law_called : Stmt := topS 29
theorem sc__law_called : FnScope ["_law_purse_here", "_law_rows", "_law_parts", "_law_free", "_law_part_here", "_law_some", "_law_k", "_law_later", "_law_pick"] ["_law_purse_here", "_law_rows", "_law_parts"] (defScope s__law_called) := ⟨rfl, rfl, rfl, by decide +kernel, rfl, by decide +kernel, by decide +kernel⟩
theorem kn__law_called {P : Program} {w : World} {K : PySem.W.Frag} {mg : Str → Option Value} {base : Heap} {k : Nat} (B : Bi mg) (M : Mi mg) (O : Ow K mg "_law_called" s__law_called ["_law_purse_here", "_law_rows", "_law_parts"]) (G__law_draw : Kn P w K mg base k "_law_draw" ["_law_purse_here", "_law_out_of"] C__law_draw) : Kn P w K mg base (k + 1) "_law_called" ["_law_purse_here", "_law_rows", "_law_parts"] C__law_called := by
  obtain ⟨f, fd, F, gm, bd⟩ := O.ex
  obtain ⟨f__law_draw, fd__law_draw, ok__law_draw, mg__law_draw, kp__law_draw, bd__law_draw⟩ := G__law_draw.ex
  refine ⟨f, fd, dfn_ok F sc__law_called ln__law_called ?_, gm, F.kp, bd⟩
  intro cdv A outer s H E hr
  exact ⟨_, rd__law_called, dss_cons (ds_set 3 sc__law_called.nd (de_listRgH rfl B.h_list (dr_1 B.h_range (de_len B.h_len (da_cons (de_var 1) (da_nil))))))
  (dss_cons (ds_for rfl (di_range2 B.h_range (da_cons (de_int) (da_cons (de_var 2) (da_nil)))) (dg_name 4 sc__law_called.nd) (dss_cons (ds_setLcU 5 (fin := finT) (own := [("_law_k", 6)]) fin_T rfl sc__law_called.nd (di_list (de_var 3)) (blkOk_by (own := [("_law_k", 6)]) (N := ["_law_purse_here", "_law_rows", "_law_parts", "_law_free", "_law_part_here", "_law_some", "_law_k", "_law_later", "_law_pick"]) (sc := defScope s__law_called) (by decide +kernel)) (fun _ _ _ _ _ => ⟨_, cg_name 6 sc__law_called.nd⟩) (fun _ _ _ _ _ => ⟨_, dts_one (dt_lt (de_ix (de_ix (de_var 1) (de_var 6)) (de_int)) (de_var 4))⟩) (fun _ _ _ _ _ => ⟨_, de_var 6⟩) s)
  (dss_cons (ds_set 6 sc__law_called.nd (de_ix (de_var 5) (de_callS ok__law_draw hr mg__law_draw kp__law_draw bd__law_draw (da_cons (de_var 0) (da_cons (de_len B.h_len (da_cons (de_var 5) (da_nil))) (da_nil))))))
  (dss_cons (ds_asg (de_var 4) (dg_sub (de_ix (de_var 1) (de_var 6)) (de_int)))
  (dss_one (ds_expr (de_remove (de_var 3) (da_cons (de_var 6) (da_nil)))))))))
  (dss_one (ds_for rfl (di_list (de_var 3)) (dg_name 6 sc__law_called.nd) (dss_cons (ds_set 7 sc__law_called.nd (de_sub (de_sub (de_var 2) (de_int)) (de_ix (de_ix (de_var 1) (de_var 6)) (de_int))))
  (dss_cons (ds_set 8 sc__law_called.nd (de_callS ok__law_draw hr mg__law_draw kp__law_draw bd__law_draw (da_cons (de_var 0) (da_cons (de_add (de_mul (de_int) (de_var 7)) (de_int)) (da_nil)))))
  (dss_one (ds_if (dt_lt (de_var 8) (de_var 7)) (dss_one (ds_asg (de_add (de_add (de_ix (de_ix (de_var 1) (de_var 6)) (de_int)) (de_int)) (de_var 8)) (dg_sub (de_ix (de_var 1) (de_var 6)) (de_int)))) (dss_nil)))))))), rp__law_called⟩

abbrev s__law_web : Stmt := topS 30
theorem sc__law_web : FnScope ["_law_purse_here", "_law_loose", "_law_parts", "_law_left", "_law_places", "_law_rows", "_law_part_here", "_law_many", "_law_size", "_law_told", "_law_one", "_law_other", "_law_k"] ["_law_purse_here", "_law_loose"] (defScope s__law_web) := ⟨rfl, rfl, rfl, by decide +kernel, rfl, by decide +kernel, by decide +kernel⟩
theorem kn__law_web {P : Program} {w : World} {K : PySem.W.Frag} {mg : Str → Option Value} {base : Heap} {k : Nat} (B : Bi mg) (M : Mi mg) (O : Ow K mg "_law_web" s__law_web ["_law_purse_here", "_law_loose"]) (G__law_draw : Kn P w K mg base k "_law_draw" ["_law_purse_here", "_law_out_of"] C__law_draw) (G__law_part : Kn P w K mg base k "_law_part" ["_law_purse_here", "_law_many", "_law_loose"] C__law_part) (G__law_called : Kn P w K mg base k "_law_called" ["_law_purse_here", "_law_rows", "_law_parts"] C__law_called) (G__law_order : Kn P w K mg base k "_law_order" ["_law_purse_here", "_law_many"] C__law_order) : Kn P w K mg base (k + 1) "_law_web" ["_law_purse_here", "_law_loose"] C__law_web := by
  obtain ⟨f, fd, F, gm, bd⟩ := O.ex
  obtain ⟨f__law_draw, fd__law_draw, ok__law_draw, mg__law_draw, kp__law_draw, bd__law_draw⟩ := G__law_draw.ex
  obtain ⟨f__law_part, fd__law_part, ok__law_part, mg__law_part, kp__law_part, bd__law_part⟩ := G__law_part.ex
  obtain ⟨f__law_called, fd__law_called, ok__law_called, mg__law_called, kp__law_called, bd__law_called⟩ := G__law_called.ex
  obtain ⟨f__law_order, fd__law_order, ok__law_order, mg__law_order, kp__law_order, bd__law_order⟩ := G__law_order.ex
  refine ⟨f, fd, dfn_ok F sc__law_web ln__law_web ?_, gm, F.kp, bd⟩
  intro cdv A outer s H E hr
  exact ⟨_, rd__law_web, dss_cons (ds_set 2 sc__law_web.nd (de_add (de_int) (de_callS ok__law_draw hr mg__law_draw kp__law_draw bd__law_draw (da_cons (de_var 0) (da_cons (de_int) (da_nil))))))
  (dss_cons (ds_set 3 sc__law_web.nd (de_sub (de_int) (de_var 2)))
  (dss_cons (ds_set 4 sc__law_web.nd (de_lstH (da_nil)))
  (dss_cons (ds_set 5 sc__law_web.nd (de_lstW (da_nil)))
  (dss_cons (ds_for rfl (di_range1 B.h_range (da_cons (de_var 2) (da_nil))) (dg_name 6 sc__law_web.nd) (dss_cons (ds_set 7 sc__law_web.nd (de_min rfl B.h_min (da_cons (de_var 3) (da_cons (de_callS ok__law_draw hr mg__law_draw kp__law_draw bd__law_draw (da_cons (de_var 0) (da_cons (de_ix (de_lst (da_cons (de_int) (da_cons (de_int) (da_cons (de_int) (da_nil))))) (de_callS ok__law_draw hr mg__law_draw kp__law_draw bd__law_draw (da_cons (de_var 0) (da_cons (de_int) (da_nil))))) (da_nil)))) (da_nil)))))
  (dss_cons (ds_set 3 sc__law_web.nd (de_sub (de_var 3) (de_var 7)))
  (dss_cons (ds_asg (de_callS ok__law_part hr mg__law_part kp__law_part bd__law_part (da_cons (de_var 0) (da_cons (de_var 7) (da_cons (de_var 1) (da_nil))))) (dg_tup rfl (dgs_cons (dg_name 8 sc__law_web.nd) (dgs_cons (dg_name 9 sc__law_web.nd) (dgs_nil)))))
  (dss_cons (ds_expr (de_append (de_var 4) (da_cons (de_var 8) (da_nil))))
  (dss_one (ds_set 5 sc__law_web.nd (de_addW (de_var 5) (de_lcU (fin := finW) (own := [("_law_one", 10), ("_law_other", 11)]) fin_W rfl sc__law_web.nd (di_list (de_var 9)) (blkOk_by (own := [("_law_one", 10), ("_law_other", 11)]) (N := ["_law_purse_here", "_law_loose", "_law_parts", "_law_left", "_law_places", "_law_rows", "_law_part_here", "_law_many", "_law_size", "_law_told", "_law_one", "_law_other", "_law_k"]) (sc := defScope s__law_web) (by decide +kernel)) (fun _ _ _ _ _ => ⟨_, cg_list rfl (cgs_cons (cg_name 10 sc__law_web.nd) (cgs_cons (cg_name 11 sc__law_web.nd) (cgs_nil)))⟩) (fun _ _ _ _ _ => ⟨_, dts_nil⟩) (fun _ _ _ _ _ => ⟨_, de_lstH (da_cons (de_var 6) (da_cons (de_var 10) (da_cons (de_var 11) (da_cons (de_neg (de_int)) (da_nil)))))⟩) s)))))))))
  (dss_cons (ds_expr (de_callS ok__law_called hr mg__law_called kp__law_called bd__law_called (da_cons (de_var 0) (da_cons (de_var 5) (da_cons (de_var 2) (da_nil))))))
  (dss_one (ds_ret (de_tup (da_cons (de_frz 4) (da_cons (de_lcU (fin := finT) (own := [("_law_k", 12)]) fin_T rfl sc__law_web.nd (di_list (de_callS ok__law_order hr mg__law_order kp__law_order bd__law_order (da_cons (de_var 0) (da_cons (de_len B.h_len (da_cons (de_var 5) (da_nil))) (da_nil))))) (blkOk_by (own := [("_law_k", 12)]) (N := ["_law_purse_here", "_law_loose", "_law_parts", "_law_left", "_law_places", "_law_rows", "_law_part_here", "_law_many", "_law_size", "_law_told", "_law_one", "_law_other", "_law_k"]) (sc := defScope s__law_web) (by decide +kernel)) (fun _ _ _ _ _ => ⟨_, cg_name 12 sc__law_web.nd⟩) (fun _ _ _ _ _ => ⟨_, dts_nil⟩) (fun _ _ _ _ _ => ⟨_, de_tupOf B.h_tuple (da_cons (de_ix (de_var 5) (de_var 12)) (da_nil))⟩) s) (da_nil))))))))))), rp__law_web⟩

abbrev s__law_copy : Stmt := topS 31
theorem sc__law_copy : FnScope ["_law_web_here", "_law_row"] ["_law_web_here"] (defScope s__law_copy) := ⟨rfl, rfl, rfl, by decide +kernel, rfl, by decide +kernel, by decide +kernel⟩
theorem kn__law_copy {P : Program} {w : World} {K : PySem.W.Frag} {mg : Str → Option Value} {base : Heap} {k : Nat} (B : Bi mg) (M : Mi mg) (O : Ow K mg "_law_copy" s__law_copy ["_law_web_here"])  : Kn P w K mg base (k + 1) "_law_copy" ["_law_web_here"] C__law_copy.s := by
  obtain ⟨f, fd, F, gm, bd⟩ := O.ex
  refine ⟨f, fd, pfn_ok F sc__law_copy ln__law_copy ?_, gm, F.kp, bd⟩
  intro cdv A outer s H E hr
  exact ⟨_, rd__law_copy, dss_one (ds_ret (de_tup (da_cons (de_listOf B.h_list (da_cons (de_ix (de_var 0) (de_int)) (da_nil))) (da_cons (de_lcU (fin := finT) (own := [("_law_row", 1)]) fin_T rfl sc__law_copy.nd (di_list (de_ix (de_var 0) (de_int))) (blkOk_by (own := [("_law_row", 1)]) (N := ["_law_web_here", "_law_row"]) (sc := defScope s__law_copy) (by decide +kernel)) (fun _ _ _ _ _ => ⟨_, cg_name 1 sc__law_copy.nd⟩) (fun _ _ _ _ _ => ⟨_, dts_nil⟩) (fun _ _ _ _ _ => ⟨_, de_tupOf B.h_tuple (da_cons (de_listOf B.h_list (da_cons (de_var 1) (da_nil))) (da_nil))⟩) s) (da_nil))))), rp__law_copy⟩

abbrev s_fits_row : Stmt := topS 10
theorem sc_fits_row : FnScope ["web", "row", "places", "rows", "part", "start", "end", "calls"] ["web", "row"] (defScope s_fits_row) := ⟨rfl, rfl, rfl, by decide +kernel, rfl, by decide +kernel, by decide +kernel⟩
theorem kn_fits_row {P : Program} {w : World} {K : PySem.W.Frag} {mg : Str → Option Value} {base : Heap} {k : Nat} (B : Bi mg) (M : Mi mg) (O : Ow K mg "fits_row" s_fits_row ["web", "row"])  : Kn P w K mg base (k + 1) "fits_row" ["web", "row"] C_fits_row.s := by
  obtain ⟨f, fd, F, gm, bd⟩ := O.ex
  refine ⟨f, fd, pfn_ok F sc_fits_row ln_fits_row ?_, gm, F.kp, bd⟩
  intro cdv A outer s H E hr
  exact ⟨_, rd_fits_row, dss_cons (ds_asg (de_var 0) (dg_tup rfl (dgs_cons (dg_name 2 sc_fits_row.nd) (dgs_cons (dg_name 3 sc_fits_row.nd) (dgs_nil)))))
  (dss_cons (ds_asg (de_var 1) (dg_tup rfl (dgs_cons (dg_name 4 sc_fits_row.nd) (dgs_cons (dg_name 5 sc_fits_row.nd) (dgs_cons (dg_name 6 sc_fits_row.nd) (dgs_cons (dg_name 7 sc_fits_row.nd) (dgs_nil)))))))
  (dss_cons (ds_if (dt_w (dw_or (dt_lt (de_var 4) (de_int)) (dw_or (dt_ge (de_var 4) (de_len B.h_len (da_cons (de_var 2) (da_nil)))) (dw_or (dt_lt (de_min rfl B.h_min (da_cons (de_var 5) (da_cons (de_var 6) (da_nil)))) (de_int)) (dw_or1 (dt_ge (de_max rfl B.h_max (da_cons (de_var 5) (da_cons (de_var 6) (da_nil)))) (de_ix (de_var 2) (de_var 4)))))))) (dss_one (ds_ret (de_bl))) (dss_nil))
  (dss_one (ds_ret (de_and (de_ne hr (de_var 5) (de_int)) (de_and (de_lt (de_var 7) (de_len B.h_len (da_cons (de_var 2) (da_nil)))) (de_one (de_or (de_eq hr (de_var 7) (de_neg (de_int))) (de_one (de_gt (de_var 7) (de_var 4))))))))))), rp_fits_row⟩

abbrev s_rows_of : Stmt := topS 8
theorem sc_rows_of : FnScope ["web", "part", "k"] ["web", "part"] (defScope s_rows_of) := ⟨rfl, rfl, rfl, by decide +kernel, rfl, by decide +kernel, by decide +kernel⟩
theorem kn_rows_of {P : Program} {w : World} {K : PySem.W.Frag} {mg : Str → Option Value} {base : Heap} {k : Nat} (B : Bi mg) (M : Mi mg) (O : Ow K mg "rows_of" s_rows_of ["web", "part"])  : Kn P w K mg base (k + 1) "rows_of" ["web", "part"] C_rows_of.s := by
  obtain ⟨f, fd, F, gm, bd⟩ := O.ex
  refine ⟨f, fd, pfn_ok F sc_rows_of ln_rows_of ?_, gm, F.kp, bd⟩
  intro cdv A outer s H E hr
  exact ⟨_, rd_rows_of, dss_one (ds_ret (de_lcU (fin := finH) (own := [("k", 2)]) fin_H rfl sc_rows_of.nd (di_range1 B.h_range (da_cons (de_len B.h_len (da_cons (de_ix (de_var 0) (de_int)) (da_nil))) (da_nil))) (blkOk_by (own := [("k", 2)]) (N := ["web", "part", "k"]) (sc := defScope s_rows_of) (by decide +kernel)) (fun _ _ _ _ _ => ⟨_, cg_name 2 sc_rows_of.nd⟩) (fun _ _ _ _ _ => ⟨_, dts_one (dt_eq hr (de_ix (de_ix (de_ix (de_var 0) (de_int)) (de_var 2)) (de_int)) (de_var 1))⟩) (fun _ _ _ _ _ => ⟨_, de_var 2⟩) s)), rp_rows_of⟩

abbrev s_reached : Stmt := topS 9
theorem sc_reached : FnScope ["web", "part", "start", "turned", "found", "many", "k", "one", "other"] ["web", "part", "start", "turned"] (defScope s_reached) := ⟨rfl, rfl, rfl, by decide +kernel, rfl, by decide +kernel, by decide +kernel⟩
theorem kn_reached {P : Program} {w : World} {K : PySem.W.Frag} {mg : Str → Option Value} {base : Heap} {k : Nat} (B : Bi mg) (M : Mi mg) (O : Ow K mg "reached" s_reached ["web", "part", "start", "turned"]) (G_rows_of : Kn P w K mg base k "rows_of" ["web", "part"] C_rows_of.s) : Kn P w K mg base (k + 1) "reached" ["web", "part", "start", "turned"] C_reached.s := by
  obtain ⟨f, fd, F, gm, bd⟩ := O.ex
  obtain ⟨f_rows_of, fd_rows_of, ok_rows_of, mg_rows_of, kp_rows_of, bd_rows_of⟩ := G_rows_of.ex
  refine ⟨f, fd, pfn_ok F sc_reached ln_reached ?_, gm, F.kp, bd⟩
  intro cdv A outer s H E hr
  exact ⟨_, rd_reached, dss_cons (ds_set 4 sc_reached.nd (de_disp (dp_cons (de_var 2) (de_bl) (dp_nil)) (by rfl) (by rfl) (fun z => by cases z) (by decide)))
  (dss_cons (ds_set 5 sc_reached.nd (de_int))
  (dss_cons (ds_while (dt_lt (de_var 5) (de_len B.h_len (da_cons (de_var 4) (da_nil)))) (dss_cons (ds_set 5 sc_reached.nd (de_len B.h_len (da_cons (de_var 4) (da_nil))))
  (dss_one (ds_for rfl (di_list (de_callT ok_rows_of hr mg_rows_of kp_rows_of bd_rows_of (da_cons (de_var 0) (da_cons (de_var 1) (da_nil))))) (dg_name 6 sc_reached.nd) (dss_cons (ds_par 7 8 sc_reached.nd (da_cons (de_ix (de_ix (de_ix (de_var 0) (de_int)) (de_var 6)) (de_int)) (da_cons (de_ix (de_ix (de_ix (de_var 0) (de_int)) (de_var 6)) (de_int)) (da_nil))))
  (dss_cons (ds_if (dt_val (de_var 3)) (dss_one (ds_par 7 8 sc_reached.nd (da_cons (de_var 8) (da_cons (de_var 7) (da_nil))))) (dss_nil))
  (dss_one (ds_if (dt_din hr (de_var 7) (de_var 4)) (dss_one (ds_dput hr (de_var 4) (de_var 8) (de_bl))) (dss_nil)))))))))
  (dss_one (ds_ret (de_var 4))))), rp_reached⟩

abbrev s_is_web : Stmt := topS 11
theorem sc_is_web : FnScope ["web", "places", "rows", "row", "part"] ["web"] (defScope s_is_web) := ⟨rfl, rfl, rfl, by decide +kernel, rfl, by decide +kernel, by decide +kernel⟩
theorem kn_is_web {P : Program} {w : World} {K : PySem.W.Frag} {mg : Str → Option Value} {base : Heap} {k : Nat} (B : Bi mg) (M : Mi mg) (O : Ow K mg "is_web" s_is_web ["web"]) (G_fits_row : Kn P w K mg base k "fits_row" ["web", "row"] C_fits_row.s) (G_reached : Kn P w K mg base k "reached" ["web", "part", "start", "turned"] C_reached.s) : Kn P w K mg base (k + 1) "is_web" ["web"] C_is_web.s := by
  obtain ⟨f, fd, F, gm, bd⟩ := O.ex
  obtain ⟨f_fits_row, fd_fits_row, ok_fits_row, mg_fits_row, kp_fits_row, bd_fits_row⟩ := G_fits_row.ex
  obtain ⟨f_reached, fd_reached, ok_reached, mg_reached, kp_reached, bd_reached⟩ := G_reached.ex
  refine ⟨f, fd, pfn_ok F sc_is_web ln_is_web ?_, gm, F.kp, bd⟩
  intro cdv A outer s H E hr
  exact ⟨_, rd_is_web, dss_cons (ds_asg (de_var 0) (dg_tup rfl (dgs_cons (dg_name 1 sc_is_web.nd) (dgs_cons (dg_name 2 sc_is_web.nd) (dgs_nil)))))
  (dss_cons (ds_if (dt_w (dw_or (dt_lt (de_len B.h_len (da_cons (de_var 1) (da_nil))) (de_int)) (dw_or (dt_gt (de_len B.h_len (da_cons (de_var 1) (da_nil))) (de_globE (by rfl) M.m_MOST_PARTS)) (dw_or (dt_lt (de_len B.h_len (da_cons (de_var 2) (da_nil))) (de_int)) (dw_or1 (dt_gt (de_len B.h_len (da_cons (de_var 2) (da_nil))) (de_globE (by rfl) M.m_MOST_ROWS))))))) (dss_one (ds_ret (de_bl))) (dss_nil))
  (dss_cons (ds_if (dt_w (dw_or (dt_lt (de_min rfl B.h_min (da_cons (de_var 1) (da_nil))) (de_int)) (dw_or1 (dt_gt (de_max rfl B.h_max (da_cons (de_var 1) (da_nil))) (de_globE (by rfl) M.m_MOST_PLACES))))) (dss_one (ds_ret (de_bl))) (dss_nil))
  (dss_cons (ds_for rfl (di_list (de_var 2)) (dg_name 3 sc_is_web.nd) (dss_one (ds_if (dt_not (dt_val (de_callT ok_fits_row hr mg_fits_row kp_fits_row bd_fits_row (da_cons (de_var 0) (da_cons (de_var 3) (da_nil)))))) (dss_one (ds_ret (de_bl))) (dss_nil))))
  (dss_cons (ds_for rfl (di_range1 B.h_range (da_cons (de_len B.h_len (da_cons (de_var 1) (da_nil))) (da_nil))) (dg_name 4 sc_is_web.nd) (dss_cons (ds_if (dt_w (dw_or (dt_ne hr (de_len B.h_len (da_cons (de_callT ok_reached hr mg_reached kp_reached bd_reached (da_cons (de_var 0) (da_cons (de_var 4) (da_cons (de_int) (da_cons (de_bl) (da_nil)))))) (da_nil))) (de_ix (de_var 1) (de_var 4))) (dw_or1 (dt_ne hr (de_len B.h_len (da_cons (de_callT ok_reached hr mg_reached kp_reached bd_reached (da_cons (de_var 0) (da_cons (de_var 4) (da_cons (de_int) (da_cons (de_bl) (da_nil)))))) (da_nil))) (de_ix (de_var 1) (de_var 4)))))) (dss_one (ds_ret (de_bl))) (dss_nil))
  (dss_one (ds_if (dt_w (dw_and (dt_gt (de_var 4) (de_int)) (dw_and1 (dt_notin (de_var 4) (de_lcU (fin := finT) (own := [("row", 3)]) fin_T rfl sc_is_web.nd (di_list (de_var 2)) (blkOk_by (own := [("row", 3)]) (N := ["web", "places", "rows", "row", "part"]) (sc := defScope s_is_web) (by decide +kernel)) (fun _ _ _ _ _ => ⟨_, cg_name 3 sc_is_web.nd⟩) (fun _ _ _ _ _ => ⟨_, dts_nil⟩) (fun _ _ _ _ _ => ⟨_, de_ix (de_var 3) (de_int)⟩) s))))) (dss_one (ds_ret (de_bl))) (dss_nil)))))
  (dss_one (ds_ret (de_bl))))))), rp_is_web⟩

abbrev s_must_be_web : Stmt := topS 12
theorem sc_must_be_web : FnScope ["web"] ["web"] (defScope s_must_be_web) := ⟨rfl, rfl, rfl, by decide +kernel, rfl, by decide +kernel, by decide +kernel⟩
theorem kn_must_be_web {P : Program} {w : World} {K : PySem.W.Frag} {mg : Str → Option Value} {base : Heap} {k : Nat} (B : Bi mg) (M : Mi mg) (O : Ow K mg "must_be_web" s_must_be_web ["web"]) (G_is_web : Kn P w K mg base k "is_web" ["web"] C_is_web.s) : Kn P w K mg base (k + 1) "must_be_web" ["web"] C_must_be_web.s := by
  obtain ⟨f, fd, F, gm, bd⟩ := O.ex
  obtain ⟨f_is_web, fd_is_web, ok_is_web, mg_is_web, kp_is_web, bd_is_web⟩ := G_is_web.ex
  refine ⟨f, fd, pfn_ok F sc_must_be_web ln_must_be_web ?_, gm, F.kp, bd⟩
  intro cdv A outer s H E hr
  exact ⟨_, rd_must_be_web, dss_one (ds_if (dt_not (dt_val (de_callT ok_is_web hr mg_is_web kp_is_web bd_is_web (da_cons (de_var 0) (da_nil))))) (dss_one (ds_never)) (dss_nil)), rp_must_be_web⟩

abbrev s_must_be_part : Stmt := topS 14
theorem sc_must_be_part : FnScope ["web", "part"] ["web", "part"] (defScope s_must_be_part) := ⟨rfl, rfl, rfl, by decide +kernel, rfl, by decide +kernel, by decide +kernel⟩
theorem kn_must_be_part {P : Program} {w : World} {K : PySem.W.Frag} {mg : Str → Option Value} {base : Heap} {k : Nat} (B : Bi mg) (M : Mi mg) (O : Ow K mg "must_be_part" s_must_be_part ["web", "part"]) (G_must_be_web : Kn P w K mg base k "must_be_web" ["web"] C_must_be_web.s) : Kn P w K mg base (k + 1) "must_be_part" ["web", "part"] C_must_be_part.s := by
  obtain ⟨f, fd, F, gm, bd⟩ := O.ex
  obtain ⟨f_must_be_web, fd_must_be_web, ok_must_be_web, mg_must_be_web, kp_must_be_web, bd_must_be_web⟩ := G_must_be_web.ex
  refine ⟨f, fd, pfn_ok F sc_must_be_part ln_must_be_part ?_, gm, F.kp, bd⟩
  intro cdv A outer s H E hr
  exact ⟨_, rd_must_be_part, dss_cons (ds_expr (de_callT ok_must_be_web hr mg_must_be_web kp_must_be_web bd_must_be_web (da_cons (de_var 0) (da_nil))))
  (dss_one (ds_if (dt_w (dw_or (dt_lt (de_var 1) (de_int)) (dw_or1 (dt_ge (de_var 1) (de_len B.h_len (da_cons (de_ix (de_var 0) (de_int)) (da_nil))))))) (dss_one (ds_never)) (dss_nil))), rp_must_be_part⟩

abbrev s_rows_from : Stmt := topS 18
theorem sc_rows_from : FnScope ["web", "part", "place", "k"] ["web", "part", "place"] (defScope s_rows_from) := ⟨rfl, rfl, rfl, by decide +kernel, rfl, by decide +kernel, by decide +kernel⟩
theorem kn_rows_from {P : Program} {w : World} {K : PySem.W.Frag} {mg : Str → Option Value} {base : Heap} {k : Nat} (B : Bi mg) (M : Mi mg) (O : Ow K mg "rows_from" s_rows_from ["web", "part", "place"]) (G_rows_of : Kn P w K mg base k "rows_of" ["web", "part"] C_rows_of.s) : Kn P w K mg base (k + 1) "rows_from" ["web", "part", "place"] C_rows_from.s := by
  obtain ⟨f, fd, F, gm, bd⟩ := O.ex
  obtain ⟨f_rows_of, fd_rows_of, ok_rows_of, mg_rows_of, kp_rows_of, bd_rows_of⟩ := G_rows_of.ex
  refine ⟨f, fd, pfn_ok F sc_rows_from ln_rows_from ?_, gm, F.kp, bd⟩
  intro cdv A outer s H E hr
  exact ⟨_, rd_rows_from, dss_one (ds_ret (de_lcU (fin := finH) (own := [("k", 3)]) fin_H rfl sc_rows_from.nd (di_list (de_callT ok_rows_of hr mg_rows_of kp_rows_of bd_rows_of (da_cons (de_var 0) (da_cons (de_var 1) (da_nil))))) (blkOk_by (own := [("k", 3)]) (N := ["web", "part", "place", "k"]) (sc := defScope s_rows_from) (by decide +kernel)) (fun _ _ _ _ _ => ⟨_, cg_name 3 sc_rows_from.nd⟩) (fun _ _ _ _ _ => ⟨_, dts_one (dt_eq hr (de_ix (de_ix (de_ix (de_var 0) (de_int)) (de_var 3)) (de_int)) (de_var 2))⟩) (fun _ _ _ _ _ => ⟨_, de_var 3⟩) s)), rp_rows_from⟩

abbrev s_cuts : Stmt := topS 20
theorem sc_cuts : FnScope ["web", "part", "standing", "looked", "left", "found", "fresh", "goal", "k"] ["web", "part"] (defScope s_cuts) := ⟨rfl, rfl, rfl, by decide +kernel, rfl, by decide +kernel, by decide +kernel⟩
theorem kn_cuts {P : Program} {w : World} {K : PySem.W.Frag} {mg : Str → Option Value} {base : Heap} {k : Nat} (B : Bi mg) (M : Mi mg) (O : Ow K mg "cuts" s_cuts ["web", "part"]) (G_must_be_part : Kn P w K mg base k "must_be_part" ["web", "part"] C_must_be_part.s) (G_rows_from : Kn P w K mg base k "rows_from" ["web", "part", "place"] C_rows_from.s) : Kn P w K mg base (k + 1) "cuts" ["web", "part"] C_cuts.s := by
  obtain ⟨f, fd, F, gm, bd⟩ := O.ex
  obtain ⟨f_must_be_part, fd_must_be_part, ok_must_be_part, mg_must_be_part, kp_must_be_part, bd_must_be_part⟩ := G_must_be_part.ex
  obtain ⟨f_rows_from, fd_rows_from, ok_rows_from, mg_rows_from, kp_rows_from, bd_rows_from⟩ := G_rows_from.ex
  refine ⟨f, fd, pfn_ok F sc_cuts ln_cuts ?_, gm, F.kp, bd⟩
  intro cdv A outer s H E hr
  exact ⟨_, rd_cuts, dss_cons (ds_expr (de_callT ok_must_be_part hr mg_must_be_part kp_must_be_part bd_must_be_part (da_cons (de_var 0) (da_cons (de_var 1) (da_nil)))))
  (dss_cons (ds_set 2 sc_cuts.nd (de_lstH (da_cons (de_int) (da_nil))))
  (dss_cons (ds_set 3 sc_cuts.nd (de_lstH (da_nil)))
  (dss_cons (ds_set 4 sc_cuts.nd (de_lstH (da_nil)))
  (dss_cons (ds_set 5 sc_cuts.nd (de_lstH (da_nil)))
  (dss_cons (ds_while (dt_gt (de_len B.h_len (da_cons (de_var 2) (da_nil))) (de_int)) (dss_cons (ds_setLcU 6 (fin := finT) (own := [("k", 8)]) fin_T rfl sc_cuts.nd (di_list (de_callT ok_rows_from hr mg_rows_from kp_rows_from bd_rows_from (da_cons (de_var 0) (da_cons (de_var 1) (da_cons (de_ix (de_var 2) (de_neg (de_int))) (da_nil)))))) (blkOk_by (own := [("k", 8)]) (N := ["web", "part", "standing", "looked", "left", "found", "fresh", "goal", "k"]) (sc := defScope s_cuts) (by decide +kernel)) (fun _ _ _ _ _ => ⟨_, cg_name 8 sc_cuts.nd⟩) (fun _ _ _ _ _ => ⟨_, dts_one (dt_notin (de_var 8) (de_var 3))⟩) (fun _ _ _ _ _ => ⟨_, de_var 8⟩) s)
  (dss_one (ds_if (dt_eq hr (de_len B.h_len (da_cons (de_var 6) (da_nil))) (de_int)) (dss_one (ds_expr (de_append (de_var 4) (da_cons (de_pop (de_var 2)) (da_nil))))) (dss_cons (ds_expr (de_append (de_var 3) (da_cons (de_ix (de_var 6) (de_int)) (da_nil))))
  (dss_cons (ds_set 7 sc_cuts.nd (de_ix (de_ix (de_ix (de_var 0) (de_int)) (de_ix (de_var 6) (de_int))) (de_int)))
  (dss_one (ds_if (dt_in (de_var 7) (de_var 2)) (dss_one (ds_expr (de_append (de_var 5) (da_cons (de_ix (de_var 6) (de_int)) (da_nil))))) (dss_one (ds_if (dt_notin (de_var 7) (de_var 4)) (dss_one (ds_expr (de_append (de_var 2) (da_cons (de_var 7) (da_nil))))) (dss_nil)))))))))))
  (dss_one (ds_ret (de_sortedH B.h_sorted (da_cons (de_var 5) (da_nil)))))))))), rp_cuts⟩

abbrev s_cut_apart : Stmt := topS 21
theorem sc_cut_apart : FnScope ["web", "part", "cut", "rows", "marks", "k"] ["web", "part"] (defScope s_cut_apart) := ⟨rfl, rfl, rfl, by decide +kernel, rfl, by decide +kernel, by decide +kernel⟩
theorem kn_cut_apart {P : Program} {w : World} {K : PySem.W.Frag} {mg : Str → Option Value} {base : Heap} {k : Nat} (B : Bi mg) (M : Mi mg) (O : Ow K mg "cut_apart" s_cut_apart ["web", "part"]) (G_cuts : Kn P w K mg base k "cuts" ["web", "part"] C_cuts.s) (G_rows_of : Kn P w K mg base k "rows_of" ["web", "part"] C_rows_of.s) : Kn P w K mg base (k + 1) "cut_apart" ["web", "part"] C_cut_apart := by
  obtain ⟨f, fd, F, gm, bd⟩ := O.ex
  obtain ⟨f_cuts, fd_cuts, ok_cuts, mg_cuts, kp_cuts, bd_cuts⟩ := G_cuts.ex
  obtain ⟨f_rows_of, fd_rows_of, ok_rows_of, mg_rows_of, kp_rows_of, bd_rows_of⟩ := G_rows_of.ex
  refine ⟨f, fd, dfn_ok F sc_cut_apart ln_cut_apart ?_, gm, F.kp, bd⟩
  intro cdv A outer s H E hr
  exact ⟨_, rd_cut_apart, dss_cons (ds_set 2 sc_cut_apart.nd (de_callT ok_cuts hr mg_cuts kp_cuts bd_cuts (da_cons (de_var 0) (da_cons (de_var 1) (da_nil)))))
  (dss_cons (ds_set 3 sc_cut_apart.nd (de_lstH (da_nil)))
  (dss_cons (ds_set 4 sc_cut_apart.nd (de_lstH (da_nil)))
  (dss_cons (ds_for rfl (di_list (de_callT ok_rows_of hr mg_rows_of kp_rows_of bd_rows_of (da_cons (de_var 0) (da_cons (de_var 1) (da_nil))))) (dg_name 5 sc_cut_apart.nd) (dss_one (ds_if (dt_notin (de_var 5) (de_var 2)) (dss_cons (ds_expr (de_append (de_var 3) (da_cons (de_tup (da_cons (de_int) (da_cons (de_ix (de_ix (de_ix (de_var 0) (de_int)) (de_var 5)) (de_int)) (da_cons (de_ix (de_ix (de_ix (de_var 0) (de_int)) (de_var 5)) (de_int)) (da_cons (de_neg (de_int)) (da_nil)))))) (da_nil))))
  (dss_one (ds_expr (de_append (de_var 4) (da_cons (de_tup (da_cons (de_str) (da_cons (de_var 5) (da_nil)))) (da_nil)))))) (dss_nil))))
  (dss_cons (ds_for rfl (di_list (de_var 2)) (dg_name 5 sc_cut_apart.nd) (dss_cons (ds_if (dt_ne hr (de_ix (de_ix (de_ix (de_var 0) (de_int)) (de_var 5)) (de_int)) (de_int)) (dss_cons (ds_expr (de_append (de_var 3) (da_cons (de_tup (da_cons (de_int) (da_cons (de_int) (da_cons (de_ix (de_ix (de_ix (de_var 0) (de_int)) (de_var 5)) (de_int)) (da_cons (de_neg (de_int)) (da_nil)))))) (da_nil))))
  (dss_one (ds_expr (de_append (de_var 4) (da_cons (de_tup (da_cons (de_str) (da_cons (de_var 5) (da_nil)))) (da_nil)))))) (dss_nil))
  (dss_cons (ds_expr (de_append (de_var 3) (da_cons (de_tup (da_cons (de_int) (da_cons (de_ix (de_ix (de_ix (de_var 0) (de_int)) (de_var 5)) (de_int)) (da_cons (de_int) (da_cons (de_neg (de_int)) (da_nil)))))) (da_nil))))
  (dss_one (ds_expr (de_append (de_var 4) (da_cons (de_tup (da_cons (de_str) (da_cons (de_var 5) (da_nil)))) (da_nil))))))))
  (dss_one (ds_ret (de_tupW (da_cons (de_var 3) (da_cons (de_var 4) (da_nil)))))))))), rp_cut_apart⟩

abbrev s_stretch_web : Stmt := topS 22
theorem sc_stretch_web : FnScope ["web", "part", "rows"] ["web", "part"] (defScope s_stretch_web) := ⟨rfl, rfl, rfl, by decide +kernel, rfl, by decide +kernel, by decide +kernel⟩
theorem kn_stretch_web {P : Program} {w : World} {K : PySem.W.Frag} {mg : Str → Option Value} {base : Heap} {k : Nat} (B : Bi mg) (M : Mi mg) (O : Ow K mg "stretch_web" s_stretch_web ["web", "part"]) (G_cut_apart : Kn P w K mg base k "cut_apart" ["web", "part"] C_cut_apart) : Kn P w K mg base (k + 1) "stretch_web" ["web", "part"] C_stretch_web := by
  obtain ⟨f, fd, F, gm, bd⟩ := O.ex
  obtain ⟨f_cut_apart, fd_cut_apart, ok_cut_apart, mg_cut_apart, kp_cut_apart, bd_cut_apart⟩ := G_cut_apart.ex
  refine ⟨f, fd, dfn_ok F sc_stretch_web ln_stretch_web ?_, gm, F.kp, bd⟩
  intro cdv A outer s H E hr
  exact ⟨_, rd_stretch_web, dss_cons (ds_set 2 sc_stretch_web.nd (de_ixP (de_callS ok_cut_apart hr mg_cut_apart kp_cut_apart bd_cut_apart (da_cons (de_var 0) (da_cons (de_var 1) (da_nil)))) (de_int)))
  (dss_one (ds_ret (de_tupW (da_cons (de_lstH (da_cons (de_ix (de_ix (de_var 0) (de_int)) (de_var 1)) (da_nil))) (da_cons (de_var 2) (da_nil)))))), rp_stretch_web⟩

abbrev s__law_from : Stmt := topS 32
theorem sc__law_from : FnScope ["_law_web_here", "_law_part_here", "_law_place", "_law_k"] ["_law_web_here", "_law_part_here", "_law_place"] (defScope s__law_from) := ⟨rfl, rfl, rfl, by decide +kernel, rfl, by decide +kernel, by decide +kernel⟩
theorem kn__law_from {P : Program} {w : World} {K : PySem.W.Frag} {mg : Str → Option Value} {base : Heap} {k : Nat} (B : Bi mg) (M : Mi mg) (O : Ow K mg "_law_from" s__law_from ["_law_web_here", "_law_part_here", "_law_place"])  : Kn P w K mg base (k + 1) "_law_from" ["_law_web_here", "_law_part_here", "_law_place"] C__law_from.s := by
  obtain ⟨f, fd, F, gm, bd⟩ := O.ex
  refine ⟨f, fd, pfn_ok F sc__law_from ln__law_from ?_, gm, F.kp, bd⟩
  intro cdv A outer s H E hr
  exact ⟨_, rd__law_from, dss_one (ds_ret (de_lcU (fin := finH) (own := [("_law_k", 3)]) fin_H rfl sc__law_from.nd (di_range1 B.h_range (da_cons (de_len B.h_len (da_cons (de_ix (de_var 0) (de_int)) (da_nil))) (da_nil))) (blkOk_by (own := [("_law_k", 3)]) (N := ["_law_web_here", "_law_part_here", "_law_place", "_law_k"]) (sc := defScope s__law_from) (by decide +kernel)) (fun _ _ _ _ _ => ⟨_, cg_name 3 sc__law_from.nd⟩) (fun _ _ _ _ _ => ⟨_, dts_one (dt_eq hr (de_slT (de_ix (de_ix (de_var 0) (de_int)) (de_var 3)) (do_none) (do_some (de_int))) (de_tup (da_cons (de_var 1) (da_cons (de_var 2) (da_nil)))))⟩) (fun _ _ _ _ _ => ⟨_, de_var 3⟩) s)), rp__law_from⟩

abbrev s__law_go : Stmt := topS 33
theorem sc__law_go : FnScope ["_law_web_here", "_law_part_here", "_law_standing", "_law_left", "_law_cut", "_law_k", "_law_goal"] ["_law_web_here", "_law_part_here", "_law_standing", "_law_left", "_law_cut"] (defScope s__law_go) := ⟨rfl, rfl, rfl, by decide +kernel, rfl, by decide +kernel, by decide +kernel⟩
theorem kn__law_go {P : Program} {w : World} {K : PySem.W.Frag} {mg : Str → Option Value} {base : Heap} {k : Nat} (B : Bi mg) (M : Mi mg) (O : Ow K mg "_law_go" s__law_go ["_law_web_here", "_law_part_here", "_law_standing", "_law_left", "_law_cut"]) (G__law_from : Kn P w K mg base k "_law_from" ["_law_web_here", "_law_part_here", "_law_place"] C__law_from.s) : ∀ d : Nat, Kn P w K mg base (k + 1 + d) "_law_go" ["_law_web_here", "_law_part_here", "_law_standing", "_law_left", "_law_cut"] (CR__law_go d)
  | 0 => by
    obtain ⟨f, fd, F, gm, bd⟩ := O.ex
    exact ⟨f, fd, no_fn fun ws m Q h => no__law_go ws m Q h, gm, F.kp, bd⟩
  | d + 1 => by
    obtain ⟨f__law_go, fd__law_go, ok__law_go, mg__law_go, kp__law_go, bd__law_go⟩ := (kn__law_go B M O G__law_from d).ex
    obtain ⟨f__law_from, fd__law_from, ok__law_from, mg__law_from, kp__law_from, bd__law_from⟩ := (G__law_from.mono (show k ≤ k + 1 + d by omega)).ex
    obtain ⟨f, fd, F, gm, bd⟩ := O.ex
    refine ⟨f, fd, dfn_ok F sc__law_go (ln__law_go (d + 1)) ?_, gm, F.kp, bd⟩
    intro cdv A outer s H E hr
    exact ⟨_, rd__law_go (CR__law_go d), dss_cons (ds_for rfl (di_list (de_callT ok__law_from hr mg__law_from kp__law_from bd__law_from (da_cons (de_var 0) (da_cons (de_var 1) (da_cons (de_ix (de_var 2) (de_neg (de_int))) (da_nil)))))) (dg_name 5 sc__law_go.nd) (dss_cons (ds_set 6 sc__law_go.nd (de_ix (de_ix (de_ix (de_var 0) (de_int)) (de_var 5)) (de_int)))
  (dss_one (ds_if (dt_in (de_var 6) (de_var 2)) (dss_one (ds_expr (de_append (de_var 4) (da_cons (de_var 5) (da_nil))))) (dss_one (ds_if (dt_notin (de_var 6) (de_var 3)) (dss_one (ds_expr (de_callS ok__law_go hr mg__law_go kp__law_go bd__law_go (da_cons (de_var 0) (da_cons (de_var 1) (da_cons (de_add (de_var 2) (de_lst (da_cons (de_var 6) (da_nil)))) (da_cons (de_var 3) (da_cons (de_var 4) (da_nil))))))))) (dss_nil)))))))
  (dss_one (ds_expr (de_append (de_var 3) (da_cons (de_ix (de_var 2) (de_neg (de_int))) (da_nil))))), rp__law_go d⟩

abbrev s__law_cuts : Stmt := topS 34
theorem sc__law_cuts : FnScope ["_law_web_here", "_law_part_here", "_law_cut"] ["_law_web_here", "_law_part_here"] (defScope s__law_cuts) := ⟨rfl, rfl, rfl, by decide +kernel, rfl, by decide +kernel, by decide +kernel⟩
theorem kn__law_cuts {P : Program} {w : World} {K : PySem.W.Frag} {mg : Str → Option Value} {base : Heap} {k : Nat} (B : Bi mg) (M : Mi mg) (O : Ow K mg "_law_cuts" s__law_cuts ["_law_web_here", "_law_part_here"]) (G__law_go : Kn P w K mg base k "_law_go" ["_law_web_here", "_law_part_here", "_law_standing", "_law_left", "_law_cut"] C__law_go) : Kn P w K mg base (k + 1) "_law_cuts" ["_law_web_here", "_law_part_here"] C__law_cuts.s := by
  obtain ⟨f, fd, F, gm, bd⟩ := O.ex
  obtain ⟨f__law_go, fd__law_go, ok__law_go, mg__law_go, kp__law_go, bd__law_go⟩ := G__law_go.ex
  refine ⟨f, fd, pfn_ok F sc__law_cuts ln__law_cuts ?_, gm, F.kp, bd⟩
  intro cdv A outer s H E hr
  exact ⟨_, rd__law_cuts, dss_cons (ds_set 2 sc__law_cuts.nd (de_lstH (da_nil)))
  (dss_cons (ds_expr (de_callS ok__law_go hr mg__law_go kp__law_go bd__law_go (da_cons (de_var 0) (da_cons (de_var 1) (da_cons (de_lst (da_cons (de_int) (da_nil))) (da_cons (de_lstH (da_nil)) (da_cons (de_var 2) (da_nil))))))))
  (dss_one (ds_ret (de_sortedH B.h_sorted (da_cons (de_var 2) (da_nil)))))), rp__law_cuts⟩

abbrev s__law_marked : Stmt := topS 35
theorem sc__law_marked : FnScope ["_law_web_here", "_law_part_here", "_law_cut", "_law_rows", "_law_marks", "_law_k"] ["_law_web_here", "_law_part_here"] (defScope s__law_marked) := ⟨rfl, rfl, rfl, by decide +kernel, rfl, by decide +kernel, by decide +kernel⟩
theorem kn__law_marked {P : Program} {w : World} {K : PySem.W.Frag} {mg : Str → Option Value} {base : Heap} {k : Nat} (B : Bi mg) (M : Mi mg) (O : Ow K mg "_law_marked" s__law_marked ["_law_web_here", "_law_part_here"]) (G__law_cuts : Kn P w K mg base k "_law_cuts" ["_law_web_here", "_law_part_here"] C__law_cuts.s) : Kn P w K mg base (k + 1) "_law_marked" ["_law_web_here", "_law_part_here"] C__law_marked.s := by
  obtain ⟨f, fd, F, gm, bd⟩ := O.ex
  obtain ⟨f__law_cuts, fd__law_cuts, ok__law_cuts, mg__law_cuts, kp__law_cuts, bd__law_cuts⟩ := G__law_cuts.ex
  refine ⟨f, fd, pfn_ok F sc__law_marked ln__law_marked ?_, gm, F.kp, bd⟩
  intro cdv A outer s H E hr
  exact ⟨_, rd__law_marked, dss_cons (ds_set 2 sc__law_marked.nd (de_callT ok__law_cuts hr mg__law_cuts kp__law_cuts bd__law_cuts (da_cons (de_var 0) (da_cons (de_var 1) (da_nil)))))
  (dss_cons (ds_set 3 sc__law_marked.nd (de_lstH (da_nil)))
  (dss_cons (ds_set 4 sc__law_marked.nd (de_lstH (da_nil)))
  (dss_cons (ds_for rfl (di_range1 B.h_range (da_cons (de_len B.h_len (da_cons (de_ix (de_var 0) (de_int)) (da_nil))) (da_nil))) (dg_name 5 sc__law_marked.nd) (dss_one (ds_if (dt_w (dw_and (dt_eq hr (de_ix (de_ix (de_ix (de_var 0) (de_int)) (de_var 5)) (de_int)) (de_var 1)) (dw_and1 (dt_notin (de_var 5) (de_var 2))))) (dss_cons (ds_expr (de_append (de_var 3) (da_cons (de_tup (da_cons (de_int) (da_cons (de_ix (de_ix (de_ix (de_var 0) (de_int)) (de_var 5)) (de_int)) (da_cons (de_ix (de_ix (de_ix (de_var 0) (de_int)) (de_var 5)) (de_int)) (da_cons (de_neg (de_int)) (da_nil)))))) (da_nil))))
  (dss_one (ds_expr (de_append (de_var 4) (da_cons (de_tup (da_cons (de_str) (da_cons (de_var 5) (da_nil)))) (da_nil)))))) (dss_nil))))
  (dss_cons (ds_for rfl (di_list (de_var 2)) (dg_name 5 sc__law_marked.nd) (dss_cons (ds_if (dt_ne hr (de_ix (de_ix (de_ix (de_var 0) (de_int)) (de_var 5)) (de_int)) (de_int)) (dss_cons (ds_expr (de_append (de_var 3) (da_cons (de_tup (da_cons (de_int) (da_cons (de_int) (da_cons (de_ix (de_ix (de_ix (de_var 0) (de_int)) (de_var 5)) (de_int)) (da_cons (de_neg (de_int)) (da_nil)))))) (da_nil))))
  (dss_one (ds_expr (de_append (de_var 4) (da_cons (de_tup (da_cons (de_str) (da_cons (de_var 5) (da_nil)))) (da_nil)))))) (dss_nil))
  (dss_cons (ds_expr (de_append (de_var 3) (da_cons (de_tup (da_cons (de_int) (da_cons (de_ix (de_ix (de_ix (de_var 0) (de_int)) (de_var 5)) (de_int)) (da_cons (de_int) (da_cons (de_neg (de_int)) (da_nil)))))) (da_nil))))
  (dss_one (ds_expr (de_append (de_var 4) (da_cons (de_tup (da_cons (de_str) (da_cons (de_var 5) (da_nil)))) (da_nil))))))))
  (dss_one (ds_ret (de_tup (da_cons (de_frz 3) (da_cons (de_frz 4) (da_nil)))))))))), rp__law_marked⟩

abbrev s__law_whole : Stmt := topS 24
theorem sc__law_whole : FnScope ["_law_found"] ["_law_found"] (defScope s__law_whole) := ⟨rfl, rfl, rfl, by decide +kernel, rfl, by decide +kernel, by decide +kernel⟩
theorem kn__law_whole {P : Program} {w : World} {K : PySem.W.Frag} {mg : Str → Option Value} {base : Heap} {k : Nat} (B : Bi mg) (M : Mi mg) (O : Ow K mg "_law_whole" s__law_whole ["_law_found"])  : Kn P w K mg base (k + 1) "_law_whole" ["_law_found"] C__law_whole.s := by
  obtain ⟨f, fd, F, gm, bd⟩ := O.ex
  refine ⟨f, fd, pfn_ok F sc__law_whole ln__law_whole ?_, gm, F.kp, bd⟩
  intro cdv A outer s H E hr
  exact ⟨_, rd__law_whole, dss_one (ds_ret (de_and (de_isi B.h_isinstance (da_cons (de_var 0) (da_cons (de_bltn (by rfl) B.h_int (by decide +kernel)) (da_nil)))) (de_one (de_not (de_isi B.h_isinstance (da_cons (de_var 0) (da_cons (de_bltn (by rfl) B.h_bool (by decide +kernel)) (da_nil)))))))), rp__law_whole⟩

abbrev s_led_to : Stmt := topS 15
theorem sc_led_to : FnScope ["web", "part", "some", "k"] ["web", "part", "some"] (defScope s_led_to) := ⟨rfl, rfl, rfl, by decide +kernel, rfl, by decide +kernel, by decide +kernel⟩
theorem kn_led_to {P : Program} {w : World} {K : PySem.W.Frag} {mg : Str → Option Value} {base : Heap} {k : Nat} (B : Bi mg) (M : Mi mg) (O : Ow K mg "led_to" s_led_to ["web", "part", "some"]) (G_rows_of : Kn P w K mg base k "rows_of" ["web", "part"] C_rows_of.s) : Kn P w K mg base (k + 1) "led_to" ["web", "part", "some"] C_led_to.s := by
  obtain ⟨f, fd, F, gm, bd⟩ := O.ex
  obtain ⟨f_rows_of, fd_rows_of, ok_rows_of, mg_rows_of, kp_rows_of, bd_rows_of⟩ := G_rows_of.ex
  refine ⟨f, fd, pfn_ok F sc_led_to ln_led_to ?_, gm, F.kp, bd⟩
  intro cdv A outer s H E hr
  exact ⟨_, rd_led_to, dss_one (ds_ret (de_lcU (fin := finH) (own := [("k", 3)]) fin_H rfl sc_led_to.nd (di_list (de_callT ok_rows_of hr mg_rows_of kp_rows_of bd_rows_of (da_cons (de_var 0) (da_cons (de_var 1) (da_nil))))) (blkOk_by (own := [("k", 3)]) (N := ["web", "part", "some", "k"]) (sc := defScope s_led_to) (by decide +kernel)) (fun _ _ _ _ _ => ⟨_, cg_name 3 sc_led_to.nd⟩) (fun _ _ _ _ _ => ⟨_, dts_one (dt_in (de_ix (de_ix (de_ix (de_var 0) (de_int)) (de_var 3)) (de_int)) (de_var 2))⟩) (fun _ _ _ _ _ => ⟨_, de_ix (de_ix (de_ix (de_var 0) (de_int)) (de_var 3)) (de_int)⟩) s)), rp_led_to⟩

abbrev s_order_of : Stmt := topS 16
theorem sc_order_of : FnScope ["web", "part", "found", "left", "free", "goals", "place"] ["web", "part"] (defScope s_order_of) := ⟨rfl, rfl, rfl, by decide +kernel, rfl, by decide +kernel, by decide +kernel⟩
theorem kn_order_of {P : Program} {w : World} {K : PySem.W.Frag} {mg : Str → Option Value} {base : Heap} {k : Nat} (B : Bi mg) (M : Mi mg) (O : Ow K mg "order_of" s_order_of ["web", "part"]) (G_led_to : Kn P w K mg base k "led_to" ["web", "part", "some"] C_led_to.s) : Kn P w K mg base (k + 1) "order_of" ["web", "part"] C_order_of.s := by
  obtain ⟨f, fd, F, gm, bd⟩ := O.ex
  obtain ⟨f_led_to, fd_led_to, ok_led_to, mg_led_to, kp_led_to, bd_led_to⟩ := G_led_to.ex
  refine ⟨f, fd, pfn_ok F sc_order_of ln_order_of ?_, gm, F.kp, bd⟩
  intro cdv A outer s H E hr
  exact ⟨_, rd_order_of, dss_cons (ds_set 2 sc_order_of.nd (de_lst (da_nil)))
  (dss_cons (ds_set 3 sc_order_of.nd (de_listRg rfl B.h_list (dr_1 B.h_range (de_ix (de_ix (de_var 0) (de_int)) (de_var 1)))))
  (dss_cons (ds_set 4 sc_order_of.nd (de_lcU (fin := finT) (own := [("place", 6)]) fin_T rfl sc_order_of.nd (di_list (de_var 3)) (blkOk_by (own := [("place", 6)]) (N := ["web", "part", "found", "left", "free", "goals", "place"]) (sc := defScope s_order_of) (by decide +kernel)) (fun _ _ _ _ _ => ⟨_, cg_name 6 sc_order_of.nd⟩) (fun _ _ _ _ _ => ⟨_, dts_one (dt_notin (de_var 6) (de_callT ok_led_to hr mg_led_to kp_led_to bd_led_to (da_cons (de_var 0) (da_cons (de_var 1) (da_cons (de_var 3) (da_nil))))))⟩) (fun _ _ _ _ _ => ⟨_, de_var 6⟩) s))
  (dss_cons (ds_while (dt_gt (de_len B.h_len (da_cons (de_var 4) (da_nil))) (de_int)) (dss_cons (ds_set 2 sc_order_of.nd (de_add (de_var 2) (de_var 4)))
  (dss_cons (ds_set 3 sc_order_of.nd (de_lcU (fin := finT) (own := [("place", 6)]) fin_T rfl sc_order_of.nd (di_list (de_var 3)) (blkOk_by (own := [("place", 6)]) (N := ["web", "part", "found", "left", "free", "goals", "place"]) (sc := defScope s_order_of) (by decide +kernel)) (fun _ _ _ _ _ => ⟨_, cg_name 6 sc_order_of.nd⟩) (fun _ _ _ _ _ => ⟨_, dts_one (dt_notin (de_var 6) (de_var 4))⟩) (fun _ _ _ _ _ => ⟨_, de_var 6⟩) s))
  (dss_cons (ds_set 5 sc_order_of.nd (de_callT ok_led_to hr mg_led_to kp_led_to bd_led_to (da_cons (de_var 0) (da_cons (de_var 1) (da_cons (de_var 3) (da_nil))))))
  (dss_one (ds_set 4 sc_order_of.nd (de_lcU (fin := finT) (own := [("place", 6)]) fin_T rfl sc_order_of.nd (di_list (de_var 3)) (blkOk_by (own := [("place", 6)]) (N := ["web", "part", "found", "left", "free", "goals", "place"]) (sc := defScope s_order_of) (by decide +kernel)) (fun _ _ _ _ _ => ⟨_, cg_name 6 sc_order_of.nd⟩) (fun _ _ _ _ _ => ⟨_, dts_one (dt_notin (de_var 6) (de_var 5))⟩) (fun _ _ _ _ _ => ⟨_, de_var 6⟩) s)))))))
  (dss_one (ds_ret (de_var 2)))))), rp_order_of⟩

abbrev s_is_loose : Stmt := topS 17
theorem sc_is_loose : FnScope ["web", "part"] ["web", "part"] (defScope s_is_loose) := ⟨rfl, rfl, rfl, by decide +kernel, rfl, by decide +kernel, by decide +kernel⟩
theorem kn_is_loose {P : Program} {w : World} {K : PySem.W.Frag} {mg : Str → Option Value} {base : Heap} {k : Nat} (B : Bi mg) (M : Mi mg) (O : Ow K mg "is_loose" s_is_loose ["web", "part"]) (G_must_be_part : Kn P w K mg base k "must_be_part" ["web", "part"] C_must_be_part.s) (G_order_of : Kn P w K mg base k "order_of" ["web", "part"] C_order_of.s) : Kn P w K mg base (k + 1) "is_loose" ["web", "part"] C_is_loose.s := by
  obtain ⟨f, fd, F, gm, bd⟩ := O.ex
  obtain ⟨f_must_be_part, fd_must_be_part, ok_must_be_part, mg_must_be_part, kp_must_be_part, bd_must_be_part⟩ := G_must_be_part.ex
  obtain ⟨f_order_of, fd_order_of, ok_order_of, mg_order_of, kp_order_of, bd_order_of⟩ := G_order_of.ex
  refine ⟨f, fd, pfn_ok F sc_is_loose ln_is_loose ?_, gm, F.kp, bd⟩
  intro cdv A outer s H E hr
  exact ⟨_, rd_is_loose, dss_cons (ds_expr (de_callT ok_must_be_part hr mg_must_be_part kp_must_be_part bd_must_be_part (da_cons (de_var 0) (da_cons (de_var 1) (da_nil)))))
  (dss_one (ds_ret (de_eq hr (de_len B.h_len (da_cons (de_callT ok_order_of hr mg_order_of kp_order_of bd_order_of (da_cons (de_var 0) (da_cons (de_var 1) (da_nil)))) (da_nil))) (de_ix (de_ix (de_var 0) (de_int)) (de_var 1))))), rp_is_loose⟩

abbrev s__law_right : Stmt := topS 36
theorem sc__law_right : FnScope ["_law_web_here", "_law_part_here", "_law_found", "_law_rows", "_law_row", "_law_one"] ["_law_web_here", "_law_part_here", "_law_found"] (defScope s__law_right) := ⟨rfl, rfl, rfl, by decide +kernel, rfl, by decide +kernel, by decide +kernel⟩
theorem kn__law_right {P : Program} {w : World} {K : PySem.W.Frag} {mg : Str → Option Value} {base : Heap} {k : Nat} (B : Bi mg) (M : Mi mg) (O : Ow K mg "_law_right" s__law_right ["_law_web_here", "_law_part_here", "_law_found"]) (G__law_marked : Kn P w K mg base k "_law_marked" ["_law_web_here", "_law_part_here"] C__law_marked.s) (G__law_whole : Kn P w K mg base k "_law_whole" ["_law_found"] C__law_whole.s) (G_is_web : Kn P w K mg base k "is_web" ["web"] C_is_web.s) (G_is_loose : Kn P w K mg base k "is_loose" ["web", "part"] C_is_loose.s) (G_cuts : Kn P w K mg base k "cuts" ["web", "part"] C_cuts.s) (G_stretch_web : Kn P w K mg base k "stretch_web" ["web", "part"] C_stretch_web) : Kn P w K mg base (k + 1) "_law_right" ["_law_web_here", "_law_part_here", "_law_found"] C__law_right.s := by
  obtain ⟨f, fd, F, gm, bd⟩ := O.ex
  obtain ⟨f__law_marked, fd__law_marked, ok__law_marked, mg__law_marked, kp__law_marked, bd__law_marked⟩ := G__law_marked.ex
  obtain ⟨f__law_whole, fd__law_whole, ok__law_whole, mg__law_whole, kp__law_whole, bd__law_whole⟩ := G__law_whole.ex
  obtain ⟨f_is_web, fd_is_web, ok_is_web, mg_is_web, kp_is_web, bd_is_web⟩ := G_is_web.ex
  obtain ⟨f_is_loose, fd_is_loose, ok_is_loose, mg_is_loose, kp_is_loose, bd_is_loose⟩ := G_is_loose.ex
  obtain ⟨f_cuts, fd_cuts, ok_cuts, mg_cuts, kp_cuts, bd_cuts⟩ := G_cuts.ex
  obtain ⟨f_stretch_web, fd_stretch_web, ok_stretch_web, mg_stretch_web, kp_stretch_web, bd_stretch_web⟩ := G_stretch_web.ex
  refine ⟨f, fd, pfn_ok F sc__law_right ln__law_right ?_, gm, F.kp, bd⟩
  intro cdv A outer s H E hr
  exact ⟨_, rd__law_right, dss_cons (ds_set 3 sc__law_right.nd (de_ix (de_callT ok__law_marked hr mg__law_marked kp__law_marked bd__law_marked (da_cons (de_var 0) (da_cons (de_var 1) (da_nil)))) (de_int)))
  (dss_cons (ds_if (dt_w (dw_or (dt_not (dt_val (de_isi B.h_isinstance (da_cons (de_var 2) (da_cons (de_bltn (by rfl) B.h_tuple (by decide +kernel)) (da_nil)))))) (dw_or1 (dt_ne hr (de_var 2) (de_tup (da_cons (de_lst (da_cons (de_ix (de_ix (de_var 0) (de_int)) (de_var 1)) (da_nil))) (da_cons (de_var 3) (da_nil)))))))) (dss_one (ds_ret (de_bl))) (dss_nil))
  (dss_cons (ds_if (dt_w (dw_or (dt_not (dt_val (de_isi B.h_isinstance (da_cons (de_ix (de_var 2) (de_int)) (da_cons (de_bltn (by rfl) B.h_list (by decide +kernel)) (da_nil)))))) (dw_or1 (dt_not (dt_val (de_isi B.h_isinstance (da_cons (de_ix (de_var 2) (de_int)) (da_cons (de_bltn (by rfl) B.h_list (by decide +kernel)) (da_nil))))))))) (dss_one (ds_ret (de_bl))) (dss_nil))
  (dss_cons (ds_if (dt_not (dt_val (de_all rfl B.h_all (da_cons (de_lcU (fin := finT) (own := [("_law_row", 4)]) fin_T rfl sc__law_right.nd (di_list (de_ix (de_var 2) (de_int))) (blkOk_by (own := [("_law_row", 4)]) (N := ["_law_web_here", "_law_part_here", "_law_found", "_law_rows", "_law_row", "_law_one"]) (sc := defScope s__law_right) (by decide +kernel)) (fun _ _ _ _ _ => ⟨_, cg_name 4 sc__law_right.nd⟩) (fun _ _ _ _ _ => ⟨_, dts_nil⟩) (fun _ _ _ _ _ => ⟨_, de_and (de_isi B.h_isinstance (da_cons (de_var 4) (da_cons (de_bltn (by rfl) B.h_tuple (by decide +kernel)) (da_nil)))) (de_one (de_all rfl B.h_all (da_cons (de_lcU (fin := finT) (own := [("_law_one", 5)]) fin_T rfl sc__law_right.nd (di_tup (de_var 4)) (blkOk_by (own := [("_law_one", 5)]) (N := ["_law_web_here", "_law_part_here", "_law_found", "_law_rows", "_law_row", "_law_one"]) (by first | rfl | decide +kernel)) (fun _ _ _ _ _ => ⟨_, cg_name 5 sc__law_right.nd⟩) (fun _ _ _ _ _ => ⟨_, dts_nil⟩) (fun _ _ _ _ _ => ⟨_, de_callT ok__law_whole hr mg__law_whole kp__law_whole bd__law_whole (da_cons (de_var 5) (da_nil))⟩) s) (da_nil))))⟩) s) (da_nil))))) (dss_one (ds_ret (de_bl))) (dss_nil))
  (dss_cons (ds_if (dt_w (dw_or (dt_notB (de_callT ok_is_web hr mg_is_web kp_is_web bd_is_web (da_cons (de_var 2) (da_nil))) (de_bl)) (dw_or (dt_notB (de_callT ok_is_loose hr mg_is_loose kp_is_loose bd_is_loose (da_cons (de_var 2) (da_cons (de_int) (da_nil)))) (de_bl)) (dw_or1 (dt_ne hr (de_callT ok_cuts hr mg_cuts kp_cuts bd_cuts (da_cons (de_var 2) (da_cons (de_int) (da_nil)))) (de_lst (da_nil))))))) (dss_one (ds_ret (de_bl))) (dss_nil))
  (dss_one (ds_ret (de_eqN hr (de_callS ok_stretch_web hr mg_stretch_web kp_stretch_web bd_stretch_web (da_cons (de_var 2) (da_cons (de_int) (da_nil)))) (de_var 2)))))))), rp__law_right⟩

abbrev s_law : Stmt := topS 37
theorem sc_law : FnScope ["_law_script", "_law_purse_here", "_law_web_here", "_law_handed", "_law_part_here", "_law_again", "_law_found"] ["_law_script"] (defScope s_law) := ⟨rfl, rfl, rfl, by decide +kernel, rfl, by decide +kernel, by decide +kernel⟩
theorem kl_law {P : Program} {w : World} {K : PySem.W.Frag} {mg : Str → Option Value} {base : Heap} {k : Nat} {f : Addr} {fd : FuncData} (B : Bi mg) (M : Mi mg) (F : Fun K "law" "law" s_law f fd) (G__law_purse : Kn P w K mg base k "_law_purse" ["_law_script"] C__law_purse) (G__law_web : Kn P w K mg base k "_law_web" ["_law_purse_here", "_law_loose"] C__law_web) (G__law_copy : Kn P w K mg base k "_law_copy" ["_law_web_here"] C__law_copy.s) (G_stretch_web : Kn P w K mg base k "stretch_web" ["web", "part"] C_stretch_web) (G__law_right : Kn P w K mg base k "_law_right" ["_law_web_here", "_law_part_here", "_law_found"] C__law_right.s) : FnOk P w K mg base CX0 (k + 1) f fd ["_law_script"] (sps K C_law) := by
  obtain ⟨f__law_purse, fd__law_purse, ok__law_purse, mg__law_purse, kp__law_purse, bd__law_purse⟩ := G__law_purse.ex
  obtain ⟨f__law_web, fd__law_web, ok__law_web, mg__law_web, kp__law_web, bd__law_web⟩ := G__law_web.ex
  obtain ⟨f__law_copy, fd__law_copy, ok__law_copy, mg__law_copy, kp__law_copy, bd__law_copy⟩ := G__law_copy.ex
  obtain ⟨f_stretch_web, fd_stretch_web, ok_stretch_web, mg_stretch_web, kp_stretch_web, bd_stretch_web⟩ := G_stretch_web.ex
  obtain ⟨f__law_right, fd__law_right, ok__law_right, mg__law_right, kp__law_right, bd__law_right⟩ := G__law_right.ex
  refine dfn_ok F sc_law ln_law ?_
  intro cdv A outer s H E hr
  exact ⟨_, rd_law, dss_cons (ds_set 1 sc_law.nd (de_callS ok__law_purse hr mg__law_purse kp__law_purse bd__law_purse (da_cons (de_var 0) (da_nil))))
  (dss_cons (ds_set 2 sc_law.nd (de_callS ok__law_web hr mg__law_web kp__law_web bd__law_web (da_cons (de_var 1) (da_cons (de_bl) (da_nil)))))
  (dss_cons (ds_set 3 sc_law.nd (de_callT ok__law_copy hr mg__law_copy kp__law_copy bd__law_copy (da_cons (de_var 2) (da_nil))))
  (dss_cons (ds_for rfl (di_range1 B.h_range (da_cons (de_len B.h_len (da_cons (de_ix (de_var 2) (de_int)) (da_nil))) (da_nil))) (dg_name 4 sc_law.nd) (dss_one (ds_for rfl (di_range1 B.h_range (da_cons (de_int) (da_nil))) (dg_name 5 sc_law.nd) (dss_cons (ds_set 6 sc_law.nd (de_callS ok_stretch_web hr mg_stretch_web kp_stretch_web bd_stretch_web (da_cons (de_var 3) (da_cons (de_var 4) (da_nil)))))
  (dss_cons (ds_if (dt_w (dw_or (dt_not (dt_val (de_callN ok__law_right hr mg__law_right kp__law_right bd__law_right (da_cons (de_var 2) (da_cons (de_var 4) (da_cons (de_var 6) (da_nil))))))) (dw_or1 (dt_ne hr (de_var 3) (de_var 2))))) (dss_one (ds_ret (de_bl))) (dss_nil))
  (dss_cons (ds_expr (de_append (de_ixP (de_var 6) (de_int)) (da_cons (de_int) (da_nil))))
  (dss_one (ds_expr (de_clear (de_ixP (de_var 6) (de_int)))))))))))
  (dss_one (ds_ret (de_eq hr (de_var 3) (de_var 2))))))), rp_law⟩

/-! the law's promise -/
def spLaw (K : PySem.W.Frag) : Sp := fun vs H Q _ => ∃ (a : Addr) (ns : List Int), vs = [.ref a] ∧ SqL K H a (ns.map V.int) ∧ ns.length ≤ 63 ∧ ∀ H', Q (.bl true) H'
theorem spLaw_of {K : PySem.W.Frag} : ∀ vs H Q E, spLaw K vs H Q E → sps K C_law vs H Q E := by
  rintro vs H Q E ⟨a, ns, rfl, hS, hl, q⟩
  refine ⟨[], H, fun _ => none, [], [.t (.sq (ns.map T.int))], fun w m cs => w = .t (.bl true), ⟨fun _ _ e => e, (fun _ _ e => by cases e), fun _ _ _ => rfl, rfl, (fun n c e => by simp at e), (fun n k c d a e => by simp at e)⟩, .cons ?_ .nil, ⟨ns, rfl, rfl, hl, rfl⟩, fun al2 S' H' m1 cs v w R' _ _ d e => ?_⟩
  · unfold DenW Den
    exact ⟨a, ns.map V.int, rfl, hS, Dens.iff.mpr (den_ints ns)⟩
  · subst e
    unfold DenW Den at d
    subst d
    exact q H'

theorem all_mk {l : PySem.W.OpenLaw} {w : World} {K : PySem.W.Frag} {h : Heap} {mg : Str → Option Value} {fa f1 f2 f3 f4 f5 f6 f7 f8 f9 f10 f11 f12 f13 f14 f15 f16 f17 f18 f19 f20 f21 f22 f23 f24 f25 f26 f27 : Addr} (X : K.In h) (G : h.Ns mainGlobals mg) (hfa : mg "law" = some (.ref fa))
    {od1 an1 od2 an2 od3 an3 od4 an4 od5 an5 od6 an6 od7 an7 od8 an8 od9 an9 od10 an10 od11 an11 od12 an12 od13 an13 od14 an14 od15 an15 od16 an16 od17 an17 od18 an18 od19 an19 od20 an20 od21 an21 od22 an22 od23 an23 od24 an24 od25 an25 od26 an26 od27 an27 : Option Addr} {sl1 sl2 sl3 sl4 sl5 sl6 sl7 sl8 sl9 sl10 sl11 sl12 sl13 sl14 sl15 sl16 sl17 sl18 sl19 sl20 sl21 sl22 sl23 sl24 sl25 sl26 sl27 : Array (Option Value)} {oc1 kV1 dc1 pm1 cd1 ct1 oc2 kV2 dc2 pm2 cd2 ct2 oc3 kV3 dc3 pm3 cd3 ct3 oc4 kV4 dc4 pm4 cd4 ct4 oc5 kV5 dc5 pm5 cd5 ct5 oc6 kV6 dc6 pm6 cd6 ct6 oc7 kV7 dc7 pm7 cd7 ct7 oc8 kV8 dc8 pm8 cd8 ct8 oc9 kV9 dc9 pm9 cd9 ct9 oc10 kV10 dc10 pm10 cd10 ct10 oc11 kV11 dc11 pm11 cd11 ct11 oc12 kV12 dc12 pm12 cd12 ct12 oc13 kV13 dc13 pm13 cd13 ct13 oc14 kV14 dc14 pm14 cd14 ct14 oc15 kV15 dc15 pm15 cd15 ct15 oc16 kV16 dc16 pm16 cd16 ct16 oc17 kV17 dc17 pm17 cd17 ct17 oc18 kV18 dc18 pm18 cd18 ct18 oc19 kV19 dc19 pm19 cd19 ct19 oc20 kV20 dc20 pm20 cd20 ct20 oc21 kV21 dc21 pm21 cd21 ct21 oc22 kV22 dc22 pm22 cd22 ct22 oc23 kV23 dc23 pm23 cd23 ct23 oc24 kV24 dc24 pm24 cd24 ct24 oc25 kV25 dc25 pm25 cd25 ct25 oc26 kV26 dc26 pm26 cd26 ct26 oc27 kV27 dc27 pm27 cd27 ct27 : Value} {tk_MOST_PLACES : Tok} {tk_MOST_PARTS : Tok} {tk_MOST_ROWS : Tok}
    (a1 : PySem.W.nsIn K mainGlobals "_law_purse" = some (some (.ref f1))) (l1 : K.lookup f1 = some ⟨oc1, od1, .func (PySem.W.fnOf "_law_purse" "_law_purse" (defArgs s__law_purse) (defBody s__law_purse) (defScope s__law_purse) .none kV1 dc1 pm1 an1 cd1 ct1), sl1⟩) (c1 : PySem.W.codeIn K cd1 "_law_purse" = true) (k1 : PySem.W.keepIn K (.ref f1) = true)
    (a2 : PySem.W.nsIn K mainGlobals "_law_draw" = some (some (.ref f2))) (l2 : K.lookup f2 = some ⟨oc2, od2, .func (PySem.W.fnOf "_law_draw" "_law_draw" (defArgs s__law_draw) (defBody s__law_draw) (defScope s__law_draw) .none kV2 dc2 pm2 an2 cd2 ct2), sl2⟩) (c2 : PySem.W.codeIn K cd2 "_law_draw" = true) (k2 : PySem.W.keepIn K (.ref f2) = true)
    (a3 : PySem.W.nsIn K mainGlobals "_law_order" = some (some (.ref f3))) (l3 : K.lookup f3 = some ⟨oc3, od3, .func (PySem.W.fnOf "_law_order" "_law_order" (defArgs s__law_order) (defBody s__law_order) (defScope s__law_order) .none kV3 dc3 pm3 an3 cd3 ct3), sl3⟩) (c3 : PySem.W.codeIn K cd3 "_law_order" = true) (k3 : PySem.W.keepIn K (.ref f3) = true)
    (a4 : PySem.W.nsIn K mainGlobals "_law_part" = some (some (.ref f4))) (l4 : K.lookup f4 = some ⟨oc4, od4, .func (PySem.W.fnOf "_law_part" "_law_part" (defArgs s__law_part) (defBody s__law_part) (defScope s__law_part) .none kV4 dc4 pm4 an4 cd4 ct4), sl4⟩) (c4 : PySem.W.codeIn K cd4 "_law_part" = true) (k4 : PySem.W.keepIn K (.ref f4) = true)
    (a5 : PySem.W.nsIn K mainGlobals "_law_called" = some (some (.ref f5))) (l5 : K.lookup f5 = some ⟨oc5, od5, .func (PySem.W.fnOf "_law_called" "_law_called" (defArgs s__law_called) (defBody s__law_called) (defScope s__law_called) .none kV5 dc5 pm5 an5 cd5 ct5), sl5⟩) (c5 : PySem.W.codeIn K cd5 "_law_called" = true) (k5 : PySem.W.keepIn K (.ref f5) = true)
    (a6 : PySem.W.nsIn K mainGlobals "_law_web" = some (some (.ref f6))) (l6 : K.lookup f6 = some ⟨oc6, od6, .func (PySem.W.fnOf "_law_web" "_law_web" (defArgs s__law_web) (defBody s__law_web) (defScope s__law_web) .none kV6 dc6 pm6 an6 cd6 ct6), sl6⟩) (c6 : PySem.W.codeIn K cd6 "_law_web" = true) (k6 : PySem.W.keepIn K (.ref f6) = true)
    (a7 : PySem.W.nsIn K mainGlobals "_law_copy" = some (some (.ref f7))) (l7 : K.lookup f7 = some ⟨oc7, od7, .func (PySem.W.fnOf "_law_copy" "_law_copy" (defArgs s__law_copy) (defBody s__law_copy) (defScope s__law_copy) .none kV7 dc7 pm7 an7 cd7 ct7), sl7⟩) (c7 : PySem.W.codeIn K cd7 "_law_copy" = true) (k7 : PySem.W.keepIn K (.ref f7) = true)
    (a8 : PySem.W.nsIn K mainGlobals "fits_row" = some (some (.ref f8))) (l8 : K.lookup f8 = some ⟨oc8, od8, .func (PySem.W.fnOf "fits_row" "fits_row" (defArgs s_fits_row) (defBody s_fits_row) (defScope s_fits_row) .none kV8 dc8 pm8 an8 cd8 ct8), sl8⟩) (c8 : PySem.W.codeIn K cd8 "fits_row" = true) (k8 : PySem.W.keepIn K (.ref f8) = true)
    (a9 : PySem.W.nsIn K mainGlobals "rows_of" = some (some (.ref f9))) (l9 : K.lookup f9 = some ⟨oc9, od9, .func (PySem.W.fnOf "rows_of" "rows_of" (defArgs s_rows_of) (defBody s_rows_of) (defScope s_rows_of) .none kV9 dc9 pm9 an9 cd9 ct9), sl9⟩) (c9 : PySem.W.codeIn K cd9 "rows_of" = true) (k9 : PySem.W.keepIn K (.ref f9) = true)
    (a10 : PySem.W.nsIn K mainGlobals "reached" = some (some (.ref f10))) (l10 : K.lookup f10 = some ⟨oc10, od10, .func (PySem.W.fnOf "reached" "reached" (defArgs s_reached) (defBody s_reached) (defScope s_reached) .none kV10 dc10 pm10 an10 cd10 ct10), sl10⟩) (c10 : PySem.W.codeIn K cd10 "reached" = true) (k10 : PySem.W.keepIn K (.ref f10) = true)
    (a11 : PySem.W.nsIn K mainGlobals "is_web" = some (some (.ref f11))) (l11 : K.lookup f11 = some ⟨oc11, od11, .func (PySem.W.fnOf "is_web" "is_web" (defArgs s_is_web) (defBody s_is_web) (defScope s_is_web) .none kV11 dc11 pm11 an11 cd11 ct11), sl11⟩) (c11 : PySem.W.codeIn K cd11 "is_web" = true) (k11 : PySem.W.keepIn K (.ref f11) = true)
    (a12 : PySem.W.nsIn K mainGlobals "must_be_web" = some (some (.ref f12))) (l12 : K.lookup f12 = some ⟨oc12, od12, .func (PySem.W.fnOf "must_be_web" "must_be_web" (defArgs s_must_be_web) (defBody s_must_be_web) (defScope s_must_be_web) .none kV12 dc12 pm12 an12 cd12 ct12), sl12⟩) (c12 : PySem.W.codeIn K cd12 "must_be_web" = true) (k12 : PySem.W.keepIn K (.ref f12) = true)
    (a13 : PySem.W.nsIn K mainGlobals "must_be_part" = some (some (.ref f13))) (l13 : K.lookup f13 = some ⟨oc13, od13, .func (PySem.W.fnOf "must_be_part" "must_be_part" (defArgs s_must_be_part) (defBody s_must_be_part) (defScope s_must_be_part) .none kV13 dc13 pm13 an13 cd13 ct13), sl13⟩) (c13 : PySem.W.codeIn K cd13 "must_be_part" = true) (k13 : PySem.W.keepIn K (.ref f13) = true)
    (a14 : PySem.W.nsIn K mainGlobals "rows_from" = some (some (.ref f14))) (l14 : K.lookup f14 = some ⟨oc14, od14, .func (PySem.W.fnOf "rows_from" "rows_from" (defArgs s_rows_from) (defBody s_rows_from) (defScope s_rows_from) .none kV14 dc14 pm14 an14 cd14 ct14), sl14⟩) (c14 : PySem.W.codeIn K cd14 "rows_from" = true) (k14 : PySem.W.keepIn K (.ref f14) = true)
    (a15 : PySem.W.nsIn K mainGlobals "cuts" = some (some (.ref f15))) (l15 : K.lookup f15 = some ⟨oc15, od15, .func (PySem.W.fnOf "cuts" "cuts" (defArgs s_cuts) (defBody s_cuts) (defScope s_cuts) .none kV15 dc15 pm15 an15 cd15 ct15), sl15⟩) (c15 : PySem.W.codeIn K cd15 "cuts" = true) (k15 : PySem.W.keepIn K (.ref f15) = true)
    (a16 : PySem.W.nsIn K mainGlobals "cut_apart" = some (some (.ref f16))) (l16 : K.lookup f16 = some ⟨oc16, od16, .func (PySem.W.fnOf "cut_apart" "cut_apart" (defArgs s_cut_apart) (defBody s_cut_apart) (defScope s_cut_apart) .none kV16 dc16 pm16 an16 cd16 ct16), sl16⟩) (c16 : PySem.W.codeIn K cd16 "cut_apart" = true) (k16 : PySem.W.keepIn K (.ref f16) = true)
    (a17 : PySem.W.nsIn K mainGlobals "stretch_web" = some (some (.ref f17))) (l17 : K.lookup f17 = some ⟨oc17, od17, .func (PySem.W.fnOf "stretch_web" "stretch_web" (defArgs s_stretch_web) (defBody s_stretch_web) (defScope s_stretch_web) .none kV17 dc17 pm17 an17 cd17 ct17), sl17⟩) (c17 : PySem.W.codeIn K cd17 "stretch_web" = true) (k17 : PySem.W.keepIn K (.ref f17) = true)
    (a18 : PySem.W.nsIn K mainGlobals "_law_from" = some (some (.ref f18))) (l18 : K.lookup f18 = some ⟨oc18, od18, .func (PySem.W.fnOf "_law_from" "_law_from" (defArgs s__law_from) (defBody s__law_from) (defScope s__law_from) .none kV18 dc18 pm18 an18 cd18 ct18), sl18⟩) (c18 : PySem.W.codeIn K cd18 "_law_from" = true) (k18 : PySem.W.keepIn K (.ref f18) = true)
    (a19 : PySem.W.nsIn K mainGlobals "_law_go" = some (some (.ref f19))) (l19 : K.lookup f19 = some ⟨oc19, od19, .func (PySem.W.fnOf "_law_go" "_law_go" (defArgs s__law_go) (defBody s__law_go) (defScope s__law_go) .none kV19 dc19 pm19 an19 cd19 ct19), sl19⟩) (c19 : PySem.W.codeIn K cd19 "_law_go" = true) (k19 : PySem.W.keepIn K (.ref f19) = true)
    (a20 : PySem.W.nsIn K mainGlobals "_law_cuts" = some (some (.ref f20))) (l20 : K.lookup f20 = some ⟨oc20, od20, .func (PySem.W.fnOf "_law_cuts" "_law_cuts" (defArgs s__law_cuts) (defBody s__law_cuts) (defScope s__law_cuts) .none kV20 dc20 pm20 an20 cd20 ct20), sl20⟩) (c20 : PySem.W.codeIn K cd20 "_law_cuts" = true) (k20 : PySem.W.keepIn K (.ref f20) = true)
    (a21 : PySem.W.nsIn K mainGlobals "_law_marked" = some (some (.ref f21))) (l21 : K.lookup f21 = some ⟨oc21, od21, .func (PySem.W.fnOf "_law_marked" "_law_marked" (defArgs s__law_marked) (defBody s__law_marked) (defScope s__law_marked) .none kV21 dc21 pm21 an21 cd21 ct21), sl21⟩) (c21 : PySem.W.codeIn K cd21 "_law_marked" = true) (k21 : PySem.W.keepIn K (.ref f21) = true)
    (a22 : PySem.W.nsIn K mainGlobals "_law_whole" = some (some (.ref f22))) (l22 : K.lookup f22 = some ⟨oc22, od22, .func (PySem.W.fnOf "_law_whole" "_law_whole" (defArgs s__law_whole) (defBody s__law_whole) (defScope s__law_whole) .none kV22 dc22 pm22 an22 cd22 ct22), sl22⟩) (c22 : PySem.W.codeIn K cd22 "_law_whole" = true) (k22 : PySem.W.keepIn K (.ref f22) = true)
    (a23 : PySem.W.nsIn K mainGlobals "led_to" = some (some (.ref f23))) (l23 : K.lookup f23 = some ⟨oc23, od23, .func (PySem.W.fnOf "led_to" "led_to" (defArgs s_led_to) (defBody s_led_to) (defScope s_led_to) .none kV23 dc23 pm23 an23 cd23 ct23), sl23⟩) (c23 : PySem.W.codeIn K cd23 "led_to" = true) (k23 : PySem.W.keepIn K (.ref f23) = true)
    (a24 : PySem.W.nsIn K mainGlobals "order_of" = some (some (.ref f24))) (l24 : K.lookup f24 = some ⟨oc24, od24, .func (PySem.W.fnOf "order_of" "order_of" (defArgs s_order_of) (defBody s_order_of) (defScope s_order_of) .none kV24 dc24 pm24 an24 cd24 ct24), sl24⟩) (c24 : PySem.W.codeIn K cd24 "order_of" = true) (k24 : PySem.W.keepIn K (.ref f24) = true)
    (a25 : PySem.W.nsIn K mainGlobals "is_loose" = some (some (.ref f25))) (l25 : K.lookup f25 = some ⟨oc25, od25, .func (PySem.W.fnOf "is_loose" "is_loose" (defArgs s_is_loose) (defBody s_is_loose) (defScope s_is_loose) .none kV25 dc25 pm25 an25 cd25 ct25), sl25⟩) (c25 : PySem.W.codeIn K cd25 "is_loose" = true) (k25 : PySem.W.keepIn K (.ref f25) = true)
    (a26 : PySem.W.nsIn K mainGlobals "_law_right" = some (some (.ref f26))) (l26 : K.lookup f26 = some ⟨oc26, od26, .func (PySem.W.fnOf "_law_right" "_law_right" (defArgs s__law_right) (defBody s__law_right) (defScope s__law_right) .none kV26 dc26 pm26 an26 cd26 ct26), sl26⟩) (c26 : PySem.W.codeIn K cd26 "_law_right" = true) (k26 : PySem.W.keepIn K (.ref f26) = true)
    (a27 : PySem.W.nsIn K mainGlobals "law" = some (some (.ref f27))) (l27 : K.lookup f27 = some ⟨oc27, od27, .func (PySem.W.fnOf "law" "law" (defArgs s_law) (defBody s_law) (defScope s_law) .none kV27 dc27 pm27 an27 cd27 ct27), sl27⟩) (c27 : PySem.W.codeIn K cd27 "law" = true) (k27 : PySem.W.keepIn K (.ref f27) = true)
    (z_len : PySem.W.nsIn K mainGlobals "len" = some none)
    (z_range : PySem.W.nsIn K mainGlobals "range" = some none)
    (z_sum : PySem.W.nsIn K mainGlobals "sum" = some none)
    (z_min : PySem.W.nsIn K mainGlobals "min" = some none)
    (z_max : PySem.W.nsIn K mainGlobals "max" = some none)
    (z_all : PySem.W.nsIn K mainGlobals "all" = some none)
    (z_any : PySem.W.nsIn K mainGlobals "any" = some none)
    (z_abs : PySem.W.nsIn K mainGlobals "abs" = some none)
    (z_isinstance : PySem.W.nsIn K mainGlobals "isinstance" = some none)
    (z_int : PySem.W.nsIn K mainGlobals "int" = some none)
    (z_bool : PySem.W.nsIn K mainGlobals "bool" = some none)
    (z_list : PySem.W.nsIn K mainGlobals "list" = some none)
    (z_tuple : PySem.W.nsIn K mainGlobals "tuple" = some none)
    (z_str : PySem.W.nsIn K mainGlobals "str" = some none)
    (z_dict : PySem.W.nsIn K mainGlobals "dict" = some none)
    (z_sorted : PySem.W.nsIn K mainGlobals "sorted" = some none)
    (z_zip : PySem.W.nsIn K mainGlobals "zip" = some none)
    (z_enumerate : PySem.W.nsIn K mainGlobals "enumerate" = some none)
    (z_set : PySem.W.nsIn K mainGlobals "set" = some none)
    (t_MOST_PLACES : PySem.W.nsIn K mainGlobals "MOST_PLACES" = some (some (.int 16 tk_MOST_PLACES)))
    (t_MOST_PARTS : PySem.W.nsIn K mainGlobals "MOST_PARTS" = some (some (.int 4 tk_MOST_PARTS)))
    (t_MOST_ROWS : PySem.W.nsIn K mainGlobals "MOST_ROWS" = some (some (.int 60 tk_MOST_ROWS)))
    : ∃ fd : FuncData, (∀ (s : Shared) (v : Value), BindsTo s fd ⟨[v], []⟩ [("_law_script", v)]) ∧ ∀ base : Heap, K.In base → base.Ns mainGlobals mg → FnOk l.prog w K mg base CX0 23 fa fd ["_law_script"] (spLaw K) := by
  have e := hfa.symm.trans (PySem.W.mg_of X G a27)
  cases e
  refine ⟨PySem.W.fnOf "law" "law" (defArgs s_law) (defBody s_law) (defScope s_law) .none kV27 dc27 pm27 an27 cd27 ct27, fun s v => .of_eq rfl, fun base _ _ => ?_⟩
  have B : Bi mg := ⟨PySem.W.mg_none_of X G z_len, PySem.W.mg_none_of X G z_range, PySem.W.mg_none_of X G z_sum, PySem.W.mg_none_of X G z_min, PySem.W.mg_none_of X G z_max, PySem.W.mg_none_of X G z_all, PySem.W.mg_none_of X G z_any, PySem.W.mg_none_of X G z_abs, PySem.W.mg_none_of X G z_isinstance, PySem.W.mg_none_of X G z_int, PySem.W.mg_none_of X G z_bool, PySem.W.mg_none_of X G z_list, PySem.W.mg_none_of X G z_tuple, PySem.W.mg_none_of X G z_str, PySem.W.mg_none_of X G z_dict, PySem.W.mg_none_of X G z_sorted, PySem.W.mg_none_of X G z_zip, PySem.W.mg_none_of X G z_enumerate⟩
  have M : Mi mg := ⟨PySem.W.mg_none_of X G z_set, ⟨_, PySem.W.mg_of X G t_MOST_PLACES⟩, ⟨_, PySem.W.mg_of X G t_MOST_PARTS⟩, ⟨_, PySem.W.mg_of X G t_MOST_ROWS⟩⟩
  have O1 : Ow K mg "_law_purse" s__law_purse ["_law_script"] := ⟨_, _, fun_mk (st := s__law_purse) l1 c1 k1, PySem.W.mg_of X G a1, (fun_mk (st := s__law_purse) l1 c1 k1).binds (ps := ["_law_script"]) fun _ _ _ _ _ _ us hl => match us, hl with | [_], _ => rfl⟩
  have O2 : Ow K mg "_law_draw" s__law_draw ["_law_purse_here", "_law_out_of"] := ⟨_, _, fun_mk (st := s__law_draw) l2 c2 k2, PySem.W.mg_of X G a2, (fun_mk (st := s__law_draw) l2 c2 k2).binds (ps := ["_law_purse_here", "_law_out_of"]) fun _ _ _ _ _ _ us hl => match us, hl with | [_, _], _ => rfl⟩
  have O3 : Ow K mg "_law_order" s__law_order ["_law_purse_here", "_law_many"] := ⟨_, _, fun_mk (st := s__law_order) l3 c3 k3, PySem.W.mg_of X G a3, (fun_mk (st := s__law_order) l3 c3 k3).binds (ps := ["_law_purse_here", "_law_many"]) fun _ _ _ _ _ _ us hl => match us, hl with | [_, _], _ => rfl⟩
  have O4 : Ow K mg "_law_part" s__law_part ["_law_purse_here", "_law_many", "_law_loose"] := ⟨_, _, fun_mk (st := s__law_part) l4 c4 k4, PySem.W.mg_of X G a4, (fun_mk (st := s__law_part) l4 c4 k4).binds (ps := ["_law_purse_here", "_law_many", "_law_loose"]) fun _ _ _ _ _ _ us hl => match us, hl with | [_, _, _], _ => rfl⟩
  have O5 : Ow K mg "_law_called" s__law_called ["_law_purse_here", "_law_rows", "_law_parts"] := ⟨_, _, fun_mk (st := s__law_called) l5 c5 k5, PySem.W.mg_of X G a5, (fun_mk (st := s__law_called) l5 c5 k5).binds (ps := ["_law_purse_here", "_law_rows", "_law_parts"]) fun _ _ _ _ _ _ us hl => match us, hl with | [_, _, _], _ => rfl⟩
  have O6 : Ow K mg "_law_web" s__law_web ["_law_purse_here", "_law_loose"] := ⟨_, _, fun_mk (st := s__law_web) l6 c6 k6, PySem.W.mg_of X G a6, (fun_mk (st := s__law_web) l6 c6 k6).binds (ps := ["_law_purse_here", "_law_loose"]) fun _ _ _ _ _ _ us hl => match us, hl with | [_, _], _ => rfl⟩
  have O7 : Ow K mg "_law_copy" s__law_copy ["_law_web_here"] := ⟨_, _, fun_mk (st := s__law_copy) l7 c7 k7, PySem.W.mg_of X G a7, (fun_mk (st := s__law_copy) l7 c7 k7).binds (ps := ["_law_web_here"]) fun _ _ _ _ _ _ us hl => match us, hl with | [_], _ => rfl⟩
  have O8 : Ow K mg "fits_row" s_fits_row ["web", "row"] := ⟨_, _, fun_mk (st := s_fits_row) l8 c8 k8, PySem.W.mg_of X G a8, (fun_mk (st := s_fits_row) l8 c8 k8).binds (ps := ["web", "row"]) fun _ _ _ _ _ _ us hl => match us, hl with | [_, _], _ => rfl⟩
  have O9 : Ow K mg "rows_of" s_rows_of ["web", "part"] := ⟨_, _, fun_mk (st := s_rows_of) l9 c9 k9, PySem.W.mg_of X G a9, (fun_mk (st := s_rows_of) l9 c9 k9).binds (ps := ["web", "part"]) fun _ _ _ _ _ _ us hl => match us, hl with | [_, _], _ => rfl⟩
  have O10 : Ow K mg "reached" s_reached ["web", "part", "start", "turned"] := ⟨_, _, fun_mk (st := s_reached) l10 c10 k10, PySem.W.mg_of X G a10, (fun_mk (st := s_reached) l10 c10 k10).binds (ps := ["web", "part", "start", "turned"]) fun _ _ _ _ _ _ us hl => match us, hl with | [_, _, _, _], _ => rfl⟩
  have O11 : Ow K mg "is_web" s_is_web ["web"] := ⟨_, _, fun_mk (st := s_is_web) l11 c11 k11, PySem.W.mg_of X G a11, (fun_mk (st := s_is_web) l11 c11 k11).binds (ps := ["web"]) fun _ _ _ _ _ _ us hl => match us, hl with | [_], _ => rfl⟩
  have O12 : Ow K mg "must_be_web" s_must_be_web ["web"] := ⟨_, _, fun_mk (st := s_must_be_web) l12 c12 k12, PySem.W.mg_of X G a12, (fun_mk (st := s_must_be_web) l12 c12 k12).binds (ps := ["web"]) fun _ _ _ _ _ _ us hl => match us, hl with | [_], _ => rfl⟩
  have O13 : Ow K mg "must_be_part" s_must_be_part ["web", "part"] := ⟨_, _, fun_mk (st := s_must_be_part) l13 c13 k13, PySem.W.mg_of X G a13, (fun_mk (st := s_must_be_part) l13 c13 k13).binds (ps := ["web", "part"]) fun _ _ _ _ _ _ us hl => match us, hl with | [_, _], _ => rfl⟩
  have O14 : Ow K mg "rows_from" s_rows_from ["web", "part", "place"] := ⟨_, _, fun_mk (st := s_rows_from) l14 c14 k14, PySem.W.mg_of X G a14, (fun_mk (st := s_rows_from) l14 c14 k14).binds (ps := ["web", "part", "place"]) fun _ _ _ _ _ _ us hl => match us, hl with | [_, _, _], _ => rfl⟩
  have O15 : Ow K mg "cuts" s_cuts ["web", "part"] := ⟨_, _, fun_mk (st := s_cuts) l15 c15 k15, PySem.W.mg_of X G a15, (fun_mk (st := s_cuts) l15 c15 k15).binds (ps := ["web", "part"]) fun _ _ _ _ _ _ us hl => match us, hl with | [_, _], _ => rfl⟩
  have O16 : Ow K mg "cut_apart" s_cut_apart ["web", "part"] := ⟨_, _, fun_mk (st := s_cut_apart) l16 c16 k16, PySem.W.mg_of X G a16, (fun_mk (st := s_cut_apart) l16 c16 k16).binds (ps := ["web", "part"]) fun _ _ _ _ _ _ us hl => match us, hl with | [_, _], _ => rfl⟩
  have O17 : Ow K mg "stretch_web" s_stretch_web ["web", "part"] := ⟨_, _, fun_mk (st := s_stretch_web) l17 c17 k17, PySem.W.mg_of X G a17, (fun_mk (st := s_stretch_web) l17 c17 k17).binds (ps := ["web", "part"]) fun _ _ _ _ _ _ us hl => match us, hl with | [_, _], _ => rfl⟩
  have O18 : Ow K mg "_law_from" s__law_from ["_law_web_here", "_law_part_here", "_law_place"] := ⟨_, _, fun_mk (st := s__law_from) l18 c18 k18, PySem.W.mg_of X G a18, (fun_mk (st := s__law_from) l18 c18 k18).binds (ps := ["_law_web_here", "_law_part_here", "_law_place"]) fun _ _ _ _ _ _ us hl => match us, hl with | [_, _, _], _ => rfl⟩
  have O19 : Ow K mg "_law_go" s__law_go ["_law_web_here", "_law_part_here", "_law_standing", "_law_left", "_law_cut"] := ⟨_, _, fun_mk (st := s__law_go) l19 c19 k19, PySem.W.mg_of X G a19, (fun_mk (st := s__law_go) l19 c19 k19).binds (ps := ["_law_web_here", "_law_part_here", "_law_standing", "_law_left", "_law_cut"]) fun _ _ _ _ _ _ us hl => match us, hl with | [_, _, _, _, _], _ => rfl⟩
  have O20 : Ow K mg "_law_cuts" s__law_cuts ["_law_web_here", "_law_part_here"] := ⟨_, _, fun_mk (st := s__law_cuts) l20 c20 k20, PySem.W.mg_of X G a20, (fun_mk (st := s__law_cuts) l20 c20 k20).binds (ps := ["_law_web_here", "_law_part_here"]) fun _ _ _ _ _ _ us hl => match us, hl with | [_, _], _ => rfl⟩
  have O21 : Ow K mg "_law_marked" s__law_marked ["_law_web_here", "_law_part_here"] := ⟨_, _, fun_mk (st := s__law_marked) l21 c21 k21, PySem.W.mg_of X G a21, (fun_mk (st := s__law_marked) l21 c21 k21).binds (ps := ["_law_web_here", "_law_part_here"]) fun _ _ _ _ _ _ us hl => match us, hl with | [_, _], _ => rfl⟩
  have O22 : Ow K mg "_law_whole" s__law_whole ["_law_found"] := ⟨_, _, fun_mk (st := s__law_whole) l22 c22 k22, PySem.W.mg_of X G a22, (fun_mk (st := s__law_whole) l22 c22 k22).binds (ps := ["_law_found"]) fun _ _ _ _ _ _ us hl => match us, hl with | [_], _ => rfl⟩
  have O23 : Ow K mg "led_to" s_led_to ["web", "part", "some"] := ⟨_, _, fun_mk (st := s_led_to) l23 c23 k23, PySem.W.mg_of X G a23, (fun_mk (st := s_led_to) l23 c23 k23).binds (ps := ["web", "part", "some"]) fun _ _ _ _ _ _ us hl => match us, hl with | [_, _, _], _ => rfl⟩
  have O24 : Ow K mg "order_of" s_order_of ["web", "part"] := ⟨_, _, fun_mk (st := s_order_of) l24 c24 k24, PySem.W.mg_of X G a24, (fun_mk (st := s_order_of) l24 c24 k24).binds (ps := ["web", "part"]) fun _ _ _ _ _ _ us hl => match us, hl with | [_, _], _ => rfl⟩
  have O25 : Ow K mg "is_loose" s_is_loose ["web", "part"] := ⟨_, _, fun_mk (st := s_is_loose) l25 c25 k25, PySem.W.mg_of X G a25, (fun_mk (st := s_is_loose) l25 c25 k25).binds (ps := ["web", "part"]) fun _ _ _ _ _ _ us hl => match us, hl with | [_, _], _ => rfl⟩
  have O26 : Ow K mg "_law_right" s__law_right ["_law_web_here", "_law_part_here", "_law_found"] := ⟨_, _, fun_mk (st := s__law_right) l26 c26 k26, PySem.W.mg_of X G a26, (fun_mk (st := s__law_right) l26 c26 k26).binds (ps := ["_law_web_here", "_law_part_here", "_law_found"]) fun _ _ _ _ _ _ us hl => match us, hl with | [_, _, _], _ => rfl⟩
  have K1 := kn__law_purse (P := l.prog) (w := w) (base := base) (k := 0) B M O1
  have K2 := kn__law_draw (P := l.prog) (w := w) (base := base) (k := 0) B M O2
  have K3 := kn__law_order (P := l.prog) (w := w) (base := base) (k := 1) B M O3 (K2.mono (by decide))
  have K4 := kn__law_part (P := l.prog) (w := w) (base := base) (k := 2) B M O4 (K2.mono (by decide)) (K3.mono (by decide))
  have K5 := kn__law_called (P := l.prog) (w := w) (base := base) (k := 1) B M O5 (K2.mono (by decide))
  have K6 := kn__law_web (P := l.prog) (w := w) (base := base) (k := 3) B M O6 (K2.mono (by decide)) (K4.mono (by decide)) (K5.mono (by decide)) (K3.mono (by decide))
  have K7 := kn__law_copy (P := l.prog) (w := w) (base := base) (k := 0) B M O7
  have K8 := kn_fits_row (P := l.prog) (w := w) (base := base) (k := 0) B M O8
  have K9 := kn_rows_of (P := l.prog) (w := w) (base := base) (k := 0) B M O9
  have K10 := kn_reached (P := l.prog) (w := w) (base := base) (k := 1) B M O10 (K9.mono (by decide))
  have K11 := kn_is_web (P := l.prog) (w := w) (base := base) (k := 2) B M O11 (K8.mono (by decide)) (K10.mono (by decide))
  have K12 := kn_must_be_web (P := l.prog) (w := w) (base := base) (k := 3) B M O12 (K11.mono (by decide))
  have K13 := kn_must_be_part (P := l.prog) (w := w) (base := base) (k := 4) B M O13 (K12.mono (by decide))
  have K14 := kn_rows_from (P := l.prog) (w := w) (base := base) (k := 1) B M O14 (K9.mono (by decide))
  have K15 := kn_cuts (P := l.prog) (w := w) (base := base) (k := 5) B M O15 (K13.mono (by decide)) (K14.mono (by decide))
  have K16 := kn_cut_apart (P := l.prog) (w := w) (base := base) (k := 6) B M O16 (K15.mono (by decide)) (K9.mono (by decide))
  have K17 := kn_stretch_web (P := l.prog) (w := w) (base := base) (k := 7) B M O17 (K16.mono (by decide))
  have K18 := kn__law_from (P := l.prog) (w := w) (base := base) (k := 0) B M O18
  have K19 := kn__law_go (P := l.prog) (w := w) (base := base) (k := 1) B M O19 (K18.mono (by decide)) 17
  have K20 := kn__law_cuts (P := l.prog) (w := w) (base := base) (k := 19) B M O20 (K19.mono (by decide))
  have K21 := kn__law_marked (P := l.prog) (w := w) (base := base) (k := 20) B M O21 (K20.mono (by decide))
  have K22 := kn__law_whole (P := l.prog) (w := w) (base := base) (k := 0) B M O22
  have K23 := kn_led_to (P := l.prog) (w := w) (base := base) (k := 1) B M O23 (K9.mono (by decide))
  have K24 := kn_order_of (P := l.prog) (w := w) (base := base) (k := 2) B M O24 (K23.mono (by decide))
  have K25 := kn_is_loose (P := l.prog) (w := w) (base := base) (k := 5) B M O25 (K13.mono (by decide)) (K24.mono (by decide))
  have K26 := kn__law_right (P := l.prog) (w := w) (base := base) (k := 21) B M O26 (K21.mono (by decide)) (K22.mono (by decide)) (K11.mono (by decide)) (K25.mono (by decide)) (K15.mono (by decide)) (K17.mono (by decide))
  exact (kl_law (k := 22) B M (fun_mk (st := s_law) l27 c27 k27) (K1.mono (by decide)) (K6.mono (by decide)) (K7.mono (by decide)) (K17.mono (by decide)) (K26.mono (by decide))).imp spLaw_of
end DL
open PySem PySem.W PyProof.Rows
set_option maxHeartbeats 0 in
theorem PySem.Challenge.cw_fewcounters_k51_whole_stretch_webs_holds : PySem.Challenge.rw_fewcounters_k51_whole_stretch_webs.Holds := by
  w_on; o_law; k_head; (case hw => w_witness2)
  k_fill
  refine L2.walk_of (l := PySem.Challenge.rw_fewcounters_k51_whole_stretch_webs) (n := 63) (k := 23) (x := "_law_script") (CX := fun _ => L2.CX0) (sp := fun w => DL.spLaw _) rfl (by decide) rfl ⟨rfl, by decide, by decide⟩ (fun w h Y => by first | exact PySem.W.kIn_of Y | exact PySem.W.km_in_of Y) ?F (fun _ _ a ns hl _ hS => ⟨a, ns, rfl, hS, hl, fun _ => rfl⟩) (fun _ _ _ _ _ h => h)
  case F =>
    intro w mg fa h KX G hmg
    refine' DL.all_mk KX G hmg ?a1 ?l1 ?c1 ?k1 ?a2 ?l2 ?c2 ?k2 ?a3 ?l3 ?c3 ?k3 ?a4 ?l4 ?c4 ?k4 ?a5 ?l5 ?c5 ?k5 ?a6 ?l6 ?c6 ?k6 ?a7 ?l7 ?c7 ?k7 ?a8 ?l8 ?c8 ?k8 ?a9 ?l9 ?c9 ?k9 ?a10 ?l10 ?c10 ?k10 ?a11 ?l11 ?c11 ?k11 ?a12 ?l12 ?c12 ?k12 ?a13 ?l13 ?c13 ?k13 ?a14 ?l14 ?c14 ?k14 ?a15 ?l15 ?c15 ?k15 ?a16 ?l16 ?c16 ?k16 ?a17 ?l17 ?c17 ?k17 ?a18 ?l18 ?c18 ?k18 ?a19 ?l19 ?c19 ?k19 ?a20 ?l20 ?c20 ?k20 ?a21 ?l21 ?c21 ?k21 ?a22 ?l22 ?c22 ?k22 ?a23 ?l23 ?c23 ?k23 ?a24 ?l24 ?c24 ?k24 ?a25 ?l25 ?c25 ?k25 ?a26 ?l26 ?c26 ?k26 ?a27 ?l27 ?c27 ?k27 ?z_len ?z_range ?z_sum ?z_min ?z_max ?z_all ?z_any ?z_abs ?z_isinstance ?z_int ?z_bool ?z_list ?z_tuple ?z_str ?z_dict ?z_sorted ?z_zip ?z_enumerate ?z_set ?t_MOST_PLACES ?t_MOST_PARTS ?t_MOST_ROWS
    (case a1 => k_is); (case l1 => k_is); (case c1 => k_is); (case k1 => k_is); (case a2 => k_is); (case l2 => k_is); (case c2 => k_is); (case k2 => k_is); (case a3 => k_is); (case l3 => k_is); (case c3 => k_is); (case k3 => k_is); (case a4 => k_is); (case l4 => k_is); (case c4 => k_is); (case k4 => k_is); (case a5 => k_is); (case l5 => k_is); (case c5 => k_is); (case k5 => k_is); (case a6 => k_is); (case l6 => k_is); (case c6 => k_is); (case k6 => k_is); (case a7 => k_is); (case l7 => k_is); (case c7 => k_is); (case k7 => k_is); (case a8 => k_is); (case l8 => k_is); (case c8 => k_is); (case k8 => k_is); (case a9 => k_is); (case l9 => k_is); (case c9 => k_is); (case k9 => k_is); (case a10 => k_is); (case l10 => k_is); (case c10 => k_is); (case k10 => k_is); (case a11 => k_is); (case l11 => k_is); (case c11 => k_is); (case k11 => k_is); (case a12 => k_is); (case l12 => k_is); (case c12 => k_is); (case k12 => k_is); (case a13 => k_is); (case l13 => k_is); (case c13 => k_is); (case k13 => k_is); (case a14 => k_is); (case l14 => k_is); (case c14 => k_is); (case k14 => k_is); (case a15 => k_is); (case l15 => k_is); (case c15 => k_is); (case k15 => k_is); (case a16 => k_is); (case l16 => k_is); (case c16 => k_is); (case k16 => k_is); (case a17 => k_is); (case l17 => k_is); (case c17 => k_is); (case k17 => k_is); (case a18 => k_is); (case l18 => k_is); (case c18 => k_is); (case k18 => k_is); (case a19 => k_is); (case l19 => k_is); (case c19 => k_is); (case k19 => k_is); (case a20 => k_is); (case l20 => k_is); (case c20 => k_is); (case k20 => k_is); (case a21 => k_is); (case l21 => k_is); (case c21 => k_is); (case k21 => k_is); (case a22 => k_is); (case l22 => k_is); (case c22 => k_is); (case k22 => k_is); (case a23 => k_is); (case l23 => k_is); (case c23 => k_is); (case k23 => k_is); (case a24 => k_is); (case l24 => k_is); (case c24 => k_is); (case k24 => k_is); (case a25 => k_is); (case l25 => k_is); (case c25 => k_is); (case k25 => k_is); (case a26 => k_is); (case l26 => k_is); (case c26 => k_is); (case k26 => k_is); (case a27 => k_is); (case l27 => k_is); (case c27 => k_is); (case k27 => k_is); (case z_len => k_is); (case z_range => k_is); (case z_sum => k_is); (case z_min => k_is); (case z_max => k_is); (case z_all => k_is); (case z_any => k_is); (case z_abs => k_is); (case z_isinstance => k_is); (case z_int => k_is); (case z_bool => k_is); (case z_list => k_is); (case z_tuple => k_is); (case z_str => k_is); (case z_dict => k_is); (case z_sorted => k_is); (case z_zip => k_is); (case z_enumerate => k_is); (case z_set => k_is); (case t_MOST_PLACES => k_is); (case t_MOST_PARTS => k_is); (case t_MOST_ROWS => k_is)

import PyProof.Rows.All
import HandS.ForMost
import HandS.ForExc
import HandS.SortInts
import HandS.SetFor
import HandS.IsInst
import HandS.Conv
import HandS.More
import HandS.NoneIn
import HandS.Style
import HandS.Wide
import HandS.ExcIs
import HandS.ExcOwn
import HandS.Deep
import HandS.TupLe
import KE.DataCmp
import HandS.Iter
import PySem.Challenge.RW_fewcounters_k06_whole_heaps_of_counts
import HandS.EndBits
import KE.IntBitsLaws
set_option Elab.async false
set_option linter.all false
set_option maxRecDepth 100000
set_option maxHeartbeats 4000000
namespace DL
open PySem PySem.Spec L2

/-! data trees, slots, the store of mutable cells -/
inductive T where
  | non | bl (b : Bool) | int (i : Int) | str (s : Str) | lst (xs : List T) | tup (xs : List T)
  | dk (ks : List Key) (xs : List T) | sq (xs : List T) | raw (x : V)
  | exc (n : Str) | ob (n : Str) (fs : List Str) (xs : List T) | exf (n f : Str) (x : T)
inductive W where
  | t (x : T) | h (n : Nat)
inductive Cell where
  | lt (xs : List T) | lw (xs : List W) | dt (ks : List Key) (xs : List T) | dw (ks : List Key) (xs : List W) | tw (xs : List W) | ob (n : Str) (fs : List Str) (ws : List W) | dp (ks : List (List Key)) (xs : List T)
abbrev Sto := List (Option Cell)
structure G where
  sl : List (Option W)
  mem : Sto
def G.set (g : G) (i : Nat) (w : W) : G := ⟨g.sl.set i (some w), g.mem⟩
def G.put (g : G) (n : Nat) (c : Cell) : G := ⟨g.sl, g.mem.set n (some c)⟩
def G.push (g : G) (c : Cell) : G := ⟨g.sl, g.mem ++ [some c]⟩
def wipeW (sl : List (Option W)) : List Nat → List (Option W)
  | [] => sl
  | v :: vs => (wipeW sl vs).set v none
def G.wipe (g : G) (vs : List Nat) : G := ⟨wipeW g.sl vs, g.mem⟩
def frzW (n : Nat) (t : T) : Option W → Option W
  | some (.h m) => if m = n then some (.t t) else some (.h m)
  | o => o
def G.frz (g : G) (n : Nat) (t : T) : G := ⟨g.sl.map (frzW n t), g.mem.set n none⟩

/-- a caught exception of an own class, as a thing of the store -/
def ExI (C a : Addr) : HO := .ext fun h => ∃ (oe : Obj) (vs : Array Value), h.get? a = some oe ∧ Zc (.ref C) none oe ∧ oe.data = .fields vs
/-- .. that keeps a value in its own dict at d -/
def ExI2 (C d a : Addr) : HO := .ext fun h => ∃ (oe : Obj) (vs : Array Value), h.get? a = some oe ∧ Zc (.ref C) (some d) oe ∧ oe.data = .fields vs
mutual
def Den (K : PySem.W.Frag) (S : Hp) : T → V → Prop
  | .non, v => v = .non
  | .bl b, v => v = .bl b
  | .int i, v => v = .int i
  | .str x, v => v = .str x
  | .lst ts, v => ∃ a vs, v = .ref a ∧ S a = some (.lst vs) ∧ Dens K S ts vs
  | .sq ts, v => ∃ a vs, v = .ref a ∧ SqL K S a vs ∧ Dens K S ts vs
  | .tup ts, v => ∃ a vs, v = .ref a ∧ SqT K S a vs ∧ Dens K S ts vs
  | .dk ks ts, v => ∃ a vs, v = .ref a ∧ S a = some (.dK (ks.zip vs)) ∧ ks.length = ts.length ∧ Dens K S ts vs
  | .raw x, v => v = x
  | .exc n, v => ∃ a C, v = .ref a ∧ PySem.W.nsIn K mainGlobals n = some (some (.ref C)) ∧ S a = some (ExI C a)
  | .ob n fs ts, v => ∃ a C dx vs, v = .ref a ∧ PySem.W.nsIn K mainGlobals n = some (some (.ref C)) ∧ S a = some (.ins C dx (fs.zip vs)) ∧ fs.length = ts.length ∧ Dens K S ts vs
  | .exf n f t, v => ∃ a C d u, v = .ref a ∧ PySem.W.nsIn K mainGlobals n = some (some (.ref C)) ∧ S a = some (ExI2 C d a) ∧ S d = some (.xd [(f, u)]) ∧ Den K S t u
def Dens (K : PySem.W.Frag) (S : Hp) : List T → List V → Prop
  | [], vs => vs = []
  | t :: ts, vs => ∃ v r, vs = v :: r ∧ Den K S t v ∧ Dens K S ts r
end
section
variable {K : PySem.W.Frag} {S S' : Hp}
theorem seqT {a : Addr} {xs : List V} (e : Same S S') (h : SqT K S a xs) : SqT K S' a xs := by
  rcases h with (h | ⟨o, h⟩) | h
  · exact .inl (.inl (e _ _ h))
  · exact .inl (.inr ⟨o, e _ _ h⟩)
  · exact .inr h
mutual
theorem Den.mono (e : Same S S') : ∀ (t : T) (v : V), Den K S t v → Den K S' t v
  | .non, _, h => h
  | .bl _, _, h => h
  | .int _, _, h => h
  | .str _, _, h => h
  | .raw _, _, h => h
  | .exc _, _, h => by
    unfold Den at h ⊢
    obtain ⟨a, C, h1, h2, h3⟩ := h
    exact ⟨a, C, h1, h2, e _ _ h3⟩
  | .ob _ _ ts, v, h => by
    unfold Den at h ⊢
    obtain ⟨a, C, dx, vs, h1, h2, h3, h4, h5⟩ := h
    exact ⟨a, C, dx, vs, h1, h2, e _ _ h3, h4, Dens.mono e ts vs h5⟩
  | .exf _ _ t, v, h => by
    unfold Den at h ⊢
    obtain ⟨a, C, d, u, h1, h2, h3, h4, h5⟩ := h
    exact ⟨a, C, d, u, h1, h2, e _ _ h3, e _ _ h4, Den.mono e t u h5⟩
  | .lst ts, v, h => by
    unfold Den at h ⊢
    obtain ⟨a, vs, h1, h2, h3⟩ := h
    exact ⟨a, vs, h1, e _ _ h2, Dens.mono e ts vs h3⟩
  | .sq ts, v, h => by
    unfold Den at h ⊢
    obtain ⟨a, vs, h1, h2, h3⟩ := h
    exact ⟨a, vs, h1, e.seq h2, Dens.mono e ts vs h3⟩
  | .tup ts, v, h => by
    unfold Den at h ⊢
    obtain ⟨a, vs, h1, h2, h3⟩ := h
    exact ⟨a, vs, h1, seqT e h2, Dens.mono e ts vs h3⟩
  | .dk ks ts, v, h => by
    unfold Den at h ⊢
    obtain ⟨a, vs, h1, h2, h3, h4⟩ := h
    exact ⟨a, vs, h1, e _ _ h2, h3, Dens.mono e ts vs h4⟩
theorem Dens.mono (e : Same S S') : ∀ (ts : List T) (vs : List V), Dens K S ts vs → Dens K S' ts vs
  | [], _, h => h
  | t :: ts, vs, h => by
    unfold Dens at h ⊢
    obtain ⟨v, r, h1, h2, h3⟩ := h
    exact ⟨v, r, h1, Den.mono e t v h2, Dens.mono e ts r h3⟩
end
theorem Dens.iff : ∀ {ts : List T} {vs : List V}, Dens K S ts vs ↔ Paired (Den K S) ts vs
  | [], vs => by
    unfold Dens
    constructor
    · rintro rfl; exact .nil
    · intro h; cases h; rfl
  | t :: ts, vs => by
    unfold Dens
    constructor
    · rintro ⟨v, r, rfl, h1, h2⟩; exact .cons h1 (Dens.iff.mp h2)
    · intro h; cases h with
      | cons h1 h2 => exact ⟨_, _, rfl, h1, Dens.iff.mpr h2⟩
end
/-! general facts of Paired -/
section
variable {α β : Type} {F : α → β → Prop}
theorem pget : ∀ {xs : List α} {ys : List β} {i : Nat} {x : α}, Paired F xs ys → xs[i]? = some x → ∃ y, ys[i]? = some y ∧ F x y
  | _, _, _, _, .nil, e => by simp at e
  | _, _, 0, _, .cons r _, e => by simp at e; subst e; exact ⟨_, rfl, r⟩
  | _, _, i + 1, x, .cons _ t, e => by
    obtain ⟨u, h1, h2⟩ := pget (i := i) (x := x) t (by simpa using e)
    exact ⟨u, by simpa using h1, h2⟩
theorem pset {x : α} {y : β} (r : F x y) : ∀ {xs : List α} {ys : List β} (i : Nat), Paired F xs ys → Paired F (xs.set i x) (ys.set i y)
  | _, _, _, .nil => .nil
  | _, _, 0, .cons _ t => .cons r t
  | _, _, i + 1, .cons q t => .cons q (pset r i t)
theorem papp : ∀ {xs us : List α} {ys vs : List β}, Paired F xs ys → Paired F us vs → Paired F (xs ++ us) (ys ++ vs)
  | _, _, _, _, .nil, s => s
  | _, _, _, _, .cons r t, s => .cons r (papp t s)
theorem ptake : ∀ {xs : List α} {ys : List β} (n : Nat), Paired F xs ys → Paired F (xs.take n) (ys.take n)
  | _, _, 0, _ => .nil
  | _, _, _ + 1, .nil => .nil
  | _, _, n + 1, .cons r t => .cons r (ptake n t)
theorem pdrop : ∀ {xs : List α} {ys : List β} (n : Nat), Paired F xs ys → Paired F (xs.drop n) (ys.drop n)
  | _, _, 0, r => r
  | _, _, _ + 1, .nil => .nil
  | _, _, n + 1, .cons _ t => pdrop n t
theorem pmapL {γ : Type} (f : γ → α) : ∀ {xs : List γ} {ys : List β}, Paired F (xs.map f) ys ↔ Paired (fun x y => F (f x) y) xs ys
  | [], ys => by
    constructor
    · intro h; cases h; exact .nil
    · intro h; cases h; exact .nil
  | x :: xs, ys => by
    constructor
    · intro h
      rw [List.map_cons] at h
      cases h with
      | cons h1 h2 => exact .cons h1 ((pmapL f).mp h2)
    · intro h
      cases h with
      | cons h1 h2 => exact .cons h1 ((pmapL f).mpr h2)
end

def DenW (K : PySem.W.Frag) (al : List Addr) (S : Hp) : W → V → Prop
  | .t x, v => Den K S x v
  | .h n, v => ∃ a, al[n]? = some a ∧ v = .ref a
def CellOk (K : PySem.W.Frag) (al : List Addr) (S : Hp) : Cell → HO → Prop
  | .lt ts, o => ∃ vs, o = .lst vs ∧ Paired (Den K S) ts vs
  | .lw ws, o => ∃ vs, o = .lst vs ∧ Paired (DenW K al S) ws vs
  | .dt ks ts, o => ∃ vs, o = .dK (ks.zip vs) ∧ ks.length = ts.length ∧ Paired (Den K S) ts vs
  | .dw ks ws, o => ∃ vs, o = .dK (ks.zip vs) ∧ ks.length = ws.length ∧ Paired (DenW K al S) ws vs
  | .tw ws, o => ∃ vs, o = .tup vs ∧ Paired (DenW K al S) ws vs
  | .ob n fs ws, o => ∃ C dx vs, PySem.W.nsIn K mainGlobals n = some (some (.ref C)) ∧ o = .ins C dx (fs.zip vs) ∧ fs.length = ws.length ∧ Paired (DenW K al S) ws vs
  | .dp ks ts, o => ∃ vs, o = .dT (ks.zip vs) ∧ ks.length = ts.length ∧ Paired (Den K S) ts vs
structure Grow (al : List Addr) (S : Hp) (al' : List Addr) (S' : Hp) : Prop where
  al : ∃ more, al' = al ++ more
  s : Same S S'
theorem Grow.refl (al : List Addr) (S : Hp) : Grow al S al S := ⟨⟨[], by simp⟩, Same.refl S⟩
theorem Grow.trans {a b c : List Addr} {S S' S'' : Hp} (x : Grow a S b S') (y : Grow b S' c S'') : Grow a S c S'' := by
  obtain ⟨⟨m, e⟩, s⟩ := x
  obtain ⟨⟨m', e'⟩, s'⟩ := y
  exact ⟨⟨m ++ m', by rw [e', e, List.append_assoc]⟩, s.trans s'⟩
theorem Grow.get {a b : List Addr} {S S' : Hp} (g : Grow a S b S') {n : Nat} {x : Addr} (h : a[n]? = some x) : b[n]? = some x := by
  obtain ⟨⟨m, rfl⟩, _⟩ := g
  rw [List.getElem?_append_left (by
    rcases Nat.lt_or_ge n a.length with q | q
    · exact q
    · rw [List.getElem?_eq_none q] at h; cases h)]
  exact h
section
variable {K : PySem.W.Frag} {al al' : List Addr} {S S' F H H' : Hp}
theorem DenW.grow (g : Grow al S al' S') : ∀ {w : W} {v : V}, DenW K al S w v → DenW K al' S' w v
  | .t x, v, h => Den.mono g.s x v h
  | .h n, v, ⟨a, h1, h2⟩ => ⟨a, g.get h1, h2⟩
theorem DenWs.grow (g : Grow al S al' S') {ws : List W} {vs : List V} (h : Paired (DenW K al S) ws vs) : Paired (DenW K al' S') ws vs := Paired.mono (fun _ _ => DenW.grow g) h
theorem Denp.grow (g : Same S S') {ws : List T} {vs : List V} (h : Paired (Den K S) ws vs) : Paired (Den K S') ws vs := Paired.mono (fun t v => Den.mono g t v) h
theorem CellOk.grow (g : Grow al S al' S') : ∀ {c : Cell} {o : HO}, CellOk K al S c o → CellOk K al' S' c o
  | .lt _, _, ⟨vs, h, r⟩ => ⟨vs, h, Denp.grow g.s r⟩
  | .lw _, _, ⟨vs, h, r⟩ => ⟨vs, h, DenWs.grow g r⟩
  | .dt _ _, _, ⟨vs, h, l, r⟩ => ⟨vs, h, l, Denp.grow g.s r⟩
  | .dw _ _, _, ⟨vs, h, l, r⟩ => ⟨vs, h, l, DenWs.grow g r⟩
  | .tw _, _, ⟨vs, h, r⟩ => ⟨vs, h, DenWs.grow g r⟩
  | .ob _ _ _, _, ⟨C, dx, vs, n, h, l, r⟩ => ⟨C, dx, vs, n, h, l, DenWs.grow g r⟩
  | .dp _ _, _, ⟨vs, h, l, r⟩ => ⟨vs, h, l, Denp.grow g.s r⟩
structure RepM (K : PySem.W.Frag) (al : List Addr) (S F H : Hp) (m : Sto) : Prop where
  same : Same S H
  fr : Same F H
  dis : ∀ a o, S a = some o → F a = none
  len : al.length = m.length
  cell : ∀ (n : Nat) (c : Cell), m[n]? = some (some c) → ∃ a o, al[n]? = some a ∧ S a = none ∧ F a = none ∧ H a = some o ∧ CellOk K al S c o
  inj : ∀ (n k : Nat) (c d : Cell) (a : Addr), m[n]? = some (some c) → m[k]? = some (some d) → al[n]? = some a → al[k]? = some a → n = k
structure Rep (K : PySem.W.Frag) (al : List Addr) (S F H : Hp) (σ : St) (g : G) : Prop extends RepM K al S F H g.mem where
  slen : g.sl.length = σ.length
  slot : ∀ (i : Nat) (w : W), g.sl[i]? = some (some w) → ∃ v, σ[i]? = some (some v) ∧ DenW K al S w v
variable {σ σ' : St} {g : G} {m : Sto}
/-- a new thing at p, taken as stable -/
theorem RepM.lay (R : RepM K al S F H m) {p : Addr} {o : HO} (np : H p = none) : RepM K al (upd S p o) F (upd H p o) m ∧ Grow al S al (upd S p o) := by
  have nS : S p = none := R.same.free np
  have nF : F p = none := R.fr.free np
  have gr : Grow al S al (upd S p o) := ⟨⟨[], by simp⟩, fun b u e => by rw [upd_ne (ne_of_none e nS)]; exact e⟩
  refine ⟨⟨fun b u e => ?_, fun b u e => ?_, fun b u e => ?_, R.len, fun n c e => ?_, R.inj⟩, gr⟩
  · by_cases hb : b = p
    · subst hb; rw [upd_same] at e ⊢; exact e
    · rw [upd_ne hb] at e ⊢; exact R.same b u e
  · rw [upd_ne (ne_of_none e nF)]; exact R.fr b u e
  · by_cases hb : b = p
    · subst hb; exact nF
    · rw [upd_ne hb] at e; exact R.dis b u e
  · obtain ⟨a, o', h1, h2, h3, h4, h5⟩ := R.cell n c e
    have na : a ≠ p := ne_of_none h4 np
    exact ⟨a, o', h1, by rw [upd_ne na]; exact h2, h3, by rw [upd_ne na]; exact h4, h5.grow gr⟩
/-- a new cell -/
theorem RepM.push (R : RepM K al S F H m) {p : Addr} {o : HO} {c : Cell} (np : H p = none) (ok : CellOk K (al ++ [p]) S c o) : RepM K (al ++ [p]) S F (upd H p o) (m ++ [some c]) ∧ Grow al S (al ++ [p]) S := by
  have gr : Grow al S (al ++ [p]) S := ⟨⟨[p], rfl⟩, Same.refl S⟩
  have hold : ∀ (n : Nat) (c' : Cell), (m ++ [some c])[n]? = some (some c') → (n < m.length ∧ m[n]? = some (some c')) ∨ (n = m.length ∧ c' = c) := fun n c' e => by
    rcases Nat.lt_or_ge n m.length with q | q
    · rw [List.getElem?_append_left q] at e; exact .inl ⟨q, e⟩
    · rw [List.getElem?_append_right q] at e
      rcases Nat.eq_or_lt_of_le q with q' | q'
      · subst q'; simp at e; exact .inr ⟨rfl, e.symm⟩
      · rw [List.getElem?_eq_none (by simp; omega)] at e; cases e
  have atE : (al ++ [p])[m.length]? = some p := by rw [List.getElem?_append_right (by rw [R.len]; exact Nat.le_refl _), R.len]; simp
  have atN : ∀ (n : Nat), n < m.length → (al ++ [p])[n]? = al[n]? := fun n hn => List.getElem?_append_left (by rw [R.len]; exact hn)
  refine ⟨⟨fun b u e => ?_, fun b u e => ?_, R.dis, by simp [R.len], fun n c' e => ?_, fun n k c1 c2 a e1 e2 e3 e4 => ?_⟩, gr⟩
  · rw [upd_ne (ne_of_none (R.same _ _ e) np)]; exact R.same b u e
  · rw [upd_ne (ne_of_none (R.fr _ _ e) np)]; exact R.fr b u e
  · rcases hold n c' e with ⟨hn, e'⟩ | ⟨rfl, rfl⟩
    · obtain ⟨a, o', h1, h2, h3, h4, h5⟩ := R.cell n c' e'
      exact ⟨a, o', by rw [atN n hn]; exact h1, h2, h3, by rw [upd_ne (ne_of_none h4 np)]; exact h4, h5.grow gr⟩
    · exact ⟨p, o, atE, R.same.free np, R.fr.free np, upd_same, ok⟩
  · rcases hold n c1 e1 with ⟨hn, e1'⟩ | ⟨rfl, rfl⟩
    · rcases hold k c2 e2 with ⟨hk, e2'⟩ | ⟨rfl, rfl⟩
      · rw [atN n hn] at e3; rw [atN k hk] at e4
        exact R.inj n k c1 c2 a e1' e2' e3 e4
      · rw [atN n hn] at e3
        rw [atE] at e4
        cases e4
        obtain ⟨a, o', h1, h2, h3, h4, h5⟩ := R.cell n c1 e1'
        rw [e3] at h1; cases h1
        rw [np] at h4; cases h4
    · rcases hold k c2 e2 with ⟨hk, e2'⟩ | ⟨rfl, rfl⟩
      · rw [atN k hk] at e4
        rw [atE] at e3
        cases e3
        obtain ⟨a, o', h1, h2, h3, h4, h5⟩ := R.cell k c2 e2'
        rw [e4] at h1; cases h1
        rw [np] at h4; cases h4
      · rfl
/-- a cell written -/
theorem RepM.put (R : RepM K al S F H m) {n : Nat} {c0 c : Cell} {a : Addr} {o : HO} (e : m[n]? = some (some c0)) (ea : al[n]? = some a) (ok : CellOk K al S c o) : RepM K al S F (upd H a o) (m.set n (some c)) := by
  have nn : n < m.length := by
    rcases Nat.lt_or_ge n m.length with q | q
    · exact q
    · rw [List.getElem?_eq_none q] at e; cases e
  obtain ⟨a', o', g1, g2, g3, g4, g5⟩ := R.cell n c0 e
  rw [ea] at g1; cases g1
  have hset : ∀ (k : Nat) (c' : Cell), (m.set n (some c))[k]? = some (some c') → (k = n ∧ c' = c) ∨ (k ≠ n ∧ m[k]? = some (some c')) := fun k c' q => by
    by_cases hk : k = n
    · subst hk; rw [List.getElem?_set_self nn] at q; cases q; exact .inl ⟨rfl, rfl⟩
    · rw [List.getElem?_set_ne (Ne.symm hk)] at q; exact .inr ⟨hk, q⟩
  have some_of : ∀ (k : Nat) (c' : Cell), (m.set n (some c))[k]? = some (some c') → ∃ d, m[k]? = some (some d) := fun k c' q => by
    rcases hset k c' q with ⟨rfl, _⟩ | ⟨_, q'⟩
    · exact ⟨c0, e⟩
    · exact ⟨c', q'⟩
  refine ⟨fun b u q => ?_, fun b u q => ?_, R.dis, by simp [R.len], fun k c' q => ?_, fun k l c1 c2 b e1 e2 e3 e4 => ?_⟩
  · rw [upd_ne (ne_of_none q g2)]; exact R.same b u q
  · rw [upd_ne (ne_of_none q g3)]; exact R.fr b u q
  · rcases hset k c' q with ⟨rfl, rfl⟩ | ⟨hk, q'⟩
    · exact ⟨a, o, ea, g2, g3, upd_same, ok⟩
    · obtain ⟨b, o', h1, h2, h3, h4, h5⟩ := R.cell k c' q'
      have hb : b ≠ a := fun z => by subst z; exact hk (R.inj k n c' c0 b q' e h1 ea)
      exact ⟨b, o', h1, h2, h3, by rw [upd_ne hb]; exact h4, h5⟩
  · obtain ⟨d1, q1⟩ := some_of k c1 e1
    obtain ⟨d2, q2⟩ := some_of l c2 e2
    exact R.inj k l d1 d2 b q1 q2 e3 e4
/-- a cell becomes stable -/
theorem RepM.frz (R : RepM K al S F H m) {n : Nat} {c : Cell} (e : m[n]? = some (some c)) : ∃ a o S', al[n]? = some a ∧ S' = upd S a o ∧ CellOk K al S c o ∧ RepM K al S' F H (m.set n none) ∧ Grow al S al S' ∧ S' a = some o := by
  have nn : n < m.length := by
    rcases Nat.lt_or_ge n m.length with q | q
    · exact q
    · rw [List.getElem?_eq_none q] at e; cases e
  obtain ⟨a, o, g1, g2, g3, g4, g5⟩ := R.cell n c e
  have gr : Grow al S al (upd S a o) := ⟨⟨[], by simp⟩, fun b u q => by rw [upd_ne (ne_of_none q g2)]; exact q⟩
  have hset : ∀ (k : Nat) (c' : Cell), (m.set n none)[k]? = some (some c') → k ≠ n ∧ m[k]? = some (some c') := fun k c' q => by
    by_cases hk : k = n
    · subst hk; rw [List.getElem?_set_self nn] at q; cases q
    · rw [List.getElem?_set_ne (Ne.symm hk)] at q; exact ⟨hk, q⟩
  refine ⟨a, o, _, g1, rfl, g5, ⟨fun b u q => ?_, R.fr, fun b u q => ?_, by simp [R.len], fun k c' q => ?_, fun k l c1 c2 b e1 e2 e3 e4 => ?_⟩, gr, upd_same⟩
  · by_cases hb : b = a
    · subst hb; rw [upd_same] at q; cases q; exact g4
    · rw [upd_ne hb] at q; exact R.same b u q
  · by_cases hb : b = a
    · subst hb; exact g3
    · rw [upd_ne hb] at q; exact R.dis b u q
  · obtain ⟨hk, q'⟩ := hset k c' q
    obtain ⟨b, o', h1, h2, h3, h4, h5⟩ := R.cell k c' q'
    have hb : b ≠ a := fun z => by subst z; exact hk (R.inj k n c' c b q' e h1 g1)
    exact ⟨b, o', h1, by rw [upd_ne hb]; exact h2, h3, h4, h5.grow gr⟩
  · exact R.inj k l c1 c2 b (hset k c1 e1).2 (hset l c2 e2).2 e3 e4
/-- the slots stay described -/
theorem Rep.withM (R : Rep K al S F H σ g) {m' : Sto} (gr : Grow al S al' S') (M : RepM K al' S' F H' m') : Rep K al' S' F H' σ ⟨g.sl, m'⟩ :=
  ⟨M, R.slen, fun i w e => let ⟨v, h1, h2⟩ := R.slot i w e; ⟨v, h1, h2.grow gr⟩⟩
theorem Rep.setSlot (R : Rep K al S F H σ g) {i : Nat} {w : W} {v : V} (d : DenW K al S w v) : Rep K al S F H (σ.set i (some v)) (g.set i w) := by
  refine ⟨R.toRepM, by simp [G.set, R.slen], fun j u e => ?_⟩
  unfold G.set at e
  dsimp only at e
  by_cases hj : i = j
  · subst hj
    by_cases hl : i < g.sl.length
    · rw [List.getElem?_set_self hl] at e
      cases e
      exact ⟨v, List.getElem?_set_self (by rw [← R.slen]; exact hl), d⟩
    · rw [List.getElem?_eq_none (by simp; omega)] at e; cases e
  · rw [List.getElem?_set_ne hj] at e
    obtain ⟨v', h1, h2⟩ := R.slot j u e
    exact ⟨v', by rw [List.getElem?_set_ne hj]; exact h1, h2⟩
end
end DL

namespace DL
open PySem PySem.Spec L2

abbrev Dt := G → (W → G → Prop) → Prop
abbrev DTt := G → (Bool → G → Prop) → Prop
abbrev DAt := G → (List W → G → Prop) → Prop
def Ct (K : PySem.W.Frag) (al : List Addr) (S F : Hp) (σ : L2.St) (Q : W → G → Prop) (QV : VK) : Prop :=
  ∀ al' S' H' g' v w, Rep K al' S' F H' σ g' → Grow al S al' S' → DenW K al' S' w v → Q w g' → QV v H'
theorem Ct.grow {K : PySem.W.Frag} {al al1 : List Addr} {S S1 F : Hp} {σ : L2.St} {Q : W → G → Prop} {QV : VK} (k : Ct K al S F σ Q QV) (gr : Grow al S al1 S1) : Ct K al1 S1 F σ Q QV :=
  fun al' S' H' g' v w R g2 d q => k al' S' H' g' v w R (gr.trans g2) d q
theorem Ct.val {K : PySem.W.Frag} {al : List Addr} {S F H : Hp} {σ : L2.St} {Q : W → G → Prop} {QV : VK} (k : Ct K al S F σ Q QV) {g : G} {v : V} {w : W} (R : Rep K al S F H σ g) (d : DenW K al S w v) (q : Q w g) : QV v H :=
  k al S H g v w R (Grow.refl _ _) d q
theorem Ct.tr {K : PySem.W.Frag} {al : List Addr} {S F H : Hp} {σ : L2.St} {Q : W → G → Prop} {QV : VK} (k : Ct K al S F σ Q QV) {g : G} {v : V} {t : T} (R : Rep K al S F H σ g) (d : Den K S t v) (q : Q (.t t) g) : QV v H :=
  k al S H g v (.t t) R (Grow.refl _ _) d q
def DEr (K : PySem.W.Frag) (τ : TE) (t : Dt) : Prop := ∀ (al : List Addr) (S F H : Hp) (σ : L2.St) (g : G) (Q : W → G → Prop) (QV : VK), Rep K al S F H σ g → t g Q → Ct K al S F σ Q QV → τ σ H QV
def DTr (K : PySem.W.Frag) (τ : TT) (t : DTt) : Prop := ∀ (al : List Addr) (S F H : Hp) (σ : L2.St) (g : G) (Q : Bool → G → Prop) (QV : Bool → Hp → Prop), Rep K al S F H σ g → t g Q →
  (∀ al' S' H' g' b, Rep K al' S' F H' σ g' → Grow al S al' S' → Q b g' → QV b H') → τ σ H QV
def DAr (K : PySem.W.Frag) (τ : TA) (t : DAt) : Prop := ∀ (al : List Addr) (S F H : Hp) (σ : L2.St) (g : G) (Q : List W → G → Prop) (QV : List V → Hp → Prop), Rep K al S F H σ g → t g Q →
  (∀ al' S' H' g' vs ws, Rep K al' S' F H' σ g' → Grow al S al' S' → Paired (DenW K al' S') ws vs → Q ws g' → QV vs H') → τ σ H QV
structure DE (X : Cx) (e : Expr) (τ : TE) (t : Dt) : Prop where
  pe : PE X e τ
  r : DEr X.K τ t
structure DT (X : Cx) (e : Expr) (τ : TT) (t : DTt) : Prop where
  pe : PT X e τ
  r : DTr X.K τ t
structure DW (X : Cx) (e : Expr) (τ : TT) (t : DTt) : Prop where
  pe : PW X e τ
  r : DTr X.K τ t
structure DA (X : Cx) (es : List Expr) (τ : TA) (t : DAt) : Prop where
  pe : PA X es τ
  r : DAr X.K τ t

/-! views -/
def Cell.tree : Cell → Option T
  | .lt ts => some (.lst ts)
  | .dt ks ts => some (.dk ks ts)
  | _ => none
def G.cell? (g : G) : W → Option Cell
  | .h n => match g.mem[n]? with | some (some c) => some c | _ => none
  | .t (.lst ts) => some (.lt ts)
  | .t (.dk ks ts) => some (.dt ks ts)
  | _ => none
def G.seqL? (g : G) (w : W) : Option (List T) := match g.cell? w with | some (.lt ts) => some ts | _ => none
def G.wseq? (g : G) (w : W) : Option (List W) := match g.cell? w with | some (.lw ts) => some ts | _ => none
def G.seq? (g : G) : W → Option (List T)
  | .t (.tup ts) => some ts
  | .t (.sq ts) => some ts
  | w => g.seqL? w
def G.tree? (g : G) : W → Option T
  | .t t => some t
  | .h n => match g.mem[n]? with | some (some c) => c.tree | _ => none
section
variable {K : PySem.W.Frag} {al al' : List Addr} {S S' F H H' : Hp} {σ : L2.St} {g : G}
theorem Rep.view (R : Rep K al S F H σ g) {w : W} {v : V} {c : Cell} (d : DenW K al S w v) (e : g.cell? w = some c) : ∃ a o, v = .ref a ∧ H a = some o ∧ CellOk K al S c o := by
  cases w with
  | h n =>
    obtain ⟨a, ea, rfl⟩ := d
    unfold G.cell? at e
    dsimp only at e
    split at e
    · rename_i c' q
      cases e
      obtain ⟨a', o, h1, h2, h3, h4, h5⟩ := R.cell n c q
      rw [ea] at h1; cases h1
      exact ⟨a, o, rfl, h4, h5⟩
    · cases e
  | t x =>
    cases x with
    | lst ts =>
      cases e
      unfold DenW Den at d
      obtain ⟨a, vs, rfl, h1, h2⟩ := d
      exact ⟨a, _, rfl, R.same _ _ h1, vs, rfl, Dens.iff.mp h2⟩
    | dk ks ts =>
      cases e
      unfold DenW Den at d
      obtain ⟨a, vs, rfl, h1, h2, h3⟩ := d
      exact ⟨a, _, rfl, R.same _ _ h1, vs, rfl, h2, Dens.iff.mp h3⟩
    | _ => cases e
theorem Rep.viewL (R : Rep K al S F H σ g) {w : W} {v : V} {ts : List T} (d : DenW K al S w v) (e : g.seqL? w = some ts) : ∃ a vs, v = .ref a ∧ H a = some (.lst vs) ∧ Paired (Den K S) ts vs := by
  unfold G.seqL? at e
  split at e
  · rename_i ts' q
    cases e
    obtain ⟨a, o, h1, h2, vs, rfl, h3⟩ := R.view d q
    exact ⟨a, vs, h1, h2, h3⟩
  · cases e
theorem Rep.viewW (R : Rep K al S F H σ g) {w : W} {v : V} {ts : List W} (d : DenW K al S w v) (e : g.wseq? w = some ts) : ∃ a vs, v = .ref a ∧ H a = some (.lst vs) ∧ Paired (DenW K al S) ts vs := by
  unfold G.wseq? at e
  split at e
  · rename_i ts' q
    cases e
    obtain ⟨a, o, h1, h2, vs, rfl, h3⟩ := R.view d q
    exact ⟨a, vs, h1, h2, h3⟩
  · cases e
theorem Rep.viewS (R : Rep K al S F H σ g) {w : W} {v : V} {ts : List T} (d : DenW K al S w v) (e : g.seq? w = some ts) : ∃ a vs, v = .ref a ∧ (SqL K H a vs ∨ SqT K H a vs) ∧ Paired (Den K S) ts vs := by
  have go : ∀ ts', g.seqL? w = some ts' → ∃ a vs, v = .ref a ∧ (SqL K H a vs ∨ SqT K H a vs) ∧ Paired (Den K S) ts' vs := fun ts' q => by
    obtain ⟨a, vs, h1, h2, h3⟩ := R.viewL d q
    exact ⟨a, vs, h1, .inl (.inl (.inl h2)), h3⟩
  unfold G.seq? at e
  split at e
  · cases e
    unfold DenW Den at d
    obtain ⟨a, vs, rfl, h1, h2⟩ := d
    exact ⟨a, vs, rfl, .inr (seqT R.same h1), Dens.iff.mp h2⟩
  · cases e
    unfold DenW Den at d
    obtain ⟨a, vs, rfl, h1, h2⟩ := d
    exact ⟨a, vs, rfl, .inl (R.same.seq h1), Dens.iff.mp h2⟩
  · exact go _ e
/-- as a tree in the heap as it stands -/
theorem Rep.viewT (R : Rep K al S F H σ g) {w : W} {v : V} {t : T} (d : DenW K al S w v) (e : g.tree? w = some t) : Den K H t v := by
  cases w with
  | t x => cases e; exact Den.mono R.same _ v d
  | h n =>
    unfold G.tree? at e
    dsimp only at e
    split at e
    · rename_i c q
      have q2 : g.cell? (.h n) = some c := by unfold G.cell?; dsimp only; rw [q]
      obtain ⟨a, o, h1, h2, h3⟩ := R.view d q2
      cases c with
      | lt ts =>
        cases e
        obtain ⟨vs, rfl, h4⟩ := h3
        unfold Den
        exact ⟨a, vs, h1, h2, Dens.iff.mpr (Denp.grow R.same h4)⟩
      | dt ks ts =>
        cases e
        obtain ⟨vs, rfl, h4, h5⟩ := h3
        unfold Den
        exact ⟨a, vs, h1, h2, h4, Dens.iff.mpr (Denp.grow R.same h5)⟩
      | _ => cases e
    · cases e
theorem Rep.layT (R : Rep K al S F H σ g) {p : Addr} {o : HO} (np : H p = none) : Rep K al (upd S p o) F (upd H p o) σ g ∧ Grow al S al (upd S p o) :=
  let ⟨M, gr⟩ := R.toRepM.lay (o := o) np
  ⟨R.withM gr M, gr⟩
/-- a new list of trees, stable -/
theorem Rep.layL (R : Rep K al S F H σ g) {p : Addr} {ts : List T} {vs : List V} (np : H p = none) (d : Paired (Den K S) ts vs) :
    Rep K al (upd S p (.lst vs)) F (upd H p (.lst vs)) σ g ∧ Grow al S al (upd S p (.lst vs)) ∧ DenW K al (upd S p (.lst vs)) (.t (.lst ts)) (.ref p) := by
  obtain ⟨R1, gr⟩ := R.layT (o := .lst vs) np
  refine ⟨R1, gr, ?_⟩
  unfold DenW Den
  exact ⟨p, vs, rfl, upd_same, Dens.iff.mpr (Denp.grow gr.s d)⟩
theorem Rep.layTup (R : Rep K al S F H σ g) {p : Addr} {ts : List T} {vs : List V} (np : H p = none) (d : Paired (Den K S) ts vs) :
    Rep K al (upd S p (.tup vs)) F (upd H p (.tup vs)) σ g ∧ Grow al S al (upd S p (.tup vs)) ∧ DenW K al (upd S p (.tup vs)) (.t (.tup ts)) (.ref p) := by
  obtain ⟨R1, gr⟩ := R.layT (o := .tup vs) np
  refine ⟨R1, gr, ?_⟩
  unfold DenW Den
  exact ⟨p, vs, rfl, .inl (.inl upd_same), Dens.iff.mpr (Denp.grow gr.s d)⟩
theorem Rep.pushC (R : Rep K al S F H σ g) {p : Addr} {o : HO} {c : Cell} (np : H p = none) (ok : CellOk K (al ++ [p]) S c o) :
    Rep K (al ++ [p]) S F (upd H p o) σ (g.push c) ∧ Grow al S (al ++ [p]) S ∧ DenW K (al ++ [p]) S (.h g.mem.length) (.ref p) := by
  obtain ⟨M, gr⟩ := R.toRepM.push np ok
  refine ⟨R.withM gr M, gr, p, ?_, rfl⟩
  rw [List.getElem?_append_right (by rw [R.len]; exact Nat.le_refl _), R.len]; simp
end
theorem patI {F : T → V → Prop} {xs : List T} {ys : List V} {i : Int} {x : T} (p : Paired F xs ys) (h : atI xs i = some x) : ∃ y, atI ys i = some y ∧ F x y := by
  unfold atI at h ⊢
  rw [← p.length]
  cases e : ixN xs.length i with
  | none => rw [e] at h; cases h
  | some j =>
    rw [e] at h
    exact pget p h
theorem patW {F : W → V → Prop} {xs : List W} {ys : List V} {i : Int} {x : W} (p : Paired F xs ys) (h : atI xs i = some x) : ∃ y, atI ys i = some y ∧ F x y := by
  unfold atI at h ⊢
  rw [← p.length]
  cases e : ixN xs.length i with
  | none => rw [e] at h; cases h
  | some j =>
    rw [e] at h
    exact pget p h

section
variable {X : Cx}
/-! names, constants -/
def dVar (i : Nat) : Dt := fun g Q => match g.sl[i]? with | some (some w) => Q w g | _ => False
theorem der_var {K : PySem.W.Frag} (i : Nat) : DEr K (tVar i) (dVar i) := by
  intro al S F H σ g Q QV R q k
  unfold dVar at q
  split at q
  · rename_i w e
    obtain ⟨v, h1, h2⟩ := R.slot i w e
    exact ⟨v, h1, k.val R h2 q⟩
  · exact q.elim
theorem de_var (i : Nat) {x : Str} {pos : Pos} (hN : X.N[i]? = some x := by rfl) (hv : Vis X.env.scope x := by first | exact Or.inl rfl | exact Or.inr (Or.inl rfl) | exact Or.inr (Or.inr rfl)) (hd : (x == ("__debug__" : Str)) = false := by decide)
    (hcd : (x == ("__classdict__" : Str)) = false := by decide) : DE X (.Name x pos) (tVar i) (dVar i) := ⟨pe_var hN hv hd hcd, der_var i⟩
/-- the cell that a slot holds becomes a tree -/
def dFrz (i : Nat) : Dt := fun g Q => match g.sl[i]? with
  | some (some (.t t)) => Q (.t t) g
  | some (some (.h n)) => (match g.mem[n]? with
    | some (some c) => (match c.tree with | some t => Q (.t t) (g.frz n t) | none => False)
    | _ => False)
  | _ => False
theorem Rep.frzT {K : PySem.W.Frag} {al : List Addr} {S F H : Hp} {σ : L2.St} {g : G} {n : Nat} {c : Cell} {t : T} (R : Rep K al S F H σ g) (e : g.mem[n]? = some (some c)) (et : c.tree = some t) :
    ∃ S' a, al[n]? = some a ∧ Rep K al S' F H σ (g.frz n t) ∧ Grow al S al S' ∧ Den K S' t (.ref a) := by
  obtain ⟨a, o, S', h1, rfl, h3, M, gr, h4⟩ := R.toRepM.frz e
  have dt : Den K (upd S a o) t (.ref a) := by
    cases c with
    | lt ts =>
      cases et
      obtain ⟨vs, rfl, h5⟩ := h3
      unfold Den
      exact ⟨a, vs, rfl, h4, Dens.iff.mpr (Denp.grow gr.s h5)⟩
    | dt ks ts =>
      cases et
      obtain ⟨vs, rfl, h5, h6⟩ := h3
      unfold Den
      exact ⟨a, vs, rfl, h4, h5, Dens.iff.mpr (Denp.grow gr.s h6)⟩
    | _ => cases et
  refine ⟨_, a, h1, ⟨M, by simp [G.frz, R.slen], fun i w q => ?_⟩, gr, dt⟩
  unfold G.frz at q
  dsimp only at q
  rw [List.getElem?_map] at q
  cases e2 : g.sl[i]? with
  | none => rw [e2] at q; cases q
  | some o2 =>
    rw [e2] at q
    cases o2 with
    | none => cases q
    | some w0 =>
      obtain ⟨v, hv, dv⟩ := R.slot i w0 e2
      refine ⟨v, hv, ?_⟩
      cases w0 with
      | t x => cases q; exact dv.grow gr
      | h m =>
        simp only [Option.map_some, frzW] at q
        split at q
        · rename_i hm
          subst hm
          cases q
          obtain ⟨b, hb, rfl⟩ := dv
          rw [h1] at hb; cases hb
          exact dt
        · cases q
          exact dv.grow gr
theorem der_frz {K : PySem.W.Frag} (i : Nat) : DEr K (tVar i) (dFrz i) := by
  intro al S F H σ g Q QV R q k
  unfold dFrz at q
  split at q
  · rename_i t e
    obtain ⟨v, h1, h2⟩ := R.slot i _ e
    exact ⟨v, h1, k.val R h2 q⟩
  · rename_i n e
    split at q
    · rename_i c ec
      split at q
      · rename_i t et
        obtain ⟨v, h1, a, h2, rfl⟩ := R.slot i _ e
        obtain ⟨S', a', h3, R', gr, d⟩ := R.frzT ec et
        rw [h2] at h3; cases h3
        exact ⟨_, h1, k _ _ _ _ _ (.t t) R' gr d q⟩
      · exact q.elim
    · exact q.elim
  · exact q.elim
theorem de_frz (i : Nat) {x : Str} {pos : Pos} (hN : X.N[i]? = some x := by rfl) (hv : Vis X.env.scope x := by first | exact Or.inl rfl | exact Or.inr (Or.inl rfl) | exact Or.inr (Or.inr rfl)) (hd : (x == ("__debug__" : Str)) = false := by decide)
    (hcd : (x == ("__classdict__" : Str)) = false := by decide) : DE X (.Name x pos) (tVar i) (dFrz i) := ⟨pe_var hN hv hd hcd, der_frz i⟩
def dC (t : T) : Dt := fun g Q => Q (.t t) g
theorem der_c {K : PySem.W.Frag} {t : T} {v : V} (h : ∀ S, Den K S t v) : DEr K (tC v) (dC t) := by
  intro al S F H σ g Q QV R q k
  exact k.tr R (h S) q
theorem de_int {i : Int} {j pos} : DE X (.Constant (.int i) j pos) (tC (.int i)) (dC (.int i)) := ⟨pe_int, der_c fun _ => by unfold Den; rfl⟩
theorem de_bl {b : Bool} {j pos} : DE X (.Constant (.bool b) j pos) (tC (.bl b)) (dC (.bl b)) := ⟨pe_bl, der_c fun _ => by unfold Den; rfl⟩
theorem de_non {j pos} : DE X (.Constant .none j pos) (tC .non) (dC .non) := ⟨pe_non, der_c fun _ => by unfold Den; rfl⟩
/-- a module's int -/
theorem de_globI {x : Str} {i : Int} {tk : Tok} {pos : Pos} (hg : Gl X x) (hm : X.mg x = some (.int i tk)) (hd : (x == ("__debug__" : Str)) = false := by decide) : DE X (.Name x pos) (tC (.int i)) (dC (.int i)) :=
  ⟨pe_glob hg hm ⟨_, rfl⟩ hd, der_c fun _ => by unfold Den; rfl⟩
/-- a built-in's name as a value -/
theorem de_bltn {x : Str} {n : String} {pos : Pos} (hg : Gl X x) (hm : X.mg x = none) (hv : bootBuiltins x = some (.type n)) (hn : x ≠ "__name__" := by decide) (hd : (x == ("__debug__" : Str)) = false := by decide) : DE X (.Name x pos) (tC (.ty n)) (dC (.raw (.ty n))) :=
  ⟨pe_bltn hg hm hv rfl hn hd, der_c fun _ => by unfold Den; rfl⟩

/-! operators -/
abbrev F2 := G → W → W → (W → G → Prop) → Prop
abbrev F1 := G → W → (W → G → Prop) → Prop
abbrev FN := G → List W → (W → G → Prop) → Prop
def Op2 (K : PySem.W.Frag) (r : R2) (f : F2) : Prop := ∀ (al : List Addr) (S F H : Hp) (σ : L2.St) (g : G) (x y : V) (wx wy : W) (Q : W → G → Prop) (QV : VK), Rep K al S F H σ g → DenW K al S wx x → DenW K al S wy y → f g wx wy Q → Ct K al S F σ Q QV → r x y H QV
def Op1 (K : PySem.W.Frag) (r : V → Hp → VK → Prop) (f : F1) : Prop := ∀ (al : List Addr) (S F H : Hp) (σ : L2.St) (g : G) (x : V) (wx : W) (Q : W → G → Prop) (QV : VK), Rep K al S F H σ g → DenW K al S wx x → f g wx Q → Ct K al S F σ Q QV → r x H QV
def OpN (K : PySem.W.Frag) (r : List V → Hp → VK → Prop) (f : FN) : Prop := ∀ (al : List Addr) (S F H : Hp) (σ : L2.St) (g : G) (xs : List V) (ws : List W) (Q : W → G → Prop) (QV : VK), Rep K al S F H σ g → Paired (DenW K al S) ws xs → f g ws Q → Ct K al S F σ Q QV → r xs H QV
def d2 (f : F2) (ta tb : Dt) : Dt := fun g Q => ta g fun x g1 => tb g1 fun y g2 => f g2 x y Q
def d1 (f : F1) (ta : Dt) : Dt := fun g Q => ta g fun x g1 => f g1 x Q
def dN (f : FN) (ta : DAt) : Dt := fun g Q => ta g fun xs g1 => f g1 xs Q
variable {a b : Expr} {τa τb : TE} {ta tb : Dt} {pos : Pos}
theorem der_op2 {K : PySem.W.Frag} {r : R2} {f : F2} (h : Op2 K r f) (ra : DEr K τa ta) (rb : DEr K τb tb) : DEr K (tOp r τa τb) (d2 f ta tb) := by
  intro al S F H σ g Q QV R q k
  refine ra al S F H σ g _ _ R q fun al1 S1 H1 g1 v1 w1 R1 gr1 e1 q1 => ?_
  refine rb al1 S1 F H1 σ g1 _ _ R1 q1 fun al2 S2 H2 g2 v2 w2 R2 gr2 e2 q2 => ?_
  exact h al2 S2 F H2 σ g2 v1 v2 w1 w2 Q QV R2 (e1.grow gr2) e2 q2 (k.grow (gr1.trans gr2))
theorem de_op {op : Operator} {r : R2} {f : F2} (ho : OpR X (binaryOp op) r) (h : Op2 X.K r f) (ha : DE X a τa ta) (hb : DE X b τb tb) : DE X (.BinOp a op b pos) (tOp r τa τb) (d2 f ta tb) :=
  ⟨pe_op ho ha.pe hb.pe, der_op2 h ha.r hb.r⟩
theorem de_un {op : UnaryOp} {r : V → Hp → VK → Prop} {f : F1} (ho : UnR X (unaryOp op) r) (h : Op1 X.K r f) (ha : DE X a τa ta) : DE X (.UnaryOp op a pos) (tUn r τa) (d1 f ta) := by
  refine ⟨pe_un ho ha.pe, ?_⟩
  intro al S F H σ g Q QV R q k
  refine ha.r al S F H σ g _ _ R q fun al1 S1 H1 g1 v1 w1 R1 gr1 e1 q1 => ?_
  exact h al1 S1 F H1 σ g1 v1 w1 Q QV R1 e1 q1 (k.grow gr1)
theorem de_cmp {op : CmpOp} {r : R2} {f : F2} (ho : OpR X (compareOp op) r) (h : Op2 X.K r f) (ha : DE X a τa ta) (hb : DE X b τb tb) (hm : behindInMarks op b = false := by first | exact nomark _ | rfl) : DE X (.Compare a [op] [b] pos) (tOp r τa τb) (d2 f ta tb) :=
  ⟨pe_cmpR ho ha.pe hb.pe hm, der_op2 h ha.r hb.r⟩
theorem de_ixR {r : R2} {f : F2} (ho : IxR X r) (h : Op2 X.K r f) (ha : DE X a τa ta) (hb : DE X b τb tb) (hs : PlainIx b := by intro _ _; rfl) : DE X (.Subscript a b pos) (tOp r τa τb) (d2 f ta tb) :=
  ⟨pe_ix ho ha.pe hb.pe hs, der_op2 h ha.r hb.r⟩
/-- two ints -/
def fI (C : Int → Int → Prop) (f : Int → Int → T) : F2 := fun g x y Q => match x, y with | .t (.int i), .t (.int j) => C i j ∧ Q (.t (f i j)) g | _, _ => False
def fI0 (f : Int → Int → T) : F2 := fun g x y Q => match x, y with | .t (.int i), .t (.int j) => Q (.t (f i j)) g | _, _ => False
theorem op2_I {K : PySem.W.Frag} {C : Int → Int → Prop} {gg : Int → Int → V} {f : Int → Int → T} (h : ∀ i j S, Den K S (f i j) (gg i j)) : Op2 K (rI C gg) (fI C f) := by
  intro al S F H σ g x y wx wy Q QV R dx dy q k
  unfold fI at q
  split at q
  · rename_i i j
    unfold DenW Den at dx dy
    exact ⟨i, j, dx, dy, q.1, k.tr R (h i j S) q.2⟩
  · exact q.elim
theorem op2_I0 {K : PySem.W.Frag} {gg : Int → Int → V} {f : Int → Int → T} (h : ∀ i j S, Den K S (f i j) (gg i j)) : Op2 K (rI0 gg) (fI0 f) := by
  intro al S F H σ g x y wx wy Q QV R dx dy q k
  unfold fI0 at q
  split at q
  · rename_i i j
    unfold DenW Den at dx dy
    exact ⟨i, j, dx, dy, k.tr R (h i j S) q⟩
  · exact q.elim
theorem denI {K : PySem.W.Frag} {S : Hp} (i : Int) : Den K S (.int i) (.int i) := by unfold Den; rfl
theorem denB {K : PySem.W.Frag} {S : Hp} (i : Bool) : Den K S (.bl i) (.bl i) := by unfold Den; rfl
theorem denS {K : PySem.W.Frag} {S : Hp} (i : Str) : Den K S (.str i) (.str i) := by unfold Den; rfl
theorem Op2.or {K : PySem.W.Frag} {r r' : R2} {f f' : F2} (h : Op2 K r f) (h' : Op2 K r' f') : Op2 K (fun x y H Q => r x y H Q ∨ r' x y H Q) (fun g x y Q => f g x y Q ∨ f' g x y Q) := by
  intro al S F H σ g x y wx wy Q QV R dx dy q k
  rcases q with q | q
  · exact .inl (h al S F H σ g x y wx wy Q QV R dx dy q k)
  · exact .inr (h' al S F H σ g x y wx wy Q QV R dx dy q k)
theorem Op2.imp {K : PySem.W.Frag} {r : R2} {f f' : F2} (h : Op2 K r f) (hi : ∀ g x y Q, f' g x y Q → f g x y Q) : Op2 K r f' := by
  intro al S F H σ g x y wx wy Q QV R dx dy q k
  exact h al S F H σ g x y wx wy Q QV R dx dy (hi g wx wy Q q) k
/-- x + y: ints, lists, texts -/
def fCat : F2 := fun g x y Q => match g.seqL? x, g.seqL? y with
  | some xs, some ys => xs.length + ys.length ≤ sizeLine ∧ Q (.t (.lst (xs ++ ys))) g
  | _, _ => False
theorem op2_cat {K : PySem.W.Frag} : Op2 K rCat fCat := by
  intro al S F H σ g x y wx wy Q QV R dx dy q k
  unfold fCat at q
  split at q
  · rename_i xs ys ex ey
    obtain ⟨a, vs, rfl, h1, h2⟩ := R.viewL dx ex
    obtain ⟨b, us, rfl, h3, h4⟩ := R.viewL dy ey
    refine ⟨a, b, vs, us, rfl, rfl, h1, h3, by rw [← h2.length, ← h4.length]; exact q.1, fun p np => ?_⟩
    obtain ⟨R1, gr, d⟩ := R.layL np (papp h2 h4)
    exact k _ _ _ _ _ _ R1 gr d q.2
  · exact q.elim
def fAddS : F2 := fun g x y Q => match x, y with | .t (.str i), .t (.str j) => i.length + j.length ≤ sizeLine ∧ Q (.t (.str (i ++ j))) g | _, _ => False
theorem op2_addS {K : PySem.W.Frag} : Op2 K (fun x y H Q => ∃ i j, x = .str i ∧ y = .str j ∧ i.length + j.length ≤ sizeLine ∧ Q (.str (i ++ j)) H) fAddS := by
  intro al S F H σ g x y wx wy Q QV R dx dy q k
  unfold fAddS at q
  split at q
  · rename_i i j
    unfold DenW Den at dx dy
    exact ⟨i, j, dx, dy, q.1, k.tr R (denS _) q.2⟩
  · exact q.elim
abbrev rAddA : R2 := fun x y H Q => (rI0 fun i j => V.int (i + j)) x y H Q ∨ (fun x y H Q => rCat x y H Q ∨ (fun x y H Q => ∃ i j, x = V.str i ∧ y = V.str j ∧ i.length + j.length ≤ sizeLine ∧ Q (.str (i ++ j)) H) x y H Q) x y H Q
def fAdd : F2 := fun g x y Q => match x with
  | .t (.int _) => fI0 (fun i j => .int (i + j)) g x y Q
  | .t (.str _) => fAddS g x y Q
  | _ => fCat g x y Q
theorem de_add (ha : DE X a τa ta) (hb : DE X b τb tb) : DE X (.BinOp a .Add b pos) (tOp rAddA τa τb) (d2 fAdd ta tb) :=
  de_op (op_add.or (op_cat.or op_add_str)) (((op2_I0 fun _ _ _ => denI _).or (op2_cat.or op2_addS)).imp fun g x y Q h => by
    unfold fAdd at h
    split at h
    · exact .inl h
    · exact .inr (.inr h)
    · exact .inr (.inl h)) ha hb
theorem de_sub (ha : DE X a τa ta) (hb : DE X b τb tb) : DE X (.BinOp a .Sub b pos) (tOp (rI0 fun i j => .int (i - j)) τa τb) (d2 (fI0 fun i j => .int (i - j)) ta tb) := de_op op_sub (op2_I0 fun _ _ _ => denI _) ha hb
theorem op_mulI : OpR X (binaryOp .Mult) (rI IntMulOk fun i j => .int (i * j)) := opI fun _ _ _ _ _ _ _ hc q => PyProof.Rows.mul_int q hc
theorem de_mul (ha : DE X a τa ta) (hb : DE X b τb tb) : DE X (.BinOp a .Mult b pos) (tOp (rI IntMulOk fun i j => .int (i * j)) τa τb) (d2 (fI IntMulOk fun i j => .int (i * j)) ta tb) := de_op op_mulI (op2_I fun _ _ _ => denI _) ha hb
theorem de_mod (ha : DE X a τa ta) (hb : DE X b τb tb) : DE X (.BinOp a .Mod b pos) (tOp (rI (fun _ j => j ≠ 0) fun i j => .int (i.fmod j)) τa τb) (d2 (fI (fun _ j => j ≠ 0) fun i j => .int (i.fmod j)) ta tb) := de_op op_modN (op2_I fun _ _ _ => denI _) ha hb
theorem de_fdiv (ha : DE X a τa ta) (hb : DE X b τb tb) : DE X (.BinOp a .FloorDiv b pos) (tOp (rI CDivN fun i j => .int (i.fdiv j)) τa τb) (d2 (fI CDivN fun i j => .int (i.fdiv j)) ta tb) := de_op op_fdivN (op2_I fun _ _ _ => denI _) ha hb
theorem de_pow (ha : DE X a τa ta) (hb : DE X b τb tb) : DE X (.BinOp a .Pow b pos) (tOp (rI CPow fun i j => .int (i ^ j.toNat)) τa τb) (d2 (fI CPow fun i j => .int (i ^ j.toNat)) ta tb) := de_op op_pow (op2_I fun _ _ _ => denI _) ha hb
theorem de_neg (ha : DE X a τa ta) : DE X (.UnaryOp .USub a pos) (tUn (rU fun i => .int (-i)) τa) (d1 (fun g x Q => match x with | .t (.int i) => Q (.t (.int (-i))) g | _ => False) ta) := by
  refine de_un un_neg ?_ ha
  intro al S F H σ g x wx Q QV R dx q k
  split at q
  · rename_i i
    unfold DenW Den at dx
    exact ⟨i, dx, k.tr R (denI _) q⟩
  · exact q.elim
theorem de_lt (ha : DE X a τa ta) (hb : DE X b τb tb) : DE X (.Compare a [.Lt] [b] pos) (tOp (rI0 fun i j => V.bl (decide (i < j))) τa τb) (d2 (fI0 fun i j => .bl (decide (i < j))) ta tb) := de_cmp op_lt (op2_I0 fun _ _ _ => denB _) ha hb
theorem de_gt (ha : DE X a τa ta) (hb : DE X b τb tb) : DE X (.Compare a [.Gt] [b] pos) (tOp (rI0 fun i j => V.bl (decide (j < i))) τa τb) (d2 (fI0 fun i j => .bl (decide (j < i))) ta tb) := de_cmp op_gt (op2_I0 fun _ _ _ => denB _) ha hb
theorem de_ge (ha : DE X a τa ta) (hb : DE X b τb tb) : DE X (.Compare a [.GtE] [b] pos) (tOp (rI0 fun i j => V.bl (decide (j ≤ i))) τa τb) (d2 (fI0 fun i j => .bl (decide (j ≤ i))) ta tb) := de_cmp op_ge (op2_I0 fun _ _ _ => denB _) ha hb
end
end DL

namespace DL
open PySem PySem.Spec L2

section
variable {X : Cx} {a b : Expr} {τa τb : TE} {ta tb : Dt} {pos : Pos}
/-! subscripts -/
def fIx : F2 := fun g x y Q => match y with
  | .t (.int i) => (match g.seq? x with
    | some ts => ∃ t, atI ts i = some t ∧ Q (.t t) g
    | none => (match g.wseq? x with
      | some ws => ∃ w, atI ws i = some w ∧ Q w g
      | none => False))
  | _ => False
theorem op2_ix {K : PySem.W.Frag} : Op2 K (fun x y H Q => rIxL K x y H Q ∨ rIxT K x y H Q) fIx := by
  intro al S F H σ g x y wx wy Q QV R dx dy q k
  unfold fIx at q
  split at q
  · rename_i i
    unfold DenW Den at dy
    split at q
    · rename_i ts e
      obtain ⟨t, h1, q⟩ := q
      obtain ⟨p, vs, rfl, h2, h3⟩ := R.viewS dx e
      obtain ⟨v, h4, h5⟩ := patI h3 h1
      rcases h2 with h2 | h2
      · exact .inl ⟨p, vs, i, v, rfl, dy, h2, h4, k.tr R h5 q⟩
      · exact .inr ⟨p, vs, i, v, rfl, dy, h2, h4, k.tr R h5 q⟩
    · split at q
      · rename_i ws e
        obtain ⟨w, h1, q⟩ := q
        obtain ⟨p, vs, rfl, h2, h3⟩ := R.viewW dx e
        obtain ⟨v, h4, h5⟩ := patW h3 h1
        exact .inl ⟨p, vs, i, v, rfl, dy, .inl (.inl h2), h4, k.val R h5 q⟩
      · exact q.elim
  · exact q.elim
theorem de_ix (ha : DE X a τa ta) (hb : DE X b τb tb) (hs : PlainIx b := by intro _ _; rfl) : DE X (.Subscript a b pos) (tOp (fun x y H Q => rIxL X.K x y H Q ∨ rIxT X.K x y H Q) τa τb) (d2 fIx ta tb) :=
  de_ixR (ix_list.or ix_tup) op2_ix ha hb hs
/-! slices -/
abbrev DOt := G → (Option Int → G → Prop) → Prop
def DOr (K : PySem.W.Frag) (τ : TO) (t : DOt) : Prop := ∀ (al : List Addr) (S F H : Hp) (σ : L2.St) (g : G) (Q : Option Int → G → Prop) (QV : Option Int → Hp → Prop), Rep K al S F H σ g → t g Q →
  (∀ al' S' H' g' b, Rep K al' S' F H' σ g' → Grow al S al' S' → Q b g' → QV b H') → τ σ H QV
structure DO (X : Cx) (e : Option Expr) (τ : TO) (t : DOt) : Prop where
  pe : PO X e τ
  r : DOr X.K τ t
def dNoPart : DOt := fun g Q => Q none g
def dPart (t : Dt) : DOt := fun g Q => t g fun w g' => match w with | .t (.int i) => Q (some i) g' | _ => False
theorem do_none : DO X none tNoPart dNoPart := ⟨po_none, fun al S F H σ g Q QV R q k => k al S H g none R (Grow.refl _ _) q⟩
theorem do_some (ha : DE X a τa ta) : DO X (some a) (tPart τa) (dPart ta) := by
  refine ⟨po_some ha.pe, fun al S F H σ g Q QV R q k => ?_⟩
  refine ha.r al S F H σ g _ _ R q fun al1 S1 H1 g1 v1 w1 R1 gr1 e1 q1 => ?_
  split at q1
  · rename_i i
    unfold DenW Den at e1
    exact ⟨i, e1, k _ _ _ _ _ R1 gr1 q1⟩
  · exact q1.elim
def cut {α : Type} (xs : List α) (lo hi : Option Int) : List α := (xs.drop (HT.sIx xs.length 0 lo)).take (HT.sIx xs.length xs.length hi - HT.sIx xs.length 0 lo)
def dSl (t : Dt) (l u : DOt) : Dt := fun g Q => t g fun x g1 => l g1 fun lo g2 => u g2 fun hi g3 => match g3.seq? x with
  | some ts => (match x with | .t (.tup _) => False | _ => Q (.t (.lst (cut ts lo hi))) g3)
  | none => False
theorem not_tup {K : PySem.W.Frag} {al : List Addr} {S F H : Hp} {σ : L2.St} {g : G} (R : Rep K al S F H σ g) {w : W} {v : V} {ts : List T} (d : DenW K al S w v) (e : g.seq? w = some ts) (h : ∀ us, w ≠ .t (.tup us)) : ∃ a vs, v = .ref a ∧ SqL K H a vs ∧ Paired (Den K S) ts vs := by
  unfold G.seq? at e
  split at e
  · exact absurd rfl (h _)
  · cases e
    unfold DenW Den at d
    obtain ⟨a, vs, rfl, h1, h2⟩ := d
    exact ⟨a, vs, rfl, R.same.seq h1, Dens.iff.mp h2⟩
  · obtain ⟨a, vs, h1, h2, h3⟩ := R.viewL d e
    exact ⟨a, vs, h1, .inl (.inl h2), h3⟩
theorem de_sl {lo hi : Option Expr} {τl τh : TO} {tl th : DOt} {p2 : Pos} (ha : DE X a τa ta) (hl : DO X lo τl tl) (hh : DO X hi τh th) : DE X (.Subscript a (.Slice lo hi none p2) pos) (tSl (rSlL X.K) τa τl τh) (dSl ta tl th) := by
  refine ⟨pe_slice sl_list ha.pe hl.pe hh.pe, fun al S F H σ g Q QV R q k => ?_⟩
  refine ha.r al S F H σ g _ _ R q fun al1 S1 H1 g1 v1 w1 R1 gr1 e1 q1 => ?_
  refine hl.r al1 S1 F H1 σ g1 _ _ R1 q1 fun al2 S2 H2 g2 b2 R2 gr2 q2 => ?_
  refine hh.r al2 S2 F H2 σ g2 _ _ R2 q2 fun al3 S3 H3 g3 b3 R3 gr3 q3 => ?_
  split at q3
  · rename_i ts e
    split at q3
    · exact q3.elim
    · rename_i hne
      obtain ⟨a, vs, rfl, h1, h2⟩ := not_tup R3 (e1.grow (gr2.trans gr3)) e (fun us z => hne us z)
      refine ⟨a, vs, rfl, h1, fun p np => ?_⟩
      have hp : Paired (Den X.K S3) (cut ts b2 b3) (cutV vs b2 b3) := by
        unfold cut cutV
        rw [h2.length]
        exact ptake _ (pdrop _ h2)
      obtain ⟨R4, gr4, d⟩ := R3.layL np hp
      exact k _ _ _ _ _ _ R4 (gr1.trans (gr2.trans (gr3.trans gr4))) d q3
  · exact q3.elim
/-! arguments, displays -/
def treesW : List W → Option (List T)
  | [] => some []
  | .t x :: r => (treesW r).map (x :: ·)
  | _ => none
theorem treesW_den {K : PySem.W.Frag} {al : List Addr} {S : Hp} : ∀ {ws : List W} {ts : List T} {vs : List V}, treesW ws = some ts → Paired (DenW K al S) ws vs → Paired (Den K S) ts vs
  | [], ts, vs, e, h => by cases e; cases h; exact .nil
  | .t x :: r, ts, vs, e, h => by
    unfold treesW at e
    cases q : treesW r with
    | none => rw [q] at e; cases e
    | some us =>
      rw [q] at e
      cases e
      cases h with
      | cons h1 h2 => exact .cons h1 (treesW_den q h2)
  | .h n :: r, ts, vs, e, h => by cases e
theorem treesW_map : ∀ ts : List T, treesW (ts.map W.t) = some ts
  | [] => rfl
  | t :: ts => by rw [List.map_cons]; unfold treesW; rw [treesW_map ts]; rfl
def dNil : DAt := fun g Q => Q [] g
def dCons (t : Dt) (r : DAt) : DAt := fun g Q => t g fun w g1 => r g1 fun ws g2 => Q (w :: ws) g2
theorem da_nil : DA X [] tNil dNil := ⟨pa_nil, fun al S F H σ g Q QV R q k => k al S H g [] [] R (Grow.refl _ _) .nil q⟩
theorem da_cons {es : List Expr} {τr : TA} {tr : DAt} (ha : DE X a τa ta) (hr : DA X es τr tr) (hs : starEach (a :: es) X.env = (false, eval a X.env) :: starEach es X.env := by rfl) : DA X (a :: es) (tCons τa τr) (dCons ta tr) := by
  refine ⟨pa_cons ha.pe hr.pe hs, fun al S F H σ g Q QV R q k => ?_⟩
  refine ha.r al S F H σ g _ _ R q fun al1 S1 H1 g1 v1 w1 R1 gr1 e1 q1 => ?_
  refine hr.r al1 S1 F H1 σ g1 _ _ R1 q1 fun al2 S2 H2 g2 vs2 ws2 R2 gr2 e2 q2 => ?_
  exact k _ _ _ _ _ _ R2 (gr1.trans gr2) (.cons (e1.grow gr2) e2) q2
variable {es : List Expr} {τs : TA} {ts : DAt}
def dTup (t : DAt) : Dt := fun g Q => t g fun ws g1 => match treesW ws with | some us => ws.length ≤ sizeLine ∧ Q (.t (.tup us)) g1 | none => False
def dLst (t : DAt) : Dt := fun g Q => t g fun ws g1 => match treesW ws with | some us => ws.length ≤ sizeLine ∧ Q (.t (.lst us)) g1 | none => False
def dLstH (t : DAt) : Dt := fun g Q => t g fun ws g1 => match treesW ws with | some us => ws.length ≤ sizeLine ∧ Q (.h g1.mem.length) (g1.push (.lt us)) | none => False
def dLstW (t : DAt) : Dt := fun g Q => t g fun ws g1 => ws.length ≤ sizeLine ∧ Q (.h g1.mem.length) (g1.push (.lw ws))
theorem de_tup {x1} (h : DA X es τs ts) : DE X (.Tuple es x1 pos) (tTup τs) (dTup ts) := by
  refine ⟨pe_tup h.pe, fun al S F H σ g Q QV R q k => ?_⟩
  refine h.r al S F H σ g _ _ R q fun al1 S1 H1 g1 vs ws R1 gr1 e1 q1 => ?_
  split at q1
  · rename_i us e
    refine ⟨by rw [← e1.length]; exact q1.1, fun p np => ?_⟩
    obtain ⟨R2, gr2, d⟩ := R1.layTup np (treesW_den e e1)
    exact k _ _ _ _ _ _ R2 (gr1.trans gr2) d q1.2
  · exact q1.elim
theorem de_lst (h : DA X es τs ts) : DE X (.List es pos) (tLst τs) (dLst ts) := by
  refine ⟨pe_lst h.pe, fun al S F H σ g Q QV R q k => ?_⟩
  refine h.r al S F H σ g _ _ R q fun al1 S1 H1 g1 vs ws R1 gr1 e1 q1 => ?_
  split at q1
  · rename_i us e
    refine ⟨by rw [← e1.length]; exact q1.1, fun p np => ?_⟩
    obtain ⟨R2, gr2, d⟩ := R1.layL np (treesW_den e e1)
    exact k _ _ _ _ _ _ R2 (gr1.trans gr2) d q1.2
  · exact q1.elim
theorem de_lstH (h : DA X es τs ts) : DE X (.List es pos) (tLst τs) (dLstH ts) := by
  refine ⟨pe_lst h.pe, fun al S F H σ g Q QV R q k => ?_⟩
  refine h.r al S F H σ g _ _ R q fun al1 S1 H1 g1 vs ws R1 gr1 e1 q1 => ?_
  split at q1
  · rename_i us e
    refine ⟨by rw [← e1.length]; exact q1.1, fun p np => ?_⟩
    obtain ⟨R2, gr2, d⟩ := R1.pushC (c := .lt us) (o := .lst vs) np ⟨vs, rfl, treesW_den e e1⟩
    exact k _ _ _ _ _ _ R2 (gr1.trans gr2) d q1.2
  · exact q1.elim
theorem de_lstW (h : DA X es τs ts) : DE X (.List es pos) (tLst τs) (dLstW ts) := by
  refine ⟨pe_lst h.pe, fun al S F H σ g Q QV R q k => ?_⟩
  refine h.r al S F H σ g _ _ R q fun al1 S1 H1 g1 vs ws R1 gr1 e1 q1 => ?_
  refine ⟨by rw [← e1.length]; exact q1.1, fun p np => ?_⟩
  obtain ⟨R2, gr2, d⟩ := R1.pushC (c := .lw ws) (o := .lst vs) np ⟨vs, rfl, DenWs.grow ⟨⟨[p], rfl⟩, Same.refl _⟩ e1⟩
  exact k _ _ _ _ _ _ R2 (gr1.trans gr2) d q1.2
theorem der_N {K : PySem.W.Frag} {r : List V → Hp → VK → Prop} {f : FN} (h : OpN K r f) (rs : DAr K τs ts) : DEr K (tCB r τs) (dN f ts) := by
  intro al S F H σ g Q QV R q k
  refine rs al S F H σ g _ _ R q fun al1 S1 H1 g1 vs ws R1 gr1 e1 q1 => ?_
  exact h al1 S1 F H1 σ g1 vs ws Q QV R1 e1 q1 (k.grow gr1)
end
end DL

namespace DL
open PySem PySem.Spec L2

section
variable {X : Cx} {a b e : Expr} {τa τb : TE} {ta tb : Dt} {pos : Pos} {es : List Expr} {τs : TA} {ts : DAt}
/-! == of data -/
def T.pd : T → PyData
  | .non => .none
  | .bl b => .bool b
  | .int i => .int i
  | .str s => .str s
  | .lst xs => .list (xs.map T.pd)
  | .sq xs => .list (xs.map T.pd)
  | .tup xs => .tuple (xs.map T.pd)
  | .dk _ _ => .dict []
  | .raw _ => .dict []
  | .exc _ => .dict []
  | .ob _ _ _ => .dict []
  | .exf _ _ _ => .dict []
/-- plain data of depth at most n -/
def T.sh : Nat → T → Bool
  | _, .non => true
  | _, .bl _ => true
  | _, .int _ => true
  | _, .str s => PyData.strOk s
  | n + 1, .lst xs => xs.all (T.sh n)
  | n + 1, .sq xs => xs.all (T.sh n)
  | n + 1, .tup xs => xs.all (T.sh n)
  | _, _ => false
def teq (x y : T) : Bool := PyData.eqv x.pd y.pd
theorem sh_all : ∀ (n : Nat) (xs : List T), (∀ t ∈ xs, t.pd.canLay0 = true ∧ t.pd.depth ≤ n) → PyData.canLayAll0 (xs.map T.pd) = true ∧ PyData.depthAll (xs.map T.pd) ≤ n
  | n, [], _ => ⟨by simp [PyData.canLayAll0], by simp [PyData.depthAll]⟩
  | n, t :: xs, h => by
    obtain ⟨h1, h2⟩ := h t (by simp)
    obtain ⟨h3, h4⟩ := sh_all n xs fun u hu => h u (by simp [hu])
    rw [List.map_cons]
    constructor
    · simp [PyData.canLayAll0, h1, h3]
    · simp only [PyData.depthAll]
      omega
theorem sh_ok : ∀ (n : Nat) (t : T), t.sh n = true → t.pd.canLay0 = true ∧ t.pd.depth ≤ n + 1
  | n, .non, _ => ⟨by simp [T.pd, PyData.canLay0], by simp [T.pd, PyData.depth]⟩
  | n, .bl _, _ => ⟨by simp [T.pd, PyData.canLay0], by simp [T.pd, PyData.depth]⟩
  | n, .int _, _ => ⟨by simp [T.pd, PyData.canLay0], by simp [T.pd, PyData.depth]⟩
  | n, .str s, h => by
    have h' : PyData.strOk s = true := by cases n <;> simpa [T.sh] using h
    exact ⟨by simp [T.pd, PyData.canLay0, h'], by simp [T.pd, PyData.depth]⟩
  | 0, .lst xs, h => by simp [T.sh] at h
  | 0, .sq xs, h => by simp [T.sh] at h
  | 0, .tup xs, h => by simp [T.sh] at h
  | n + 1, .lst xs, h => by
    have h' : ∀ t ∈ xs, t.sh n = true := by simpa [T.sh, List.all_eq_true] using h
    have := sh_all (n + 1) xs fun t ht => let ⟨a, b⟩ := sh_ok n t (h' t ht); ⟨a, b⟩
    exact ⟨by simpa [T.pd, PyData.canLay0] using this.1, by simpa [T.pd, PyData.depth] using this.2⟩
  | n + 1, .sq xs, h => by
    have h' : ∀ t ∈ xs, t.sh n = true := by simpa [T.sh, List.all_eq_true] using h
    have := sh_all (n + 1) xs fun t ht => let ⟨a, b⟩ := sh_ok n t (h' t ht); ⟨a, b⟩
    exact ⟨by simpa [T.pd, PyData.canLay0] using this.1, by simpa [T.pd, PyData.depth] using this.2⟩
  | n + 1, .tup xs, h => by
    have h' : ∀ t ∈ xs, t.sh n = true := by simpa [T.sh, List.all_eq_true] using h
    have := sh_all (n + 1) xs fun t ht => let ⟨a, b⟩ := sh_ok n t (h' t ht); ⟨a, b⟩
    exact ⟨by simpa [T.pd, PyData.canLay0] using this.1, by simpa [T.pd, PyData.depth] using this.2⟩
  | n, .dk _ _, h => by cases n <;> simp [T.sh] at h
  | n, .raw _, h => by cases n <;> simp [T.sh] at h
  | n, .exc _, h => by cases n <;> simp [T.sh] at h
  | n, .ob _ _ _, h => by cases n <;> simp [T.sh] at h
  | n, .exf _ _ _, h => by cases n <;> simp [T.sh] at h
theorem shaped_of {n : Nat} {t : T} (h : t.sh n = true) (hn : n ≤ 60) : SeqAt.shaped t.pd = true := by
  obtain ⟨h1, h2⟩ := sh_ok n t h
  unfold SeqAt.shaped
  rw [h1, decide_eq_true (by omega)]
  rfl
theorem dpAll_of {K : PySem.W.Frag} {H : Hp} : ∀ {xs : List T} {vs : List V}, (∀ t ∈ xs, ∀ v, Den K H t v → Dp K H v t.pd) → Dens K H xs vs → DpAll K H vs (xs.map T.pd)
  | [], vs, _, d => by unfold Dens at d; subst d; exact .nil
  | t :: xs, vs, h, d => by
    unfold Dens at d
    obtain ⟨v, r, rfl, d1, d2⟩ := d
    exact .cons (h t (by simp) v d1) (dpAll_of (fun u hu => h u (by simp [hu])) d2)
theorem dp_of {K : PySem.W.Frag} {H : Hp} : ∀ (n : Nat) (t : T) (v : V), t.sh n = true → Den K H t v → Dp K H v t.pd
  | n, .non, v, _, d => by unfold Den at d; subst d; unfold T.pd; exact .non
  | n, .bl _, v, _, d => by unfold Den at d; subst d; unfold T.pd; exact .bl _
  | n, .int _, v, _, d => by unfold Den at d; subst d; unfold T.pd; exact .int _
  | n, .str _, v, _, d => by unfold Den at d; subst d; unfold T.pd; exact .str _
  | 0, .lst xs, v, h, d => by simp [T.sh] at h
  | 0, .sq xs, v, h, d => by simp [T.sh] at h
  | 0, .tup xs, v, h, d => by simp [T.sh] at h
  | n + 1, .lst xs, v, h, d => by
    have h' : ∀ t ∈ xs, t.sh n = true := by simpa [T.sh, List.all_eq_true] using h
    unfold Den at d
    obtain ⟨a, vs, rfl, h1, h2⟩ := d
    unfold T.pd
    exact .lst (.inl (.inl h1)) (dpAll_of (fun t ht v dv => dp_of n t v (h' t ht) dv) h2)
  | n + 1, .sq xs, v, h, d => by
    have h' : ∀ t ∈ xs, t.sh n = true := by simpa [T.sh, List.all_eq_true] using h
    unfold Den at d
    obtain ⟨a, vs, rfl, h1, h2⟩ := d
    unfold T.pd
    exact .lst h1 (dpAll_of (fun t ht v dv => dp_of n t v (h' t ht) dv) h2)
  | n + 1, .tup xs, v, h, d => by
    have h' : ∀ t ∈ xs, t.sh n = true := by simpa [T.sh, List.all_eq_true] using h
    unfold Den at d
    obtain ⟨a, vs, rfl, h1, h2⟩ := d
    unfold T.pd
    exact .tup h1 (dpAll_of (fun t ht v dv => dp_of n t v (h' t ht) dv) h2)
  | n, .dk _ _, v, h, d => by cases n <;> simp [T.sh] at h
  | n, .raw _, v, h, d => by cases n <;> simp [T.sh] at h
  | n, .exc _, v, h, d => by cases n <;> simp [T.sh] at h
  | n, .ob _ _ _, v, h, d => by cases n <;> simp [T.sh] at h
  | n, .exf _ _ _, v, h, d => by cases n <;> simp [T.sh] at h
def fEq (neg : Bool) : F2 := fun g x y Q => match x, y with
  | .t (.int i), .t (.int j) => Q (.t (.bl (if neg then !(decide (i = j)) else decide (i = j)))) g
  | .t (.str i), .t (.str j) => Q (.t (.bl (if neg then !(decide (i = j)) else decide (i = j)))) g
  | x, y => match g.tree? x, g.tree? y with
    | some tx, some ty => tx.sh 8 = true ∧ ty.sh 8 = true ∧ Q (.t (.bl (if neg then !teq tx ty else teq tx ty))) g
    | _, _ => False
theorem op2_eq (neg : Bool) {K : PySem.W.Frag} : Op2 K (fun x y H Q => (scal x y = true ∧ Q (.bl (if neg then !decide (x = y) else decide (x = y))) H) ∨
    (∃ d e, Dp K H x d ∧ Dp K H y e ∧ SeqAt.shaped d = true ∧ SeqAt.shaped e = true ∧ Q (.bl (if neg then !PyData.eqv d e else PyData.eqv d e)) H)) (fEq neg) := by
  intro al S F H σ g x y wx wy Q QV R dx dy q k
  unfold fEq at q
  split at q
  · rename_i i j
    unfold DenW Den at dx dy
    subst dx dy
    refine .inl ⟨rfl, k.tr R (t := .bl _) (by unfold Den; rfl) ?_⟩
    have e : decide (V.int i = V.int j) = decide (i = j) := by
      by_cases h : i = j
      · subst h; simp
      · rw [decide_eq_false h, decide_eq_false fun z => h (V.int.inj z)]
    rw [e]; exact q
  · rename_i i j
    unfold DenW Den at dx dy
    subst dx dy
    refine .inl ⟨rfl, k.tr R (t := .bl _) (by unfold Den; rfl) ?_⟩
    have e : decide (V.str i = V.str j) = decide (i = j) := by
      by_cases h : i = j
      · subst h; simp
      · rw [decide_eq_false h, decide_eq_false fun z => h (V.str.inj z)]
    rw [e]; exact q
  · split at q
    · rename_i tx ty ex ey
      obtain ⟨h1, h2, q⟩ := q
      exact .inr ⟨tx.pd, ty.pd, dp_of 8 _ _ h1 (R.viewT dx ex), dp_of 8 _ _ h2 (R.viewT dy ey), shaped_of h1 (by decide), shaped_of h2 (by decide), k.tr R (denB _) q⟩
    · exact q.elim
theorem de_eq {kk : Nat} (hr : Room kk X.A) (ha : DE X a τa ta) (hb : DE X b τb tb) : DE X (.Compare a [.Eq] [b] pos) (tOp (fun x y H Q => (scal x y = true ∧ Q (.bl (if false then !decide (x = y) else decide (x = y))) H) ∨
    (∃ d e, Dp X.K H x d ∧ Dp X.K H y e ∧ SeqAt.shaped d = true ∧ SeqAt.shaped e = true ∧ Q (.bl (if false then !PyData.eqv d e else PyData.eqv d e)) H)) τa τb) (d2 (fEq false) ta tb) := de_cmp (op_eq.or (op_eqD hr.units)) (op2_eq false) ha hb
theorem de_ne {kk : Nat} (hr : Room kk X.A) (ha : DE X a τa ta) (hb : DE X b τb tb) : DE X (.Compare a [.NotEq] [b] pos) (tOp (fun x y H Q => (scal x y = true ∧ Q (.bl (if true then !decide (x = y) else decide (x = y))) H) ∨
    (∃ d e, Dp X.K H x d ∧ Dp X.K H y e ∧ SeqAt.shaped d = true ∧ SeqAt.shaped e = true ∧ Q (.bl (if true then !PyData.eqv d e else PyData.eqv d e)) H)) τa τb) (d2 (fEq true) ta tb) := de_cmp (op_ne.or (op_neD hr.units)) (op2_eq true) ha hb
/-! in, not in -/
def T.flat : T → Option V
  | .non => some .non
  | .bl b => some (.bl b)
  | .int i => some (.int i)
  | .str s => some (.str s)
  | _ => none
theorem flat_den {K : PySem.W.Frag} {S : Hp} {t : T} {v u : V} (h : t.flat = some u) (d : Den K S t v) : v = u ∧ flatV v = true := by
  cases t with
  | non => cases h; unfold Den at d; subst d; exact ⟨rfl, rfl⟩
  | bl b => cases h; unfold Den at d; subst d; exact ⟨rfl, rfl⟩
  | int b => cases h; unfold Den at d; subst d; exact ⟨rfl, rfl⟩
  | str b => cases h; unfold Den at d; subst d; exact ⟨rfl, rfl⟩
  | _ => cases h
def inT (x : T) (ts : List T) : Bool := ts.any fun t => match t.flat, x.flat with | some u, some v => eqV u v | _, _ => false
def fIn (neg : Bool) : F2 := fun g x y Q => match x with
  | .t tx => (match g.seq? y with
    | some ts => tx.flat.isSome = true ∧ (∀ t ∈ ts, t.flat.isSome = true) ∧ Q (.t (.bl (if neg then !inT tx ts else inT tx ts))) g
    | none => False)
  | _ => False
theorem in_den {K : PySem.W.Frag} {S : Hp} {tx : T} {x : V} (hx : tx.flat = some x) : ∀ {ts : List T} {vs : List V}, (∀ t ∈ ts, t.flat.isSome = true) → Paired (Den K S) ts vs → inV x vs = inT tx ts ∧ vs.all flatV = true
  | _, _, _, .nil => ⟨rfl, rfl⟩
  | t :: ts, v :: vs, h, .cons d r => by
    obtain ⟨u, hu⟩ := Option.isSome_iff_exists.mp (h t (by simp))
    obtain ⟨rfl, f⟩ := flat_den hu d
    obtain ⟨h1, h2⟩ := in_den hx (fun t ht => h t (by simp [ht])) r
    constructor
    · unfold inV inT at h1 ⊢
      rw [List.any_cons, List.any_cons, h1, hu, hx]
    · rw [List.all_cons, f, h2]; rfl
theorem op2_in (neg : Bool) {K : PySem.W.Frag} : Op2 K (rIn K neg) (fIn neg) := by
  intro al S F H σ g x y wx wy Q QV R dx dy q k
  unfold fIn at q
  split at q
  · rename_i tx
    split at q
    · rename_i ts e
      obtain ⟨h1, h2, q⟩ := q
      obtain ⟨u, hu⟩ := Option.isSome_iff_exists.mp h1
      obtain ⟨rfl, f⟩ := flat_den hu dx
      obtain ⟨p, vs, rfl, h3, h4⟩ := R.viewS dy e
      obtain ⟨h5, h6⟩ := in_den hu h2 h4
      refine ⟨p, vs, rfl, h3, f, h6, k.tr R (t := .bl _) (by unfold Den; rfl) ?_⟩
      rw [h5]; exact q
    · exact q.elim
  · exact q.elim
theorem de_notin (ha : DE X a τa ta) (hb : DE X b τb tb) (hm : behindInMarks .NotIn b = false := by rfl) : DE X (.Compare a [.NotIn] [b] pos) (tOp (rIn X.K true) τa τb) (d2 (fIn true) ta tb) := de_cmp op_notIn_seq (op2_in true) ha hb hm

/-! built-ins -/
theorem OpN.or {K : PySem.W.Frag} {r r' : List V → Hp → VK → Prop} {f f' : FN} (h : OpN K r f) (h' : OpN K r' f') : OpN K (fun x H Q => r x H Q ∨ r' x H Q) (fun g x Q => f g x Q ∨ f' g x Q) := by
  intro al S F H σ g x wx Q QV R dx q k
  rcases q with q | q
  · exact .inl (h al S F H σ g x wx Q QV R dx q k)
  · exact .inr (h' al S F H σ g x wx Q QV R dx q k)
theorem OpN.imp {K : PySem.W.Frag} {r : List V → Hp → VK → Prop} {f f' : FN} (h : OpN K r f) (hi : ∀ g x Q, f' g x Q → f g x Q) : OpN K r f' := by
  intro al S F H σ g x wx Q QV R dx q k
  exact h al S F H σ g x wx Q QV R dx (hi g wx Q q) k
theorem p1 {α β : Type} {F : α → β → Prop} {x : α} {ys : List β} (h : Paired F [x] ys) : ∃ y, ys = [y] ∧ F x y := by
  cases h with
  | cons h1 h2 => cases h2; exact ⟨_, rfl, h1⟩
theorem p2 {α β : Type} {F : α → β → Prop} {x y : α} {ys : List β} (h : Paired F [x, y] ys) : ∃ u v, ys = [u, v] ∧ F x u ∧ F y v := by
  cases h with
  | cons h1 h2 =>
    obtain ⟨v, rfl, h3⟩ := p1 h2
    exact ⟨_, _, rfl, h1, h3⟩
/-- length of what a thing holds -/
def G.len? (g : G) (w : W) : Option Nat := match w with
  | .t (.lst ts) => some ts.length
  | .t (.sq ts) => some ts.length
  | .t (.tup ts) => some ts.length
  | .t (.dk ks _) => some ks.length
  | .h n => (match g.mem[n]? with
    | some (some (.lt ts)) => some ts.length
    | some (some (.lw ts)) => some ts.length
    | some (some (.dt ks _)) => some ks.length
    | some (some (.dw ks _)) => some ks.length
    | _ => none)
  | _ => none
def fLen : FN := fun g ws Q => match ws with
  | [w] => (match g.len? w with | some n => Q (.t (.int n)) g | none => False)
  | _ => False
theorem opN_len {K : PySem.W.Frag} : OpN K (fun xs H Q => (∃ p ys, xs = [V.ref p] ∧ (SqL K H p ys ∨ SqT K H p ys) ∧ Q (.int ys.length) H) ∨ (∃ a kvs, xs = [V.ref a] ∧ H a = some (.dK kvs) ∧ Q (.int kvs.length) H)) fLen := by
  intro al S F H σ g xs ws Q QV R ds q k
  unfold fLen at q
  split at q
  · rename_i w
    obtain ⟨v, rfl, d⟩ := p1 ds
    split at q
    · rename_i n e
      have seq : ∀ ts, g.seq? w = some ts → n = ts.length → (∃ p ys, [v] = [V.ref p] ∧ (SqL K H p ys ∨ SqT K H p ys) ∧ QV (.int ys.length) H) := fun ts h1 h2 => by
        obtain ⟨p, vs, rfl, h3, h4⟩ := R.viewS d h1
        refine ⟨p, vs, rfl, h3, ?_⟩
        rw [← h4.length, ← h2]
        exact k.tr R (denI _) q
      have dic : ∀ (c : Cell) (ks : List Key), g.cell? w = some c → n = ks.length → (∀ o, CellOk K al S c o → ∃ kvs, o = .dK kvs ∧ kvs.length = ks.length) → (∃ a kvs, [v] = [V.ref a] ∧ H a = some (.dK kvs) ∧ QV (.int kvs.length) H) := fun c ks h1 h2 h3 => by
        obtain ⟨a, o, rfl, h4, h5⟩ := R.view d h1
        obtain ⟨kvs, rfl, h6⟩ := h3 o h5
        refine ⟨a, kvs, rfl, h4, ?_⟩
        rw [h6, ← h2]
        exact k.tr R (denI _) q
      unfold G.len? at e
      split at e
      · exact .inl (seq _ rfl (Option.some.inj e).symm)
      · exact .inl (seq _ rfl (Option.some.inj e).symm)
      · exact .inl (seq _ rfl (Option.some.inj e).symm)
      · rename_i ks ts
        exact .inr (dic _ ks rfl (Option.some.inj e).symm fun o ⟨vs, h1, h2, h3⟩ => ⟨_, h1, by rw [List.length_zip, ← h3.length, h2, Nat.min_self]⟩)
      · rename_i m
        split at e
        · rename_i ts em
          have ec : g.cell? (.h m) = some (.lt ts) := by unfold G.cell?; dsimp only; rw [em]
          exact .inl (seq ts (by unfold G.seq? G.seqL?; dsimp only; rw [ec]) (Option.some.inj e).symm)
        · rename_i ts em
          have ec : g.cell? (.h m) = some (.lw ts) := by unfold G.cell?; dsimp only; rw [em]
          obtain ⟨a, o, rfl, h1, vs, rfl, h2⟩ := R.view d ec
          refine .inl ⟨a, vs, rfl, .inl (.inl (.inl h1)), ?_⟩
          rw [← h2.length, Option.some.inj e]
          exact k.tr R (denI _) q
        · rename_i ks ts em
          have ec : g.cell? (.h m) = some (.dt ks ts) := by unfold G.cell?; dsimp only; rw [em]
          exact .inr (dic _ ks ec (Option.some.inj e).symm fun o ⟨vs, h1, h2, h3⟩ => ⟨_, h1, by rw [List.length_zip, ← h3.length, h2, Nat.min_self]⟩)
        · rename_i ks ts em
          have ec : g.cell? (.h m) = some (.dw ks ts) := by unfold G.cell?; dsimp only; rw [em]
          exact .inr (dic _ ks ec (Option.some.inj e).symm fun o ⟨vs, h1, h2, h3⟩ => ⟨_, h1, by rw [List.length_zip, ← h3.length, h2, Nat.min_self]⟩)
        · cases e
      · cases e
    · exact q.elim
  · exact q.elim
section
variable {p : Pos}
theorem de_cB {x : Str} {id : String} {r : List V → Hp → VK → Prop} {f : FN} (hc : CallR X (.builtin id) r) (h : OpN X.K r f) (hm : X.mg x = none) (ha : DA X (e :: es) τs ts) (hv : bootBuiltins x = some (.builtin id)) (hg : Gl X x := by rfl)
    (hn : x ≠ "__name__" := by decide) (hdb : (x == ("__debug__" : Str)) = false := by decide)
    (he : starEach (e :: es) X.env = (false, eval e X.env) :: starEach es X.env := by rfl) (hpl : (backTo pos (starEach es X.env)).any (·.1) = false := by rfl) : DE X (.Call (.Name x p) (e :: es) [] pos) (tCB r τs) (dN f ts) :=
  ⟨pe_callB hc hg hm hv ha.pe hn hdb he hpl, der_N h ha.r⟩
theorem de_cT {x : Str} {id : String} {r : List V → Hp → VK → Prop} {f : FN} (hc : CallR X (.type id) r) (h : OpN X.K r f) (hm : X.mg x = none) (ha : DA X (e :: es) τs ts) (hv : bootBuiltins x = some (.type id)) (hg : Gl X x := by rfl)
    (hn : x ≠ "__name__" := by decide) (hdb : (x == ("__debug__" : Str)) = false := by decide)
    (he : starEach (e :: es) X.env = (false, eval e X.env) :: starEach es X.env := by rfl) (hpl : (backTo pos (starEach es X.env)).any (·.1) = false := by rfl) : DE X (.Call (.Name x p) (e :: es) [] pos) (tCB r τs) (dN f ts) :=
  ⟨pe_callTy hc hg hm hv ha.pe hn hdb he hpl, der_N h ha.r⟩
end
/-- one list of ints -/
theorem vals_of_denI {K : PySem.W.Frag} {S : Hp} : ∀ {ns : List Int} {vs : List V}, Paired (Den K S) (ns.map T.int) vs → vs = ns.map V.int
  | [], _, .nil => rfl
  | n :: ns, _, .cons d r => by
    unfold Den at d
    rw [d, vals_of_denI r, List.map_cons]
def G.lq? (g : G) : W → Option (List T)
  | .t (.sq ts) => some ts
  | w => g.seqL? w
theorem Rep.viewQ {K : PySem.W.Frag} {al : List Addr} {S F H : Hp} {σ : L2.St} {g : G} (R : Rep K al S F H σ g) {w : W} {v : V} {ts : List T} (d : DenW K al S w v) (e : g.lq? w = some ts) : ∃ a vs, v = .ref a ∧ SqL K H a vs ∧ Paired (Den K S) ts vs := by
  unfold G.lq? at e
  split at e
  · cases e
    unfold DenW Den at d
    obtain ⟨a, vs, rfl, h1, h2⟩ := d
    exact ⟨a, vs, rfl, R.same.seq h1, Dens.iff.mp h2⟩
  · obtain ⟨a, vs, h1, h2, h3⟩ := R.viewL d e
    exact ⟨a, vs, h1, .inl (.inl h2), h3⟩
theorem Rep.viewI {K : PySem.W.Frag} {al : List Addr} {S F H : Hp} {σ : L2.St} {g : G} (R : Rep K al S F H σ g) {w : W} {v : V} {ns : List Int} (d : DenW K al S w v) (e : g.lq? w = some (ns.map T.int)) : ∃ a, v = .ref a ∧ SqL K H a (ns.map V.int) := by
  obtain ⟨a, vs, rfl, h1, h2⟩ := R.viewQ d e
  rw [vals_of_denI h2] at h1
  exact ⟨a, rfl, h1⟩
def fSum : FN := fun g ws Q => match ws with
  | [w] => ∃ ns : List Int, g.lq? w = some (ns.map T.int) ∧ Q (.t (.int ns.sum)) g
  | _ => False
theorem opN_sum {K : PySem.W.Frag} : OpN K (rSum K) fSum := by
  intro al S F H σ g xs ws Q QV R ds q k
  unfold fSum at q
  split at q
  · obtain ⟨v, rfl, d⟩ := p1 ds
    obtain ⟨ns, e, q⟩ := q
    obtain ⟨a, rfl, h⟩ := R.viewI d e
    exact ⟨a, ns, rfl, h, k.tr R (denI _) q⟩
  · exact q.elim
/-- min, max: of a list of ints, or of two ints -/
def fMin : FN := fun g ws Q => match ws with
  | [.t (.int i), .t (.int j)] => Q (.t (.int (if j < i then j else i))) g
  | [w] => ∃ ns : List Int, g.lq? w = some (ns.map T.int) ∧ 0 < ns.length ∧ ∀ m, m ∈ ns → (∀ y, y ∈ ns → m ≤ y) → Q (.t (.int m)) g
  | _ => False
def fMax : FN := fun g ws Q => match ws with
  | [.t (.int i), .t (.int j)] => Q (.t (.int (if j > i then j else i))) g
  | [w] => ∃ ns : List Int, g.lq? w = some (ns.map T.int) ∧ 0 < ns.length ∧ ∀ m, m ∈ ns → (∀ y, y ∈ ns → y ≤ m) → Q (.t (.int m)) g
  | _ => False
theorem opN_min {K : PySem.W.Frag} : OpN K (fun xs H Q => rMin K xs H Q ∨ ∃ i j, xs = [.int i, .int j] ∧ Q (.int (if j < i then j else i)) H) fMin := by
  intro al S F H σ g xs ws Q QV R ds q k
  unfold fMin at q
  split at q
  · obtain ⟨u, v, rfl, d1, d2⟩ := p2 ds
    unfold DenW Den at d1 d2
    subst d1 d2
    exact .inr ⟨_, _, rfl, k.tr R (denI _) q⟩
  · obtain ⟨v, rfl, d⟩ := p1 ds
    obtain ⟨ns, e, h0, q⟩ := q
    obtain ⟨a, rfl, h⟩ := R.viewI d e
    exact .inl ⟨a, ns, rfl, h, h0, fun m h1 h2 => k.tr R (denI _) (q m h1 h2)⟩
  · exact q.elim
theorem opN_max {K : PySem.W.Frag} : OpN K (fun xs H Q => rMax K xs H Q ∨ ∃ i j, xs = [.int i, .int j] ∧ Q (.int (if j > i then j else i)) H) fMax := by
  intro al S F H σ g xs ws Q QV R ds q k
  unfold fMax at q
  split at q
  · obtain ⟨u, v, rfl, d1, d2⟩ := p2 ds
    unfold DenW Den at d1 d2
    subst d1 d2
    exact .inr ⟨_, _, rfl, k.tr R (denI _) q⟩
  · obtain ⟨v, rfl, d⟩ := p1 ds
    obtain ⟨ns, e, h0, q⟩ := q
    obtain ⟨a, rfl, h⟩ := R.viewI d e
    exact .inl ⟨a, ns, rfl, h, h0, fun m h1 h2 => k.tr R (denI _) (q m h1 h2)⟩
  · exact q.elim
def fInt : FN := fun g ws Q => match ws with
  | [.t (.int i)] => Q (.t (.int i)) g
  | [.t (.bl b)] => Q (.t (.int (if b then 1 else 0))) g
  | _ => False
theorem opN_int {K : PySem.W.Frag} : OpN K (fun xs H Q => (∃ i, xs = [.int i] ∧ Q (.int i) H) ∨ ∃ k, xs = [.bl k] ∧ Q (.int (if k then 1 else 0)) H) fInt := by
  intro al S F H σ g xs ws Q QV R ds q k
  unfold fInt at q
  split at q
  · obtain ⟨v, rfl, d⟩ := p1 ds
    unfold DenW Den at d
    subst d
    exact .inl ⟨_, rfl, k.tr R (denI _) q⟩
  · obtain ⟨v, rfl, d⟩ := p1 ds
    unfold DenW Den at d
    subst d
    exact .inr ⟨_, rfl, k.tr R (denI _) q⟩
  · exact q.elim
/-- list(x): a new list of the things of a list or tuple -/
def fListOf : FN := fun g ws Q => match ws with
  | [w] => (match g.seq? w with | some ts => Q (.t (.lst ts)) g | none => False)
  | _ => False
def fListOfH : FN := fun g ws Q => match ws with
  | [w] => (match g.seq? w with | some ts => Q (.h g.mem.length) (g.push (.lt ts)) | none => False)
  | _ => False
theorem opN_listOf {K : PySem.W.Frag} : OpN K (fun xs H Q => ∃ p ys, xs = [.ref p] ∧ (SqL K H p ys ∨ SqT K H p ys) ∧ ∀ l, H l = none → Q (.ref l) (upd H l (.lst ys))) fListOf := by
  intro al S F H σ g xs ws Q QV R ds q k
  unfold fListOf at q
  split at q
  · obtain ⟨v, rfl, d⟩ := p1 ds
    split at q
    · rename_i ts e
      obtain ⟨a, vs, rfl, h1, h2⟩ := R.viewS d e
      refine ⟨a, vs, rfl, h1, fun p np => ?_⟩
      obtain ⟨R2, gr2, d2⟩ := R.layL np h2
      exact k _ _ _ _ _ _ R2 gr2 d2 q
    · exact q.elim
  · exact q.elim
theorem opN_listOfH {K : PySem.W.Frag} : OpN K (fun xs H Q => ∃ p ys, xs = [.ref p] ∧ (SqL K H p ys ∨ SqT K H p ys) ∧ ∀ l, H l = none → Q (.ref l) (upd H l (.lst ys))) fListOfH := by
  intro al S F H σ g xs ws Q QV R ds q k
  unfold fListOfH at q
  split at q
  · obtain ⟨v, rfl, d⟩ := p1 ds
    split at q
    · rename_i ts e
      obtain ⟨a, vs, rfl, h1, h2⟩ := R.viewS d e
      refine ⟨a, vs, rfl, h1, fun p np => ?_⟩
      obtain ⟨R2, gr2, d2⟩ := R.pushC (c := .lt ts) (o := .lst vs) np ⟨vs, rfl, h2⟩
      exact k _ _ _ _ _ _ R2 gr2 d2 q
    · exact q.elim
  · exact q.elim
/-- tuple(x), x a list -/
def fTupOf : FN := fun g ws Q => match ws with
  | [w] => (match g.lq? w with | some ts => Q (.t (.tup ts)) g | none => False)
  | _ => False
theorem opN_tupOf {K : PySem.W.Frag} : OpN K (fun xs H Q => ∃ p ys, xs = [.ref p] ∧ ((SqL K H p ys ∧ ∀ l, H l = none → Q (.ref l) (upd H l (.tup ys))) ∨ (SqT K H p ys ∧ Q (.ref p) H))) fTupOf := by
  intro al S F H σ g xs ws Q QV R ds q k
  unfold fTupOf at q
  split at q
  · obtain ⟨v, rfl, d⟩ := p1 ds
    split at q
    · rename_i ts e
      obtain ⟨a, vs, rfl, h1, h2⟩ := R.viewQ d e
      refine ⟨a, vs, rfl, .inl ⟨h1, fun p np => ?_⟩⟩
      obtain ⟨R2, gr2, d2⟩ := R.layTup np h2
      exact k _ _ _ _ _ _ R2 gr2 d2 q
    · exact q.elim
  · exact q.elim
/-- isinstance(x, T), T a built-in class -/
def G.tyN (g : G) : W → Option String
  | .t .non => some "NoneType"
  | .t (.bl _) => some "bool"
  | .t (.int _) => some "int"
  | .t (.str _) => some "str"
  | .t (.lst _) => some "list"
  | .t (.tup _) => some "tuple"
  | .t (.dk _ _) => some "dict"
  | .t (.sq _) => none
  | .t (.raw _) => none
  | .t (.exc _) => none
  | .t (.ob _ _ _) => none
  | .t (.exf _ _ _) => none
  | .h n => (match g.mem[n]? with
    | some (some (.lt _)) => some "list"
    | some (some (.lw _)) => some "list"
    | some (some (.dt _ _)) => some "dict"
    | some (some (.dw _ _)) => some "dict"
    | some (some (.tw _)) => some "tuple"
    | _ => none)
def fIsi : FN := fun g ws Q => match ws with
  | [w, .t (.raw (.ty c))] => (match g.tyN w with | some a => (match kitB a c with | some b => Q (.t (.bl b)) g | none => False) | none => False)
  | _ => False
theorem tyX_of {K : PySem.W.Frag} {al : List Addr} {S F H : Hp} {σ : L2.St} {g : G} (R : Rep K al S F H σ g) {w : W} {v : V} {a : String} (d : DenW K al S w v) (e : g.tyN w = some a) : TyX K H v (.type a) := by
  unfold G.tyN at e
  split at e
  · cases e; unfold DenW Den at d; subst d; exact .base .non
  · cases e; unfold DenW Den at d; subst d; exact .base (.bl _)
  · cases e; unfold DenW Den at d; subst d; exact .base (.int _)
  · cases e; unfold DenW Den at d; subst d; exact .base (.str _)
  · cases e; unfold DenW Den at d; obtain ⟨p, vs, rfl, h1, _⟩ := d; exact .base (.lst (R.same _ _ h1))
  · cases e
    unfold DenW Den at d
    obtain ⟨p, vs, rfl, h1, _⟩ := d
    rcases seqT R.same h1 with (h2 | ⟨o, h2⟩) | ⟨o, its, n, h2, h3, _⟩
    · exact .base (.tup h2)
    · exact .fTuple h2
    · exact .kTuple h2 h3
  · cases e; unfold DenW Den at d; obtain ⟨p, vs, rfl, h1, _⟩ := d; exact .base (.dK (R.same _ _ h1))
  · cases e
  · cases e
  · cases e
  · cases e
  · cases e
  · rename_i m
    split at e
    · rename_i ts em
      cases e
      obtain ⟨p, o, rfl, h1, vs, rfl, _⟩ := R.view d (c := .lt ts) (by unfold G.cell?; dsimp only; rw [em])
      exact .base (.lst h1)
    · rename_i ts em
      cases e
      obtain ⟨p, o, rfl, h1, vs, rfl, _⟩ := R.view d (c := .lw ts) (by unfold G.cell?; dsimp only; rw [em])
      exact .base (.lst h1)
    · rename_i ks ts em
      cases e
      obtain ⟨p, o, rfl, h1, vs, rfl, _⟩ := R.view d (c := .dt ks ts) (by unfold G.cell?; dsimp only; rw [em])
      exact .base (.dK h1)
    · rename_i ks ts em
      cases e
      obtain ⟨p, o, rfl, h1, vs, rfl, _⟩ := R.view d (c := .dw ks ts) (by unfold G.cell?; dsimp only; rw [em])
      exact .base (.dK h1)
    · rename_i ts em
      cases e
      obtain ⟨p, o, rfl, h1, vs, rfl, _⟩ := R.view d (c := .tw ts) (by unfold G.cell?; dsimp only; rw [em])
      exact .base (.tup h1)
    · cases e
theorem opN_isi {K : PySem.W.Frag} : OpN K (rIsi K) fIsi := by
  intro al S F H σ g xs ws Q QV R ds q k
  unfold fIsi at q
  split at q
  · rename_i w c
    obtain ⟨u, v, rfl, d1, d2⟩ := p2 ds
    split at q
    · rename_i a ea
      split at q
      · rename_i b eb
        unfold DenW Den at d2
        subst d2
        exact ⟨u, .ty c, _, _, b, rfl, .ty c, tyX_of R d1 ea, kit_ty eb, k.tr R (denB _) q⟩
      · exact q.elim
    · exact q.elim
  · exact q.elim
section
variable {p : Pos}
theorem de_len (hm : X.mg "len" = none) (ha : DA X (e :: es) τs ts) (hg : Gl X "len" := by rfl) (he : starEach (e :: es) X.env = (false, eval e X.env) :: starEach es X.env := by rfl) (hpl : (backTo pos (starEach es X.env)).any (·.1) = false := by rfl) :
    DE X (.Call (.Name "len" p) (e :: es) [] pos) (tCB (fun xs H Q => (∃ p ys, xs = [V.ref p] ∧ (SqL X.K H p ys ∨ SqT X.K H p ys) ∧ Q (.int ys.length) H) ∨ (∃ a kvs, xs = [V.ref a] ∧ H a = some (.dK kvs) ∧ Q (.int kvs.length) H)) τs) (dN fLen ts) :=
  de_cB (call_len_seq.or call_lenD) opN_len hm ha PySem.boot_len hg (by decide) (by decide) he hpl
theorem de_sum (hc : X.calm = true) (hm : X.mg "sum" = none) (ha : DA X (e :: es) τs ts) (hg : Gl X "sum" := by rfl) (he : starEach (e :: es) X.env = (false, eval e X.env) :: starEach es X.env := by rfl) (hpl : (backTo pos (starEach es X.env)).any (·.1) = false := by rfl) :
    DE X (.Call (.Name "sum" p) (e :: es) [] pos) (tCB (rSum X.K) τs) (dN fSum ts) := de_cB (cr_sum hc) opN_sum hm ha (by decide +kernel) hg (by decide) (by decide) he hpl
theorem de_min (hc : X.calm = true) (hm : X.mg "min" = none) (ha : DA X (e :: es) τs ts) (hg : Gl X "min" := by rfl) (he : starEach (e :: es) X.env = (false, eval e X.env) :: starEach es X.env := by rfl) (hpl : (backTo pos (starEach es X.env)).any (·.1) = false := by rfl) :
    DE X (.Call (.Name "min" p) (e :: es) [] pos) (tCB (fun xs H Q => rMin X.K xs H Q ∨ ∃ i j, xs = [.int i, .int j] ∧ Q (.int (if j < i then j else i)) H) τs) (dN fMin ts) := de_cB ((cr_min hc).or (call_min2 hc)) opN_min hm ha (by decide +kernel) hg (by decide) (by decide) he hpl
theorem de_max (hc : X.calm = true) (hm : X.mg "max" = none) (ha : DA X (e :: es) τs ts) (hg : Gl X "max" := by rfl) (he : starEach (e :: es) X.env = (false, eval e X.env) :: starEach es X.env := by rfl) (hpl : (backTo pos (starEach es X.env)).any (·.1) = false := by rfl) :
    DE X (.Call (.Name "max" p) (e :: es) [] pos) (tCB (fun xs H Q => rMax X.K xs H Q ∨ ∃ i j, xs = [.int i, .int j] ∧ Q (.int (if j > i then j else i)) H) τs) (dN fMax ts) := de_cB ((cr_max hc).or (call_max2 hc)) opN_max hm ha (by decide +kernel) hg (by decide) (by decide) he hpl
theorem de_isi (hm : X.mg "isinstance" = none) (ha : DA X (e :: es) τs ts) (hg : Gl X "isinstance" := by rfl) (he : starEach (e :: es) X.env = (false, eval e X.env) :: starEach es X.env := by rfl) (hpl : (backTo pos (starEach es X.env)).any (·.1) = false := by rfl) :
    DE X (.Call (.Name "isinstance" p) (e :: es) [] pos) (tCB (rIsi X.K) τs) (dN fIsi ts) := de_cB call_isi opN_isi hm ha (by decide +kernel) hg (by decide) (by decide) he hpl
theorem de_intOf (hm : X.mg "int" = none) (ha : DA X (e :: es) τs ts) (hg : Gl X "int" := by rfl) (he : starEach (e :: es) X.env = (false, eval e X.env) :: starEach es X.env := by rfl) (hpl : (backTo pos (starEach es X.env)).any (·.1) = false := by rfl) :
    DE X (.Call (.Name "int" p) (e :: es) [] pos) (tCB (fun xs H Q => (∃ i, xs = [.int i] ∧ Q (.int i) H) ∨ ∃ k, xs = [.bl k] ∧ Q (.int (if k then 1 else 0)) H) τs) (dN fInt ts) := de_cT call_int1 opN_int hm ha (by decide +kernel) hg (by decide) (by decide) he hpl
theorem de_listOf (hm : X.mg "list" = none) (ha : DA X (e :: es) τs ts) (hg : Gl X "list" := by rfl) (he : starEach (e :: es) X.env = (false, eval e X.env) :: starEach es X.env := by rfl) (hpl : (backTo pos (starEach es X.env)).any (·.1) = false := by rfl) :
    DE X (.Call (.Name "list" p) (e :: es) [] pos) (tCB (fun xs H Q => ∃ p ys, xs = [.ref p] ∧ (SqL X.K H p ys ∨ SqT X.K H p ys) ∧ ∀ l, H l = none → Q (.ref l) (upd H l (.lst ys))) τs) (dN fListOf ts) := de_cT call_list_of opN_listOf hm ha (by decide +kernel) hg (by decide) (by decide) he hpl
theorem de_listOfH (hm : X.mg "list" = none) (ha : DA X (e :: es) τs ts) (hg : Gl X "list" := by rfl) (he : starEach (e :: es) X.env = (false, eval e X.env) :: starEach es X.env := by rfl) (hpl : (backTo pos (starEach es X.env)).any (·.1) = false := by rfl) :
    DE X (.Call (.Name "list" p) (e :: es) [] pos) (tCB (fun xs H Q => ∃ p ys, xs = [.ref p] ∧ (SqL X.K H p ys ∨ SqT X.K H p ys) ∧ ∀ l, H l = none → Q (.ref l) (upd H l (.lst ys))) τs) (dN fListOfH ts) := de_cT call_list_of opN_listOfH hm ha (by decide +kernel) hg (by decide) (by decide) he hpl
theorem de_tupOf (hm : X.mg "tuple" = none) (ha : DA X (e :: es) τs ts) (hg : Gl X "tuple" := by rfl) (he : starEach (e :: es) X.env = (false, eval e X.env) :: starEach es X.env := by rfl) (hpl : (backTo pos (starEach es X.env)).any (·.1) = false := by rfl) :
    DE X (.Call (.Name "tuple" p) (e :: es) [] pos) (tCB (fun xs H Q => ∃ p ys, xs = [.ref p] ∧ ((SqL X.K H p ys ∧ ∀ l, H l = none → Q (.ref l) (upd H l (.tup ys))) ∨ (SqT X.K H p ys ∧ Q (.ref p) H))) τs) (dN fTupOf ts) := de_cT call_tuple_of opN_tupOf hm ha (by decide +kernel) hg (by decide) (by decide) he hpl
/-- list(range(..)) -/
def DRr (K : PySem.W.Frag) (τ : L2.St → Hp → (Int → Int → Hp → Prop) → Prop) (t : G → (Int → Int → G → Prop) → Prop) : Prop := ∀ (al : List Addr) (S F H : Hp) (σ : L2.St) (g : G) (Q : Int → Int → G → Prop) (QV : Int → Int → Hp → Prop), Rep K al S F H σ g → t g Q →
  (∀ al' S' H' g' i j, Rep K al' S' F H' σ g' → Grow al S al' S' → Q i j g' → QV i j H') → τ σ H QV
structure DR (X : Cx) (e : Expr) (τ : L2.St → Hp → (Int → Int → Hp → Prop) → Prop) (t : G → (Int → Int → G → Prop) → Prop) : Prop where
  pe : PRg X e τ
  r : DRr X.K τ t
def dR1 (t : Dt) : G → (Int → Int → G → Prop) → Prop := fun g Q => t g fun w g' => match w with | .t (.int n) => Q 0 n g' | _ => False
def rgT (i j : Int) : List T := (List.range (j - i).toNat).map fun k => T.int (i + (k : Nat))
def dLstRg (t : G → (Int → Int → G → Prop) → Prop) : Dt := fun g Q => t g fun i j g' => RgOk i j ∧ Q (.t (.lst (rgT i j))) g'
def dLstRgH (t : G → (Int → Int → G → Prop) → Prop) : Dt := fun g Q => t g fun i j g' => RgOk i j ∧ Q (.h g'.mem.length) (g'.push (.lt (rgT i j)))
variable {τr : L2.St → Hp → (Int → Int → Hp → Prop) → Prop} {tr : G → (Int → Int → G → Prop) → Prop}
end
end
end DL

namespace DL
open PySem PySem.Spec L2

/-! dicts with int and text keys -/
section
variable {α β : Type}
def look : List Key → List α → Key → Option α
  | k :: ks, x :: xs, j => if k = j then some x else look ks xs j
  | _, _, _ => none
def putAll (k : Key) (x : α) : List Key → List α → List α
  | j :: ks, y :: ys => (if j = k then x else y) :: putAll k x ks ys
  | _, _ => []
def hasK (ks : List Key) (k : Key) : Bool := ks.any fun j => decide (j = k)
def putKs (ks : List Key) (k : Key) : List Key := if hasK ks k then ks else ks ++ [k]
def putXs (ks : List Key) (xs : List α) (k : Key) (x : α) : List α := if hasK ks k then putAll k x ks xs else xs ++ [x]
theorem look_zip {F : α → V → Prop} : ∀ {ks : List Key} {xs : List α} {vs : List V} (k : Key), Paired F xs vs → match look ks xs k, valV (ks.zip vs) k with | some x, some v => F x v | none, none => True | _, _ => False
  | [], xs, vs, k, p => by cases xs <;> simp [look, valV]
  | j :: ks, _, _, k, .nil => by simp [look, valV]
  | j :: ks, x :: xs, v :: vs, k, .cons h t => by
    by_cases e : j = k
    · subst e
      rw [List.zip_cons_cons, valV_pos rfl]
      simp only [look, if_true]
      exact h
    · have ih := look_zip (ks := ks) k t
      rw [List.zip_cons_cons, valV_neg (show ¬ (j, v).1 = k from e)]
      simp only [look, if_neg e]
      exact ih
theorem look_some {F : α → V → Prop} {ks : List Key} {xs : List α} {vs : List V} {k : Key} {x : α} (p : Paired F xs vs) (h : look ks xs k = some x) : ∃ v, valV (ks.zip vs) k = some v ∧ F x v := by
  have q := look_zip (ks := ks) k p
  rw [h] at q
  cases e : valV (ks.zip vs) k with
  | none => rw [e] at q; exact q.elim
  | some v => rw [e] at q; exact ⟨v, rfl, q⟩
theorem has_zip : ∀ {ks : List Key} {vs : List V} (k : Key), ks.length = vs.length → ((ks.zip vs).any fun kv => decide (kv.1 = k)) = hasK ks k
  | [], vs, k, _ => by simp [hasK]
  | j :: ks, [], k, h => by simp at h
  | j :: ks, v :: vs, k, h => by
    rw [List.zip_cons_cons]
    unfold hasK
    rw [List.any_cons, List.any_cons, has_zip (ks := ks) k (by simpa using h)]
    rfl
theorem has_look : ∀ {ks : List Key} {xs : List α} (k : Key), ks.length = xs.length → hasK ks k = (look ks xs k).isSome
  | [], xs, k, _ => by simp [hasK, look]
  | j :: ks, [], k, h => by simp at h
  | j :: ks, v :: vs, k, h => by
    unfold hasK
    rw [List.any_cons]
    by_cases e : j = k
    · simp [look, e]
    · simp only [look, if_neg e, decide_eq_false e, Bool.false_or]
      exact has_look (ks := ks) k (by simpa using h)
theorem putAll_zip {k : Key} {v : V} : ∀ {ks : List Key} {vs : List V}, ks.length = vs.length → ((ks.zip vs).map fun kv => if kv.1 = k then (kv.1, v) else kv) = ks.zip (putAll k v ks vs)
  | [], vs, _ => by simp
  | j :: ks, [], h => by simp at h
  | j :: ks, u :: vs, h => by
    rw [List.zip_cons_cons, List.map_cons, putAll_zip (by simpa using h)]
    simp only [putAll, List.zip_cons_cons]
    by_cases e : j = k
    · simp [e]
    · simp [e]
theorem putAll_len {k : Key} {v : α} : ∀ {ks : List Key} {vs : List α}, ks.length = vs.length → (putAll k v ks vs).length = ks.length
  | [], vs, _ => by simp [putAll]
  | j :: ks, [], h => by simp at h
  | j :: ks, u :: vs, h => by simp [putAll, putAll_len (ks := ks) (vs := vs) (by simpa using h)]
theorem putAll_pair {F : α → V → Prop} {k : Key} {x : α} {v : V} (f : F x v) : ∀ {ks : List Key} {xs : List α} {vs : List V}, Paired F xs vs → Paired F (putAll k x ks xs) (putAll k v ks vs)
  | [], _, _, _ => by simp [putAll]; exact .nil
  | j :: ks, _, _, .nil => by simp [putAll]; exact .nil
  | j :: ks, y :: xs, u :: vs, .cons h t => by
    simp only [putAll]
    by_cases e : j = k
    · rw [if_pos e, if_pos e]; exact .cons f (putAll_pair f t)
    · rw [if_neg e, if_neg e]; exact .cons h (putAll_pair f t)
theorem putK_zip {ks : List Key} {vs : List V} {k : Key} {v : V} (h : ks.length = vs.length) : putK (ks.zip vs) k v = (putKs ks k).zip (putXs ks vs k v) := by
  unfold putK putKs putXs
  rw [has_zip k h]
  by_cases e : hasK ks k = true
  · rw [if_pos e, if_pos e, if_pos e, putAll_zip h]
  · rw [if_neg e, if_neg e, if_neg e, List.zip_append h]
    rfl
theorem putX_len {ks : List Key} {xs : List α} {k : Key} {x : α} (h : ks.length = xs.length) : (putKs ks k).length = (putXs ks xs k x).length := by
  unfold putKs putXs
  by_cases e : hasK ks k = true
  · rw [if_pos e, if_pos e, putAll_len h]
  · rw [if_neg e, if_neg e]; simp [h]
theorem putX_pair {F : α → V → Prop} {k : Key} {x : α} {v : V} (f : F x v) {ks : List Key} {xs : List α} {vs : List V} (p : Paired F xs vs) : Paired F (putXs ks xs k x) (putXs ks vs k v) := by
  unfold putXs
  by_cases e : hasK ks k = true
  · rw [if_pos e, if_pos e]; exact putAll_pair f p
  · rw [if_neg e, if_neg e]; exact papp p (.cons f .nil)
end
def keyT : T → Option Key
  | .int i => some (.inl i)
  | .str s => some (.inr s)
  | _ => none
theorem key_den {K : PySem.W.Frag} {S : Hp} {t : T} {k : Key} {v : V} (h : keyT t = some k) (d : Den K S t v) : v = kV k := by
  cases t with
  | int i => cases h; unfold Den at d; exact d
  | str i => cases h; unfold Den at d; exact d
  | _ => cases h
def G.dct? (g : G) (w : W) : Option (List Key × List T) := match g.cell? w with | some (.dt ks ts) => some (ks, ts) | _ => none
def G.dcw? (g : G) (w : W) : Option (List Key × List W) := match g.cell? w with | some (.dw ks ts) => some (ks, ts) | _ => none
section
variable {X : Cx} {a b e : Expr} {τa τb : TE} {ta tb : Dt} {pos : Pos} {es : List Expr} {τs : TA} {ts : DAt}
/-- d[k] -/
def fGet : F2 := fun g x y Q => match y with
  | .t t => (match keyT t with
    | some k => (match g.dct? x with
      | some (ks, ts) => (match look ks ts k with | some r => Q (.t r) g | none => False)
      | none => (match g.dcw? x with
        | some (ks, ws) => (match look ks ws k with | some r => Q r g | none => False)
        | none => False))
    | none => False)
  | _ => False
theorem Rep.viewD {K : PySem.W.Frag} {al : List Addr} {S F H : Hp} {σ : L2.St} {g : G} (R : Rep K al S F H σ g) {w : W} {v : V} {ks : List Key} {ts : List T} (d : DenW K al S w v) (e : g.dct? w = some (ks, ts)) : ∃ a vs, v = .ref a ∧ H a = some (.dK (ks.zip vs)) ∧ ks.length = ts.length ∧ Paired (Den K S) ts vs := by
  unfold G.dct? at e
  split at e
  · rename_i ks' ts' q
    cases e
    obtain ⟨a, o, h1, h2, vs, rfl, h3, h4⟩ := R.view d q
    exact ⟨a, vs, h1, h2, h3, h4⟩
  · cases e
theorem Rep.viewDw {K : PySem.W.Frag} {al : List Addr} {S F H : Hp} {σ : L2.St} {g : G} (R : Rep K al S F H σ g) {w : W} {v : V} {ks : List Key} {ts : List W} (d : DenW K al S w v) (e : g.dcw? w = some (ks, ts)) : ∃ a vs, v = .ref a ∧ H a = some (.dK (ks.zip vs)) ∧ ks.length = ts.length ∧ Paired (DenW K al S) ts vs := by
  unfold G.dcw? at e
  split at e
  · rename_i ks' ts' q
    cases e
    obtain ⟨a, o, h1, h2, vs, rfl, h3, h4⟩ := R.view d q
    exact ⟨a, vs, h1, h2, h3, h4⟩
  · cases e
theorem de_get {kk : Nat} (hr : Room kk X.A) (ha : DE X a τa ta) (hb : DE X b τb tb) (hs : NoSl b := by intro _ _; rfl) : DE X (.Subscript a b pos) (tDGet τa τb) (d2 fGet ta tb) := by
  refine ⟨pe_dget (hu_of hr) ha.pe hb.pe hs, fun al S F H σ g Q QV R q k => ?_⟩
  refine ha.r al S F H σ g _ _ R q fun al1 S1 H1 g1 v1 w1 R1 gr1 e1 q1 => ?_
  refine hb.r al1 S1 F H1 σ g1 _ _ R1 q1 fun al2 S2 H2 g2 v2 w2 R2 gr2 e2 q2 => ?_
  unfold fGet at q2
  have gr := gr1.trans gr2
  split at q2
  · rename_i t
    split at q2
    · rename_i kk ek
      have ev := key_den ek e2
      subst ev
      split at q2
      · rename_i ks ts ed
        split at q2
        · rename_i r er
          obtain ⟨p, vs, rfl, h1, h2, h3⟩ := R2.viewD (e1.grow gr2) ed
          obtain ⟨v, h4, h5⟩ := look_some h3 er
          refine ⟨p, v, rfl, ?_, k _ _ _ _ _ (.t r) R2 gr h5 q2⟩
          rw [← h4]; exact DGet.k h1
        · exact q2.elim
      · split at q2
        · rename_i ks ts ed
          split at q2
          · rename_i r er
            obtain ⟨p, vs, rfl, h1, h2, h3⟩ := R2.viewDw (e1.grow gr2) ed
            obtain ⟨v, h4, h5⟩ := look_some h3 er
            refine ⟨p, v, rfl, ?_, k _ _ _ _ _ r R2 gr h5 q2⟩
            rw [← h4]; exact DGet.k h1
          · exact q2.elim
        · exact q2.elim
    · exact q2.elim
  · exact q2.elim
/-- k in d -/
def fDin (neg : Bool) : F2 := fun g y x Q => match y with
  | .t t => (match keyT t with
    | some k => (match g.dct? x with
      | some (ks, ts) => Q (.t (.bl (if neg then !(look ks ts k).isSome else (look ks ts k).isSome))) g
      | none => False)
    | none => False)
  | _ => False
theorem look_valV {K : PySem.W.Frag} {S : Hp} {ks : List Key} {ts : List T} {vs : List V} (k : Key) (p : Paired (Den K S) ts vs) : (valV (ks.zip vs) k).isSome = (look ks ts k).isSome := by
  have q := look_zip (ks := ks) k p
  cases e : valV (ks.zip vs) k <;> cases e2 : look ks ts k <;> rw [e, e2] at q <;> first | rfl | exact q.elim
theorem de_din {kk : Nat} (hr : Room kk X.A) (ha : DE X a τa ta) (hb : DE X b τb tb) (h1 : behindInMarks .In b = false := by rfl) : DE X (.Compare a [.In] [b] pos) (tDIn τa τb) (d2 (fDin false) ta tb) := by
  refine ⟨pe_cmp (pc_din (hu_of hr) ha.pe hb.pe) h1, fun al S F H σ g Q QV R q k => ?_⟩
  refine ha.r al S F H σ g _ _ R q fun al1 S1 H1 g1 v1 w1 R1 gr1 e1 q1 => ?_
  refine hb.r al1 S1 F H1 σ g1 _ _ R1 q1 fun al2 S2 H2 g2 v2 w2 R2 gr2 e2 q2 => ?_
  unfold fDin at q2
  split at q2
  · split at q2
    · rename_i kk ek
      have ev := key_den ek e1
      subst ev
      split at q2
      · rename_i ks ts ed
        obtain ⟨p, vs, rfl, h1, h2, h3⟩ := R2.viewD e2 ed
        refine ⟨p, _, rfl, DGet.k h1, k _ _ _ _ _ (.t (.bl _)) R2 (gr1.trans gr2) (by unfold DenW Den; rfl) ?_⟩
        rw [look_valV kk h3]
        simpa using q2
      · exact q2.elim
    · exact q2.elim
  · exact q2.elim
theorem de_dnotin {kk : Nat} (hr : Room kk X.A) (ha : DE X a τa ta) (hb : DE X b τb tb) (h1 : behindInMarks .NotIn b = false := by rfl) : DE X (.Compare a [.NotIn] [b] pos) (tDNotIn τa τb) (d2 (fDin true) ta tb) := by
  refine ⟨pe_cmp (pc_dnotin (hu_of hr) ha.pe hb.pe) h1, fun al S F H σ g Q QV R q k => ?_⟩
  refine ha.r al S F H σ g _ _ R q fun al1 S1 H1 g1 v1 w1 R1 gr1 e1 q1 => ?_
  refine hb.r al1 S1 F H1 σ g1 _ _ R1 q1 fun al2 S2 H2 g2 v2 w2 R2 gr2 e2 q2 => ?_
  unfold fDin at q2
  split at q2
  · split at q2
    · rename_i kk ek
      have ev := key_den ek e1
      subst ev
      split at q2
      · rename_i ks ts ed
        obtain ⟨p, vs, rfl, h1, h2, h3⟩ := R2.viewD e2 ed
        refine ⟨p, _, rfl, DGet.k h1, k _ _ _ _ _ (.t (.bl _)) R2 (gr1.trans gr2) (by unfold DenW Den; rfl) ?_⟩
        rw [look_valV kk h3]
        simpa using q2
      · exact q2.elim
    · exact q2.elim
  · exact q2.elim
/-- {} as a cell of trees -/
def dNewD : Dt := fun g Q => Q (.h g.mem.length) (g.push (.dt [] []))
theorem de_newD : DE X (.Dict [] [] pos) tDNewK dNewD := by
  refine ⟨pe_dnewK, fun al S F H σ g Q QV R q k => fun p np => ?_⟩
  obtain ⟨R2, gr2, d2⟩ := R.pushC (c := .dt [] []) (o := .dK []) np ⟨[], rfl, rfl, .nil⟩
  exact k _ _ _ _ _ _ R2 gr2 d2 q
def dNewDw : Dt := fun g Q => Q (.h g.mem.length) (g.push (.dw [] []))
theorem de_newDw : DE X (.Dict [] [] pos) tDNewK dNewDw := by
  refine ⟨pe_dnewK, fun al S F H σ g Q QV R q k => fun p np => ?_⟩
  obtain ⟨R2, gr2, d2⟩ := R.pushC (c := .dw [] []) (o := .dK []) np ⟨[], rfl, rfl, .nil⟩
  exact k _ _ _ _ _ _ R2 gr2 d2 q

/-! methods of built-in types -/
abbrev FM := G → W → List W → (W → G → Prop) → Prop
def OpM (K : PySem.W.Frag) (r : V → List V → Hp → VK → Prop) (f : FM) : Prop := ∀ (al : List Addr) (S F H : Hp) (σ : L2.St) (g : G) (x : V) (xs : List V) (wx : W) (ws : List W) (Q : W → G → Prop) (QV : VK), Rep K al S F H σ g → DenW K al S wx x → Paired (DenW K al S) ws xs → f g wx ws Q → Ct K al S F σ Q QV → r x xs H QV
def isL (g : G) (w : W) : Prop := match g.lq? w, g.wseq? w with | some _, _ => True | _, some _ => True | _, _ => False
theorem tyL {K : PySem.W.Frag} {al : List Addr} {S F H : Hp} {σ : L2.St} {g : G} (R : Rep K al S F H σ g) {w : W} {v : V} (d : DenW K al S w v) (h : isL g w) : tyV K "list" v H := by
  unfold isL at h
  split at h
  · rename_i ts e
    obtain ⟨a, vs, rfl, h1, _⟩ := R.viewQ d e
    exact .inl ⟨rfl, _, h1⟩
  · rename_i ts e _h0
    obtain ⟨a, vs, rfl, h1, _⟩ := R.viewW d e
    exact .inl ⟨rfl, _, .inl (.inl h1)⟩
  · exact h.elim
def dM0 (f : FM) (to : Dt) : Dt := fun g Q => to g fun x g1 => isL g1 x ∧ f g1 x [] Q
def dM (f : FM) (to : Dt) (t : DAt) : Dt := fun g Q => to g fun x g1 => isL g1 x ∧ t g1 fun ws g2 => f g2 x ws Q
variable {o : Expr} {τo : TE} {to : Dt} {name : Str} {apos cpos : Pos} {id : String} {r : V → List V → Hp → VK → Prop} {f : FM}
theorem de_m0 (slot : Slot "list" name id) (hty : typeOf (.builtin id) = pure (.type "method_descriptor")) (hm : MtR X id r) (h : OpM X.K r f) (ho : DE X o τo to)
    (hbase : attributeBase o name X.env (eval o X.env) = eval o X.env := by rfl) (hline : (apos.endLine == cpos.line) = true := by rfl) : DE X (.Call (.Attribute o name apos) [] [] cpos) (tBM0 X.K "list" r τo) (dM0 f to) := by
  refine ⟨pe_bm0 PySem.F.plainAttrs_list slot hty hm ho.pe hbase hline, fun al S F H σ g Q QV R q k => ?_⟩
  refine ho.r al S F H σ g _ _ R q fun al1 S1 H1 g1 v1 w1 R1 gr1 e1 q1 => ⟨tyL R1 e1 q1.1, ?_⟩
  exact h al1 S1 F H1 σ g1 v1 [] w1 [] Q QV R1 e1 .nil q1.2 (k.grow gr1)
theorem de_m (slot : Slot "list" name id) (hty : typeOf (.builtin id) = pure (.type "method_descriptor")) (hm : MtR X id r) (h : OpM X.K r f) (ho : DE X o τo to) (ha : DA X (e :: es) τs ts)
    (hbase : attributeBase o name X.env (eval o X.env) = eval o X.env := by rfl)
    (hfew : ((backTo cpos (starEach (e :: es) X.env)).all (fun x => !x.1) && (backToKw cpos (keywordEach [] X.env)).all (fun x => x.1.isSome)
      && decide ((e :: es).length + ([] : List Keyword).length + (if ([] : List Keyword).isEmpty then 0 else 1) < 30)) = true := by rfl)
    (hline : (apos.endLine == cpos.line) = true := by rfl) (hs : starEach (e :: es) X.env = (false, eval e X.env) :: starEach es X.env := by rfl) (hplain : (backTo cpos (starEach es X.env)).any (·.1) = false := by rfl) :
    DE X (.Call (.Attribute o name apos) (e :: es) [] cpos) (tBM X.K "list" r τo τs) (dM f to ts) := by
  refine ⟨pe_bm PySem.F.plainAttrs_list slot hty hm ho.pe ha.pe hbase hfew hline hs hplain, fun al S F H σ g Q QV R q k => ?_⟩
  refine ho.r al S F H σ g _ _ R q fun al1 S1 H1 g1 v1 w1 R1 gr1 e1 q1 => ⟨tyL R1 e1 q1.1, ?_⟩
  refine ha.r al1 S1 F H1 σ g1 _ _ R1 q1.2 fun al2 S2 H2 g2 vs2 ws2 R2 gr2 e2 q2 => ?_
  exact h al2 S2 F H2 σ g2 v1 vs2 w1 ws2 Q QV R2 (e1.grow gr2) e2 q2 (k.grow (gr1.trans gr2))
/-- a list's cell at a handle -/
theorem Rep.cellH {K : PySem.W.Frag} {al : List Addr} {S F H : Hp} {σ : L2.St} {g : G} (R : Rep K al S F H σ g) {n : Nat} {v : V} {c : Cell} (d : DenW K al S (.h n) v) (e : g.mem[n]? = some (some c)) : ∃ a o, v = .ref a ∧ al[n]? = some a ∧ H a = some o ∧ CellOk K al S c o := by
  obtain ⟨a, ea, rfl⟩ := d
  obtain ⟨a', o, h1, h2, h3, h4, h5⟩ := R.cell n c e
  rw [ea] at h1; cases h1
  exact ⟨a, o, rfl, ea, h4, h5⟩
theorem Rep.putC {K : PySem.W.Frag} {al : List Addr} {S F H : Hp} {σ : L2.St} {g : G} (R : Rep K al S F H σ g) {n : Nat} {c0 c : Cell} {a : Addr} {o : HO} (e : g.mem[n]? = some (some c0)) (ea : al[n]? = some a) (ok : CellOk K al S c o) : Rep K al S F (upd H a o) σ (g.put n c) :=
  R.withM (Grow.refl _ _) (R.toRepM.put e ea ok)
def fAppend : FM := fun g x ws Q => match x, ws with
  | .h n, [w] => (match g.mem[n]? with
    | some (some (.lt ts)) => (match w with | .t t => ts.length < sizeLine ∧ Q (.t .non) (g.put n (.lt (ts ++ [t]))) | _ => False)
    | some (some (.lw us)) => us.length < sizeLine ∧ Q (.t .non) (g.put n (.lw (us ++ [w])))
    | _ => False)
  | _, _ => False
theorem opM_append {K : PySem.W.Frag} : OpM K rAppend fAppend := by
  intro al S F H σ g x xs wx ws Q QV R d ds q k
  unfold fAppend at q
  split at q
  · rename_i n w
    obtain ⟨v, rfl, dw⟩ := p1 ds
    split at q
    · rename_i ts e
      split at q
      · rename_i t
        obtain ⟨a, o, rfl, ea, h1, vs, rfl, h2⟩ := R.cellH d e
        refine ⟨a, vs, v, rfl, rfl, h1, by rw [← h2.length]; exact q.1, ?_⟩
        have R2 := R.putC (c := .lt (ts ++ [t])) (o := .lst (vs ++ [v])) e ea ⟨_, rfl, papp h2 (.cons dw .nil)⟩
        exact k _ _ _ _ _ (.t .non) R2 (Grow.refl _ _) (by unfold DenW Den; rfl) q.2
      · exact q.elim
    · rename_i ts e
      obtain ⟨a, o, rfl, ea, h1, vs, rfl, h2⟩ := R.cellH d e
      refine ⟨a, vs, v, rfl, rfl, h1, by rw [← h2.length]; exact q.1, ?_⟩
      have R2 := R.putC (c := .lw (ts ++ [w])) (o := .lst (vs ++ [v])) e ea ⟨_, rfl, papp h2 (.cons dw .nil)⟩
      exact k _ _ _ _ _ (.t .non) R2 (Grow.refl _ _) (by unfold DenW Den; rfl) q.2
    · exact q.elim
  · exact q.elim
theorem de_append (ho : DE X o τo to) (ha : DA X (e :: es) τs ts)
    (hbase : attributeBase o "append" X.env (eval o X.env) = eval o X.env := by rfl)
    (hfew : ((backTo cpos (starEach (e :: es) X.env)).all (fun x => !x.1) && (backToKw cpos (keywordEach [] X.env)).all (fun x => x.1.isSome)
      && decide ((e :: es).length + ([] : List Keyword).length + (if ([] : List Keyword).isEmpty then 0 else 1) < 30)) = true := by rfl)
    (hline : (apos.endLine == cpos.line) = true := by rfl) (hs : starEach (e :: es) X.env = (false, eval e X.env) :: starEach es X.env := by rfl) (hplain : (backTo cpos (starEach es X.env)).any (·.1) = false := by rfl) :
    DE X (.Call (.Attribute o "append" apos) (e :: es) [] cpos) (tBM X.K "list" rAppend τo τs) (dM fAppend to ts) := de_m PySem.F.slot_list_append PySem.F.type_list_append mt_append opM_append ho ha hbase hfew hline hs hplain
/-- xs.pop() -/
def fPop : FM := fun g x ws Q => match x, ws with
  | .h n, [] => (match g.mem[n]? with
    | some (some (.lt ts)) => ∃ t, ts[ts.length - 1]? = some t ∧ Q (.t t) (g.put n (.lt ts.dropLast))
    | some (some (.lw us)) => ∃ u, us[us.length - 1]? = some u ∧ Q u (g.put n (.lw us.dropLast))
    | _ => False)
  | _, _ => False
theorem pdl {α β : Type} {F : α → β → Prop} {xs : List α} {ys : List β} (h : Paired F xs ys) : Paired F xs.dropLast ys.dropLast := by
  rw [List.dropLast_eq_take, List.dropLast_eq_take, h.length]
  exact ptake _ h
theorem opM_pop {K : PySem.W.Frag} : OpM K rPop fPop := by
  intro al S F H σ g x xs wx ws Q QV R d ds q k
  unfold fPop at q
  split at q
  · rename_i n
    cases ds
    split at q
    · rename_i ts e
      obtain ⟨t, et, q⟩ := q
      obtain ⟨a, o, rfl, ea, h1, vs, rfl, h2⟩ := R.cellH d e
      obtain ⟨v, ev, dv⟩ := pget h2 et
      refine ⟨a, vs, v, rfl, rfl, h1, by rw [← h2.length]; exact ev, ?_⟩
      have R2 := R.putC (c := .lt ts.dropLast) (o := .lst vs.dropLast) e ea ⟨_, rfl, pdl h2⟩
      exact k _ _ _ _ _ (.t t) R2 (Grow.refl _ _) dv q
    · rename_i ts e
      obtain ⟨t, et, q⟩ := q
      obtain ⟨a, o, rfl, ea, h1, vs, rfl, h2⟩ := R.cellH d e
      obtain ⟨v, ev, dv⟩ := pget h2 et
      refine ⟨a, vs, v, rfl, rfl, h1, by rw [← h2.length]; exact ev, ?_⟩
      have R2 := R.putC (c := .lw ts.dropLast) (o := .lst vs.dropLast) e ea ⟨_, rfl, pdl h2⟩
      exact k _ _ _ _ _ t R2 (Grow.refl _ _) dv q
    · exact q.elim
  · exact q.elim
theorem de_pop (ho : DE X o τo to) (hbase : attributeBase o "pop" X.env (eval o X.env) = eval o X.env := by rfl) (hline : (apos.endLine == cpos.line) = true := by rfl) : DE X (.Call (.Attribute o "pop" apos) [] [] cpos) (tBM0 X.K "list" rPop τo) (dM0 fPop to) :=
  de_m0 PySem.F.slot_list_pop PySem.F.type_list_pop mt_pop opM_pop ho hbase hline
/-- xs.insert(i, y) -/
abbrev rInsert : V → List V → Hp → VK → Prop := fun x vs H Q => ∃ (l : Addr) (xs : List V) (i : Int) (y : V), x = .ref l ∧ vs = [.int i, y] ∧ H l = some (.lst xs) ∧ xs.length < sizeLine ∧ 0 ≤ i ∧ i < 2 ^ 63 ∧
    Q .non (upd H l (.lst (xs.take i.toNat ++ [y] ++ xs.drop i.toNat)))
def fInsert : FM := fun g x ws Q => match x, ws with
  | .h n, [.t (.int i), w] => (match g.mem[n]? with
    | some (some (.lt ts)) => (match w with | .t t => ts.length < sizeLine ∧ 0 ≤ i ∧ i < 2 ^ 63 ∧ Q (.t .non) (g.put n (.lt (ts.take i.toNat ++ [t] ++ ts.drop i.toNat))) | _ => False)
    | some (some (.lw ts)) => ts.length < sizeLine ∧ 0 ≤ i ∧ i < 2 ^ 63 ∧ Q (.t .non) (g.put n (.lw (ts.take i.toNat ++ [w] ++ ts.drop i.toNat)))
    | _ => False)
  | _, _ => False
theorem opM_insert {K : PySem.W.Frag} : OpM K rInsert fInsert := by
  intro al S F H σ g x xs wx ws Q QV R d ds q k
  unfold fInsert at q
  split at q
  · rename_i n i w
    obtain ⟨vi, v, rfl, di, dv⟩ := p2 ds
    unfold DenW Den at di
    subst di
    split at q
    · rename_i ts e
      split at q
      · rename_i t
        obtain ⟨b1, b2, b3, q⟩ := q
        obtain ⟨a, o, rfl, ea, h1, vs, rfl, h2⟩ := R.cellH d e
        refine ⟨a, vs, i, v, rfl, rfl, h1, by rw [← h2.length]; exact b1, b2, b3, ?_⟩
        have R2 := R.putC (c := .lt (ts.take i.toNat ++ [t] ++ ts.drop i.toNat)) (o := .lst (vs.take i.toNat ++ [v] ++ vs.drop i.toNat)) e ea ⟨_, rfl, papp (papp (ptake _ h2) (.cons dv .nil)) (pdrop _ h2)⟩
        exact k _ _ _ _ _ (.t .non) R2 (Grow.refl _ _) (by unfold DenW Den; rfl) q
      · exact q.elim
    · rename_i ts e
      obtain ⟨b1, b2, b3, q⟩ := q
      obtain ⟨a, o, rfl, ea, h1, vs, rfl, h2⟩ := R.cellH d e
      refine ⟨a, vs, i, v, rfl, rfl, h1, by rw [← h2.length]; exact b1, b2, b3, ?_⟩
      have R2 := R.putC (c := .lw (ts.take i.toNat ++ [w] ++ ts.drop i.toNat)) (o := .lst (vs.take i.toNat ++ [v] ++ vs.drop i.toNat)) e ea ⟨_, rfl, papp (papp (ptake _ h2) (.cons dv .nil)) (pdrop _ h2)⟩
      exact k _ _ _ _ _ (.t .non) R2 (Grow.refl _ _) (by unfold DenW Den; rfl) q
    · exact q.elim
  · exact q.elim
theorem de_insert (ho : DE X o τo to) (ha : DA X (e :: es) τs ts)
    (hbase : attributeBase o "insert" X.env (eval o X.env) = eval o X.env := by rfl)
    (hfew : ((backTo cpos (starEach (e :: es) X.env)).all (fun x => !x.1) && (backToKw cpos (keywordEach [] X.env)).all (fun x => x.1.isSome)
      && decide ((e :: es).length + ([] : List Keyword).length + (if ([] : List Keyword).isEmpty then 0 else 1) < 30)) = true := by rfl)
    (hline : (apos.endLine == cpos.line) = true := by rfl) (hs : starEach (e :: es) X.env = (false, eval e X.env) :: starEach es X.env := by rfl) (hplain : (backTo cpos (starEach es X.env)).any (·.1) = false := by rfl) :
    DE X (.Call (.Attribute o "insert" apos) (e :: es) [] cpos) (tBM X.K "list" rInsert τo τs) (dM fInsert to ts) := de_m PySem.F.slot_list_insert PySem.F.type_list_insert mt_insert opM_insert ho ha hbase hfew hline hs hplain
theorem den_ints {K : PySem.W.Frag} {S : Hp} : ∀ ns : List Int, Paired (Den K S) (ns.map T.int) (ns.map V.int)
  | [] => .nil
  | n :: ns => .cons (denI n) (den_ints ns)
/-- xs.index(k), ints -/
def fIndex : FM := fun g x ws Q => match ws with
  | [.t (.int k)] => ∃ (ns : List Int) (j : Nat), g.lq? x = some (ns.map T.int) ∧ ns[j]? = some k ∧ (∀ m : Nat, m < j → ns[m]? ≠ some k) ∧ Q (.t (.int j)) g
  | _ => False
theorem opM_index {K : PySem.W.Frag} : OpM K (rIndex K) fIndex := by
  intro al S F H σ g x xs wx ws Q QV R d ds q k
  unfold fIndex at q
  split at q
  · rename_i i
    obtain ⟨vi, rfl, di⟩ := p1 ds
    unfold DenW Den at di
    subst di
    obtain ⟨ns, j, e, b1, b2, q⟩ := q
    obtain ⟨a, rfl, h⟩ := R.viewI d e
    refine ⟨a, ns.map V.int, .int i, j, .int i, rfl, rfl, h, rfl, ?_, by rw [List.getElem?_map, b1]; rfl, by simp [eqV], ?_⟩
    · rw [List.all_eq_true]
      intro v hv
      obtain ⟨n, _, rfl⟩ := List.mem_map.mp hv
      rfl
    · refine ⟨fun m z' hm hz => ?_, k.tr R (denI _) q⟩
      rw [List.getElem?_map] at hz
      cases e2 : ns[m]? with
      | none => rw [e2] at hz; cases hz
      | some n =>
        rw [e2] at hz
        cases hz
        have := b2 m hm
        rw [e2] at this
        simp only [eqV]
        exact beq_eq_false_iff_ne.mpr fun z => this (by rw [z])
  · exact q.elim
theorem de_index (ho : DE X o τo to) (ha : DA X (e :: es) τs ts)
    (hbase : attributeBase o "index" X.env (eval o X.env) = eval o X.env := by rfl)
    (hfew : ((backTo cpos (starEach (e :: es) X.env)).all (fun x => !x.1) && (backToKw cpos (keywordEach [] X.env)).all (fun x => x.1.isSome)
      && decide ((e :: es).length + ([] : List Keyword).length + (if ([] : List Keyword).isEmpty then 0 else 1) < 30)) = true := by rfl)
    (hline : (apos.endLine == cpos.line) = true := by rfl) (hs : starEach (e :: es) X.env = (false, eval e X.env) :: starEach es X.env := by rfl) (hplain : (backTo cpos (starEach es X.env)).any (·.1) = false := by rfl) :
    DE X (.Call (.Attribute o "index" apos) (e :: es) [] cpos) (tBM X.K "list" (rIndex X.K) τo τs) (dM fIndex to ts) := de_m PySem.F.slot_list_index PySem.F.type_list_index mt_index opM_index ho ha hbase hfew hline hs hplain
end
end DL

namespace DL
open PySem PySem.Spec L2

section
variable {X : Cx} {a b c e : Expr} {τa τb : TE} {ta tb : Dt} {pos : Pos} {es rest : List Expr} {τs : TA} {ts : DAt} {τt τu : TT} {tt tu : DTt}
/-! tests -/
def dB (t : Dt) : DTt := fun g Q => t g fun w g' => match w with | .t (.bl b) => Q b g' | _ => False
theorem dt_val (h : DE X e τa ta) (he : ∀ whole, isTrue e X.env whole = (do let v ← whole; standAt e.pos; holding [v] (truthy v)) := by intro _; rfl) : DT X e (L2.tB τa) (dB ta) := by
  refine ⟨pt_val h.pe he, fun al S F H σ g Q QV R q k => ?_⟩
  refine h.r al S F H σ g _ _ R q fun al1 S1 H1 g1 v1 w1 R1 gr1 e1 q1 => ?_
  split at q1
  · rename_i bb
    unfold DenW Den at e1
    exact ⟨bb, e1, k _ _ _ _ _ R1 gr1 q1⟩
  · exact q1.elim
def dNot (t : DTt) : DTt := fun g Q => t g fun c g' => Q (!c) g'
theorem dt_not (h : DT X a τt tt) : DT X (.UnaryOp .Not a pos) (tNot τt) (dNot tt) :=
  ⟨pt_not h.pe, fun al S F H σ g Q QV R q k => h.r al S F H σ g _ _ R q fun al1 S1 H1 g1 b1 R1 gr1 q1 => k _ _ _ _ _ R1 gr1 q1⟩
theorem dt_w (h : DW X a τt tt) : DT X a τt tt := ⟨h.pe.pt, h.r⟩
theorem dw_and1 (h : DT X a τt tt) : DW X (.BoolOp .And [a] pos) τt tt := ⟨pw_and1 h.pe, h.r⟩
theorem dw_or1 (h : DT X a τt tt) : DW X (.BoolOp .Or [a] pos) τt tt := ⟨pw_or1 h.pe, h.r⟩
def dAnd (t u : DTt) : DTt := fun g Q => t g fun c g1 => if c = true then u g1 Q else Q false g1
def dOr (t u : DTt) : DTt := fun g Q => t g fun c g1 => if c = true then Q true g1 else u g1 Q
theorem dw_and (ha : DT X a τt tt) (hb : DW X (.BoolOp .And (b :: rest) pos) τu tu) : DW X (.BoolOp .And (a :: b :: rest) pos) (tAnd τt τu) (dAnd tt tu) := by
  refine ⟨pw_and ha.pe hb.pe, fun al S F H σ g Q QV R q k => ?_⟩
  refine ha.r al S F H σ g _ _ R q fun al1 S1 H1 g1 b1 R1 gr1 q1 => ?_
  cases b1 with
  | true =>
    simp only [if_true] at q1 ⊢
    exact hb.r al1 S1 F H1 σ g1 _ _ R1 q1 fun al2 S2 H2 g2 b2 R2 gr2 q2 => k _ _ _ _ _ R2 (gr1.trans gr2) q2
  | false =>
    simp only [Bool.false_eq_true, if_false] at q1 ⊢
    exact k _ _ _ _ _ R1 gr1 q1
theorem dw_or (ha : DT X a τt tt) (hb : DW X (.BoolOp .Or (b :: rest) pos) τu tu) : DW X (.BoolOp .Or (a :: b :: rest) pos) (tOr τt τu) (dOr tt tu) := by
  refine ⟨pw_or ha.pe hb.pe, fun al S F H σ g Q QV R q k => ?_⟩
  refine ha.r al S F H σ g _ _ R q fun al1 S1 H1 g1 b1 R1 gr1 q1 => ?_
  cases b1 with
  | true =>
    simp only [if_true] at q1 ⊢
    exact k _ _ _ _ _ R1 gr1 q1
  | false =>
    simp only [Bool.false_eq_true, if_false] at q1 ⊢
    exact hb.r al1 S1 F H1 σ g1 _ _ R1 q1 fun al2 S2 H2 g2 b2 R2 gr2 q2 => k _ _ _ _ _ R2 (gr1.trans gr2) q2
def dAndV (ta tb : Dt) : Dt := fun g Q => ta g fun w g1 => match w with | .t (.bl c) => if c = true then tb g1 Q else Q (.t (.bl false)) g1 | _ => False
def dOrV (ta tb : Dt) : Dt := fun g Q => ta g fun w g1 => match w with | .t (.bl c) => if c = true then Q (.t (.bl true)) g1 else tb g1 Q | _ => False
def dNotV (ta : Dt) : Dt := fun g Q => ta g fun w g1 => match w with | .t (.bl c) => Q (.t (.bl (!c))) g1 | _ => False
theorem de_one {op} (h : DE X a τa ta) : DE X (.BoolOp op [a] pos) τa ta := ⟨pe_one h.pe, h.r⟩
theorem de_and (ha : DE X a τa ta) (hb : DE X (.BoolOp .And (b :: rest) pos) τb tb) : DE X (.BoolOp .And (a :: b :: rest) pos) (tAndV τa τb) (dAndV ta tb) := by
  refine ⟨pe_and ha.pe hb.pe, fun al S F H σ g Q QV R q k => ?_⟩
  refine ha.r al S F H σ g _ _ R q fun al1 S1 H1 g1 v1 w1 R1 gr1 e1 q1 => ?_
  split at q1
  · rename_i c
    unfold DenW Den at e1
    refine ⟨c, e1, ?_⟩
    cases c with
    | true =>
      simp only [if_true] at q1 ⊢
      exact hb.r al1 S1 F H1 σ g1 _ _ R1 q1 (k.grow gr1)
    | false =>
      simp only [Bool.false_eq_true, if_false] at q1 ⊢
      exact k _ _ _ _ _ (.t (.bl false)) R1 gr1 (by unfold DenW Den; rfl) q1
  · exact q1.elim
theorem de_or (ha : DE X a τa ta) (hb : DE X (.BoolOp .Or (b :: rest) pos) τb tb) : DE X (.BoolOp .Or (a :: b :: rest) pos) (tOrV τa τb) (dOrV ta tb) := by
  refine ⟨pe_or ha.pe hb.pe, fun al S F H σ g Q QV R q k => ?_⟩
  refine ha.r al S F H σ g _ _ R q fun al1 S1 H1 g1 v1 w1 R1 gr1 e1 q1 => ?_
  split at q1
  · rename_i c
    unfold DenW Den at e1
    refine ⟨c, e1, ?_⟩
    cases c with
    | true =>
      simp only [if_true] at q1 ⊢
      exact k _ _ _ _ _ (.t (.bl true)) R1 gr1 (by unfold DenW Den; rfl) q1
    | false =>
      simp only [Bool.false_eq_true, if_false] at q1 ⊢
      exact hb.r al1 S1 F H1 σ g1 _ _ R1 q1 (k.grow gr1)
  · exact q1.elim
def dIf (t : DTt) (ta tb : Dt) : Dt := fun g Q => t g fun c g1 => if c = true then ta g1 Q else tb g1 Q
/-! calls of defs -/
end

/-! statements -/
structure De where
  nx : G → Prop
  rt : W → G → Prop
  bk : G → Prop
  ct : G → Prop
abbrev DSt := De → G → Prop
structure Lk (K : PySem.W.Frag) (al : List Addr) (S F : Hp) (D : De) (DV : Ends) : Prop where
  nx : ∀ al' S' H' σ' g', Rep K al' S' F H' σ' g' → Grow al S al' S' → D.nx g' → DV.nx σ' H'
  rt : ∀ al' S' H' σ' g' v w, Rep K al' S' F H' σ' g' → Grow al S al' S' → DenW K al' S' w v → D.rt w g' → DV.rt v H'
  bk : ∀ al' S' H' σ' g', Rep K al' S' F H' σ' g' → Grow al S al' S' → D.bk g' → DV.bk σ' H'
  ct : ∀ al' S' H' σ' g', Rep K al' S' F H' σ' g' → Grow al S al' S' → D.ct g' → DV.ct σ' H'
theorem Lk.grow {K : PySem.W.Frag} {al al1 : List Addr} {S S1 F : Hp} {D : De} {DV : Ends} (k : Lk K al S F D DV) (gr : Grow al S al1 S1) : Lk K al1 S1 F D DV :=
  ⟨fun a s h σ g R g2 q => k.nx a s h σ g R (gr.trans g2) q, fun a s h σ g v w R g2 d q => k.rt a s h σ g v w R (gr.trans g2) d q, fun a s h σ g R g2 q => k.bk a s h σ g R (gr.trans g2) q, fun a s h σ g R g2 q => k.ct a s h σ g R (gr.trans g2) q⟩
def DSr (K : PySem.W.Frag) (τ : TS) (t : DSt) : Prop := ∀ (al : List Addr) (S F H : Hp) (σ : L2.St) (g : G) (D : De) (DV : Ends), Rep K al S F H σ g → t D g → Lk K al S F D DV → τ DV σ H
structure DS (X : Cx) (st : Stmt) (τ : TS) (t : DSt) : Prop where
  pe : PS X st τ
  r : DSr X.K τ t
structure DSs (X : Cx) (st : List Stmt) (τ : TS) (t : DSt) : Prop where
  pe : PSs X st τ
  r : DSr X.K τ t
section
variable {X : Cx} {st : Stmt} {rest : List Stmt} {τ τ' : TS} {t u : DSt} {e : Expr} {τe : TE} {te : Dt} {pos : Pos}
def dNext : DSt := fun D g => D.nx g
theorem r_next {K : PySem.W.Frag} : DSr K tNext dNext := fun al S F H σ g D DV R q k => k.nx _ _ _ _ _ R (Grow.refl _ _) q
theorem dss_nil : DSs X [] tNext dNext := ⟨pss_nil, r_next⟩
def dSeq (t u : DSt) : DSt := fun D g => t { D with nx := u D } g
theorem dss_cons (h1 : DS X st τ t) (h2 : DSs X rest τ' u) : DSs X (st :: rest) (tSeq τ τ') (dSeq t u) := by
  refine ⟨pss_cons h1.pe h2.pe, fun al S F H σ g D DV R q k => ?_⟩
  refine h1.r al S F H σ g { D with nx := u D } { DV with nx := τ' DV } R q ⟨fun al1 S1 H1 σ1 g1 R1 gr1 q1 => ?_, k.rt, k.bk, k.ct⟩
  exact h2.r al1 S1 F H1 σ1 g1 D DV R1 q1 (k.grow gr1)
theorem dss_one (h : DS X st τ t) : DSs X [st] τ t := ⟨pss_one h.pe, h.r⟩
def dBreak : DSt := fun D g => D.bk g
def dCont : DSt := fun D g => D.ct g
def dNever : DSt := fun _ _ => False
theorem ds_never : DS X st tNever dNever := ⟨ps_never, fun al S F H σ g D DV R q k => q⟩
def dDrop (t : Dt) : DSt := fun D g => t g fun _ g1 => D.nx g1
theorem ds_expr (h : DE X e τe te) (hs : swapsWith e none pos.line X.env = pure false := by rfl) : DS X (.Expr e pos) (tDrop τe) (dDrop te) :=
  ⟨ps_expr h.pe hs, fun al S F H σ g D DV R q k => h.r al S F H σ g _ _ R q fun al1 S1 H1 g1 v1 w1 R1 gr1 e1 q1 => k.nx _ _ _ _ _ R1 gr1 q1⟩
def dRet (t : Dt) : DSt := fun D g => t g D.rt
theorem ds_ret (h : DE X e τe te) : DS X (.Return (some e) pos) (tRet τe) (dRet te) :=
  ⟨ps_ret h.pe, fun al S F H σ g D DV R q k => h.r al S F H σ g _ _ R q fun al1 S1 H1 g1 v1 w1 R1 gr1 e1 q1 => k.rt _ _ _ _ _ _ _ R1 gr1 e1 q1⟩
def dRetN : DSt := fun D g => D.rt (.t .non) g
def dIfS (c : DTt) (t u : DSt) : DSt := fun D g => c g fun b g1 => if b = true then t D g1 else u D g1
theorem ds_if {c : Expr} {A B : List Stmt} {τc : TT} {tc : DTt} (hc : DT X c τc tc) (ha : DSs X A τ t) (hb : DSs X B τ' u) : DS X (.If c A B pos) (tIfS τc τ τ') (dIfS tc t u) := by
  refine ⟨ps_if hc.pe ha.pe hb.pe, fun al S F H σ g D DV R q k => ?_⟩
  refine hc.r al S F H σ g _ _ R q fun al1 S1 H1 g1 b1 R1 gr1 q1 => ?_
  cases b1 with
  | true =>
    simp only [if_true] at q1 ⊢
    exact ha.r al1 S1 F H1 σ g1 _ _ R1 q1 (k.grow gr1)
  | false =>
    simp only [Bool.false_eq_true, if_false] at q1 ⊢
    exact hb.r al1 S1 F H1 σ g1 _ _ R1 q1 (k.grow gr1)
/-! targets -/
abbrev DGt := W → G → (G → Prop) → Prop
def DGr (K : PySem.W.Frag) (τ : TG) (t : DGt) : Prop := ∀ (al : List Addr) (S F H : Hp) (σ : L2.St) (g : G) (v : V) (w : W) (Q : G → Prop) (QV : L2.St → Hp → Prop), Rep K al S F H σ g → DenW K al S w v → t w g Q →
  (∀ al' S' H' σ' g', Rep K al' S' F H' σ' g' → Grow al S al' S' → Q g' → QV σ' H') → τ v σ H QV
structure DG (X : Cx) (tg : Expr) (τ : TG) (t : DGt) : Prop where
  pe : PG X tg τ
  r : DGr X.K τ t
abbrev DGst := List T → G → (G → Prop) → Prop
structure DGs (X : Cx) (tg : List Expr) (τ : TGs) (t : DGst) : Prop where
  pe : PGs X tg τ
  r : ∀ (al : List Addr) (S F H : Hp) (σ : L2.St) (g : G) (vs : List V) (ws : List T) (Q : G → Prop) (QV : L2.St → Hp → Prop), Rep X.K al S F H σ g → Paired (Den X.K S) ws vs → t ws g Q →
    (∀ al' S' H' σ' g', Rep X.K al' S' F H' σ' g' → Grow al S al' S' → Q g' → QV σ' H') → τ vs σ H QV
def dgN (i : Nat) : DGt := fun w g Q => Q (g.set i w)
theorem dg_name (i : Nat) {x : Str} {ps : Pos} (hN : X.N.Nodup) (hi : X.N[i]? = some x := by rfl) (hx : Loc X.env.scope x := by first | exact Or.inl rfl | exact Or.inr rfl) (hf : X.fn x = true ∨ X.env.scope.names.lookup x = some .local := by first | exact .inl rfl | exact .inr rfl | assumption) : DG X (.Name x ps) (gName i) (dgN i) :=
  ⟨pg_name hN hi hx hf, fun al S F H σ g v w Q QV R d q k => k _ _ _ _ _ (R.setSlot d) (Grow.refl _ _) q⟩
def dgNil : DGst := fun ws g Q => match ws with | [] => Q g | _ => False
def dgCons (t : DGt) (u : DGst) : DGst := fun ws g Q => match ws with | w :: r => t (.t w) g fun g1 => u r g1 Q | _ => False
theorem dgs_nil : DGs X [] gNil dgNil := by
  refine ⟨pgs_nil, fun al S F H σ g vs ws Q QV R d q k => ?_⟩
  cases d with
  | nil => exact ⟨rfl, k _ _ _ _ _ R (Grow.refl _ _) q⟩
  | cons _ _ => exact q.elim
theorem dgs_cons {e : Expr} {es : List Expr} {τ1 : TG} {t1 : DGt} {τ2 : TGs} {t2 : DGst} (h1 : DG X e τ1 t1) (h2 : DGs X es τ2 t2)
    (hs : (assignEach (e :: es) X.env).map (·.2) = assign e X.env :: (assignEach es X.env).map (·.2) := by rfl) : DGs X (e :: es) (gCons τ1 τ2) (dgCons t1 t2) := by
  refine ⟨pgs_cons h1.pe h2.pe hs, fun al S F H σ g vs ws Q QV R d q k => ?_⟩
  cases d with
  | nil => exact q.elim
  | cons d1 d2 =>
    refine ⟨_, _, rfl, ?_⟩
    refine h1.r al S F H σ g _ (.t _) _ _ R d1 q fun al1 S1 H1 σ1 g1 R1 gr1 q1 => ?_
    exact h2.r al1 S1 F H1 σ1 g1 _ _ Q QV R1 (Denp.grow gr1.s d2) q1 fun al2 S2 H2 σ2 g2 R2 gr2 q2 => k _ _ _ _ _ R2 (gr1.trans gr2) q2
def dgTup (n : Nat) (t : DGst) : DGt := fun w g Q => match w with | .t (.tup ts) => ts.length = n ∧ t ts g Q | _ => False
theorem dg_tup {es : List Expr} {kk : Nat} {ps : Pos} {τ1 : TGs} {t1 : DGst} {n : Nat} (hc : X.calm = true) (h : DGs X es τ1 t1)
    (hn : (assignEach es X.env).length = n := by rfl) (hst : (assignEach es X.env).findIdx? (·.1) = none := by rfl) : DG X (.Tuple es kk ps) (gTup X.K n τ1) (dgTup n t1) := by
  refine ⟨pg_tup hc h.pe hn hst, fun al S F H σ g v w Q QV R d q k => ?_⟩
  unfold dgTup at q
  split at q
  · rename_i ts
    unfold DenW Den at d
    obtain ⟨p, vs, rfl, h1, h2⟩ := d
    have h2' := Dens.iff.mp h2
    exact ⟨p, vs, rfl, seqT R.same h1, by rw [← h2'.length]; exact q.1, h.r al S F H σ g vs ts Q QV R h2' q.2 k⟩
  · exact q.elim
/-- x[i] = v, x a list's cell -/
def dgSub (to ti : Dt) : DGt := fun w g Q => to g fun o g1 => ti g1 fun i g2 => match o, i with
  | .h n, .t (.int z) => (match g2.mem[n]? with
    | some (some (.lt ts)) => (match w with | .t tw => ∃ j, ixN ts.length z = some j ∧ Q (g2.put n (.lt (ts.set j tw))) | _ => False)
    | some (some (.lw us)) => ∃ j, ixN us.length z = some j ∧ Q (g2.put n (.lw (us.set j w)))
    | _ => False)
  | _, _ => False
theorem dg_sub {o i : Expr} {τo τi : TE} {to ti : Dt} {ps : Pos} (ho : DE X o τo to) (hi : DE X i τi ti)
    (ha : ∀ v, assign (.Subscript o i ps) X.env v = (do
      let ov ← holding [v] (eval o X.env)
      let iv ← holding [v, ov] (eval i X.env)
      standAt ps
      holding [v, ov, iv] (setItem ov iv v)
      release [v, ov, iv] []) := by intro _; rfl) : DG X (.Subscript o i ps) (gSub τo τi rSetL) (dgSub to ti) := by
  refine ⟨pg_sub ho.pe hi.pe set_list ha, fun al S F H σ g v w Q QV R d q k => ?_⟩
  refine ho.r al S F H σ g _ _ R q fun al1 S1 H1 g1 v1 w1 R1 gr1 e1 q1 => ?_
  refine hi.r al1 S1 F H1 σ g1 _ _ R1 q1 fun al2 S2 H2 g2 v2 w2 R2 gr2 e2 q2 => ?_
  have gr := gr1.trans gr2
  split at q2
  · rename_i n z
    unfold DenW Den at e2
    subst e2
    split at q2
    · rename_i ts em
      split at q2
      · rename_i tw
        obtain ⟨j, hj, q2⟩ := q2
        obtain ⟨p, o, rfl, ea, h1, vs, rfl, h2⟩ := R2.cellH (e1.grow gr2) em
        refine ⟨p, vs, z, j, rfl, rfl, h1, by rw [← h2.length]; exact hj, ?_⟩
        have dt : Den X.K S2 tw v := d.grow gr
        exact k _ _ _ _ _ (R2.putC (c := .lt (ts.set j tw)) (o := .lst (vs.set j v)) em ea ⟨_, rfl, pset dt j h2⟩) gr q2
      · exact q2.elim
    · rename_i us em
      obtain ⟨j, hj, q2⟩ := q2
      obtain ⟨p, o, rfl, ea, h1, vs, rfl, h2⟩ := R2.cellH (e1.grow gr2) em
      refine ⟨p, vs, z, j, rfl, rfl, h1, by rw [← h2.length]; exact hj, ?_⟩
      exact k _ _ _ _ _ (R2.putC (c := .lw (us.set j w)) (o := .lst (vs.set j v)) em ea ⟨_, rfl, pset (d.grow gr) j h2⟩) gr q2
    · exact q2.elim
  · exact q2.elim
def dAsg (te : Dt) (t : DGt) : DSt := fun D g => te g fun w g1 => t w g1 D.nx
theorem ds_asg {tg : Expr} {τg : TG} {tg' : DGt} (he : DE X e τe te) (hg : DG X tg τg tg') (hs : swapsWithSole [tg] e pos.line X.env = pure false := by rfl) (hw : swappedStores [tg] e X.env = pure none := by rfl)
    (h1 : (assignEach [tg] X.env).map (·.2) = [assign tg X.env] := by rfl) : DS X (.Assign [tg] e pos) (tAsg τe τg) (dAsg te tg') := by
  refine ⟨ps_asg he.pe hg.pe hs hw h1, fun al S F H σ g D DV R q k => ?_⟩
  refine he.r al S F H σ g _ _ R q fun al1 S1 H1 g1 v1 w1 R1 gr1 e1 q1 => ?_
  exact hg.r al1 S1 F H1 σ g1 v1 w1 _ _ R1 e1 q1 fun al2 S2 H2 σ2 g2 R2 gr2 q2 => k.nx _ _ _ _ _ R2 (gr1.trans gr2) q2
theorem ds_set (i : Nat) {x : Str} {ps : Pos} (hN : X.N.Nodup) (he : DE X e τe te) (hi : X.N[i]? = some x := by rfl) (hx : Loc X.env.scope x := by first | exact Or.inl rfl | exact Or.inr rfl) (hs : swapsWith e (some (.Name x ps)) pos.line X.env = pure false := by rfl) (hf : X.fn x = true ∨ X.env.scope.names.lookup x = some .local := by first | exact .inl rfl | exact .inr rfl | assumption) :
    DS X (.Assign [.Name x ps] e pos) (tAsg τe (gName i)) (dAsg te (dgN i)) := by
  refine ⟨ps_set hN hi hx he.pe hs hf, fun al S F H σ g D DV R q k => ?_⟩
  refine he.r al S F H σ g _ _ R q fun al1 S1 H1 g1 v1 w1 R1 gr1 e1 q1 => ?_
  exact k.nx _ _ _ _ _ (R1.setSlot e1) gr1 q1
/-- x += e, x -= e: ints -/
def dAug (i : Nat) (f : Int → Int → Int) (te : Dt) : DSt := fun D g => match g.sl[i]? with
  | some (some (.t (.int a))) => te g fun w g1 => (match w with | .t (.int b) => D.nx (g1.set i (.t (.int (f a b)))) | _ => False)
  | _ => False
theorem ds_aug (i : Nat) {f : Int → Int → Int} {op : Operator} {x : Str} {ps : Pos} (hop : PIp X op (ipI f)) (hN : X.N.Nodup) (he : DE X e τe te) (hi : X.N[i]? = some x := by rfl) (hx : Loc X.env.scope x := by first | exact Or.inl rfl | exact Or.inr rfl) (hf : X.fn x = true ∨ X.env.scope.names.lookup x = some .local := by first | exact .inl rfl | exact .inr rfl | assumption) :
    DS X (.AugAssign (.Name x ps) op e pos) (tAug i τe (ipI f)) (dAug i f te) := by
  refine ⟨ps_aug hN hi hx he.pe hop hf, fun al S F H σ g D DV R q k => ?_⟩
  unfold dAug at q
  split at q
  · rename_i z ez
    obtain ⟨v, hv, dv⟩ := R.slot i _ ez
    refine ⟨v, hv, ?_⟩
    refine he.r al S F H σ g _ _ R q fun al1 S1 H1 g1 v1 w1 R1 gr1 e1 q1 => ?_
    split at q1
    · rename_i y
      unfold DenW Den at e1 dv
      exact ⟨z, y, dv, e1, k.nx _ _ _ _ _ (R1.setSlot (w := .t (.int (f z y))) (by unfold DenW Den; rfl)) gr1 q1⟩
    · exact q1.elim
  · exact q.elim
/-- d[k] = v, d a dict's cell -/
def dDput (td ty tv : Dt) : DSt := fun D g => tv g fun w g1 => td g1 fun o g2 => ty g2 fun y g3 => match o, y with
  | .h n, .t ky => (match keyT ky with
    | some k => (match g3.mem[n]? with
      | some (some (.dt ks ts)) => (match w with | .t tw => ks.length < sizeLine ∧ D.nx (g3.put n (.dt (putKs ks k) (putXs ks ts k tw))) | _ => False)
      | some (some (.dw ks us)) => ks.length < sizeLine ∧ D.nx (g3.put n (.dw (putKs ks k) (putXs ks us k w)))
      | _ => False)
    | none => False)
  | _, _ => False
theorem ds_dput {o i : Expr} {τd τy : TE} {td ty : Dt} {ps : Pos} {kk : Nat} (hr : Room kk X.A) (ho : DE X o τd td) (hi : DE X i τy ty) (hv : DE X e τe te) (hs : swapsWith e (some (.Subscript o i ps)) pos.line X.env = pure false := by rfl) :
    DS X (.Assign [.Subscript o i ps] e pos) (sDPut τd τy τe) (dDput td ty te) := by
  refine ⟨ps_dput (hu_of hr) ho.pe hi.pe hv.pe hs, fun al S F H σ g D DV R q k => ?_⟩
  refine hv.r al S F H σ g _ _ R q fun al1 S1 H1 g1 v1 w1 R1 gr1 e1 q1 => ?_
  refine ho.r al1 S1 F H1 σ g1 _ _ R1 q1 fun al2 S2 H2 g2 v2 w2 R2 gr2 e2 q2 => ?_
  refine hi.r al2 S2 F H2 σ g2 _ _ R2 q2 fun al3 S3 H3 g3 v3 w3 R3 gr3 e3 q3 => ?_
  have gr := gr1.trans (gr2.trans gr3)
  split at q3
  · rename_i n ky
    split at q3
    · rename_i key ek
      have ev := key_den ek e3
      subst ev
      split at q3
      · rename_i ks ts em
        split at q3
        · rename_i tw
          obtain ⟨p, o, rfl, ea, h1, vs, rfl, h2, h3⟩ := R3.cellH (e2.grow gr3) em
          have hl : ks.length = vs.length := by rw [h2, h3.length]
          have dt : Den X.K S3 tw v1 := e1.grow (gr2.trans gr3)
          have hz : (ks.zip vs).length < sizeLine := by rw [List.length_zip, ← hl, Nat.min_self]; exact q3.1
          refine ⟨p, _, rfl, DPut.k h1 hz, ?_⟩
          rw [putK_zip hl]
          refine k.nx _ _ _ _ _ (R3.putC (c := .dt (putKs ks key) (putXs ks ts key tw)) em ea ⟨_, rfl, putX_len h2, putX_pair dt h3⟩) gr q3.2
        · exact q3.elim
      · rename_i ks ts em
        obtain ⟨p, o, rfl, ea, h1, vs, rfl, h2, h3⟩ := R3.cellH (e2.grow gr3) em
        have hl : ks.length = vs.length := by rw [h2, h3.length]
        have dt := e1.grow (gr2.trans gr3)
        have hz : (ks.zip vs).length < sizeLine := by rw [List.length_zip, ← hl, Nat.min_self]; exact q3.1
        refine ⟨p, _, rfl, DPut.k h1 hz, ?_⟩
        rw [putK_zip hl]
        refine k.nx _ _ _ _ _ (R3.putC (c := .dw (putKs ks key) (putXs ks ts key w1)) em ea ⟨_, rfl, putX_len h2, putX_pair dt h3⟩) gr q3.2
      · exact q3.elim
    · exact q3.elim
  · exact q3.elim
/-! while -/
def dWhile (c : DTt) (tb : DSt) : DSt := fun D g => ∃ I : Nat → G → Prop, (∃ m, I m g) ∧ ∀ m g', I m g' → c g' fun b g1 => if b = true then tb { D with nx := fun g2 => ∃ m', m' < m ∧ I m' g2, ct := fun g2 => ∃ m', m' < m ∧ I m' g2, bk := D.nx } g1 else D.nx g1
theorem ds_while {c : Expr} {body : List Stmt} {τc : TT} {tc : DTt} (hc : DT X c τc tc) (hb : DSs X body τ t) (hp : PassesOwn (model X.prog X.w) X.A X.env X.xe := by exact PassesOwn.never) : DS X (.While c body [] pos) (tWhile τc τ) (dWhile tc t) := by
  refine ⟨ps_while hp hc.pe hb.pe, fun al S F H σ g D DV R q k => ?_⟩
  obtain ⟨I, ⟨m0, i0⟩, turn⟩ := q
  refine ⟨fun m σ' H' => ∃ al' S' g', Rep X.K al' S' F H' σ' g' ∧ Grow al S al' S' ∧ I m g', ⟨m0, al, S, g, R, Grow.refl _ _, i0⟩, ?_⟩
  rintro m σ1 H1 ⟨al1, S1, g1, R1, gr1, i1⟩
  refine hc.r al1 S1 F H1 σ1 g1 _ _ R1 (turn m g1 i1) fun al2 S2 H2 g2 b2 R2 gr2 q2 => ?_
  have gr := gr1.trans gr2
  cases b2 with
  | true =>
    simp only [if_true] at q2 ⊢
    refine ⟨fun σ' H' => ∃ m' al' S' g', m' < m ∧ Rep X.K al' S' F H' σ' g' ∧ Grow al S al' S' ∧ I m' g', fun σ' H' ⟨m', al', S', g', hm, R', gr', i'⟩ => ⟨m', hm, al', S', g', R', gr', i'⟩, ?_⟩
    refine hb.r al2 S2 F H2 σ1 g2 _ _ R2 q2 ⟨fun al' S' H' σ' g' R' gr' ⟨m', hm, i'⟩ => ⟨m', al', S', g', hm, R', gr.trans gr', i'⟩, fun al' S' H' σ' g' v w R' gr' d' q' => k.rt _ _ _ _ _ _ _ R' (gr.trans gr') d' q', fun al' S' H' σ' g' R' gr' q' => k.nx _ _ _ _ _ R' (gr.trans gr') q', fun al' S' H' σ' g' R' gr' ⟨m', hm, i'⟩ => ⟨m', al', S', g', hm, R', gr.trans gr', i'⟩⟩
  | false =>
    simp only [Bool.false_eq_true, if_false] at q2 ⊢
    exact k.nx _ _ _ _ _ R2 gr q2
/-! what is walked -/
def IterOk (K : PySem.W.Frag) (J : It) (ws : List W) (St : G → Prop) (al : List Addr) (S : Hp) : Prop := ∀ (al' : List Addr) (S' F' H' : Hp) (σ' : L2.St) (g' : G) (i : Nat), Rep K al' S' F' H' σ' g' → Grow al S al' S' → St g' →
  (∀ w, ws[i]? = some w → J.go i H' ∧ ∀ x H'', J.yld i H' x H'' → ∃ al'' S'', Rep K al'' S'' F' H'' σ' g' ∧ Grow al' S' al'' S'' ∧ DenW K al'' S'' w x) ∧ (ws.length ≤ i → J.stop i H')
abbrev DIt := G → (List W → (G → Prop) → G → Prop) → Prop
structure DI (X : Cx) (tg iter : Expr) (wi : TI) (t : DIt) : Prop where
  pe : PI X tg iter wi
  r : ∀ (al : List Addr) (S F H : Hp) (σ : L2.St) (g : G) (Q : List W → (G → Prop) → G → Prop) (QV : It → Hp → Prop), Rep X.K al S F H σ g → t g Q →
    (∀ al' S' H' g' J ws St, Rep X.K al' S' F H' σ g' → Grow al S al' S' → IterOk X.K J ws St al' S' → Q ws St g' → QV J H') → wi σ H QV
def diL (t : Dt) : DIt := fun g Q => t g fun w g1 => match g1.lq? w with
  | some ts => Q (ts.map W.t) (fun g' => g'.lq? w = some ts) g1
  | none => (match g1.wseq? w with | some ws => Q ws (fun g' => g'.wseq? w = some ws) g1 | none => False)
variable {tg iter : Expr}
theorem di_list (h : DE X iter τe te) : DI X tg iter (iList X.K τe) (diL te) := by
  refine ⟨pi_list h.pe, fun al S F H σ g Q QV R q k => ?_⟩
  refine h.r al S F H σ g _ _ R q fun al1 S1 H1 g1 v1 w1 R1 gr1 e1 q1 => ?_
  split at q1
  · rename_i ts e
    obtain ⟨a, vs, rfl, h1, h2⟩ := R1.viewQ e1 e
    refine ⟨a, rfl, ⟨vs, h1⟩, k _ _ _ _ _ _ _ R1 gr1 ?_ q1⟩
    intro al' S' F' H' σ' g' i R' gr' st
    obtain ⟨a', vs', ea, h3, h4⟩ := R'.viewQ (e1.grow gr') st
    cases ea
    refine ⟨fun w hw => ?_, fun hi => ?_⟩
    · rw [List.getElem?_map] at hw
      cases et : ts[i]? with
      | none => rw [et] at hw; cases hw
      | some t =>
        rw [et] at hw; cases hw
        obtain ⟨v, ev, dv⟩ := pget h4 et
        refine ⟨⟨vs', v, h3, ev⟩, fun x H'' ⟨eH, hx⟩ => ?_⟩
        subst eH
        have := hx vs' h3
        rw [ev] at this; cases this
        exact ⟨al', S', R', Grow.refl _ _, dv⟩
    · refine ⟨vs', h3, ?_⟩
      rw [List.length_map, h4.length] at hi
      exact hi
  · split at q1
    · rename_i ws e
      obtain ⟨a, vs, rfl, h1, h2⟩ := R1.viewW e1 e
      refine ⟨a, rfl, ⟨vs, .inl (.inl h1)⟩, k _ _ _ _ _ _ _ R1 gr1 ?_ q1⟩
      intro al' S' F' H' σ' g' i R' gr' st
      obtain ⟨a', vs', ea, h3, h4⟩ := R'.viewW (e1.grow gr') st
      cases ea
      refine ⟨fun w hw => ?_, fun hi => ?_⟩
      · obtain ⟨v, ev, dv⟩ := pget h4 hw
        refine ⟨⟨vs', v, .inl (.inl h3), ev⟩, fun x H'' ⟨eH, hx⟩ => ?_⟩
        subst eH
        have := hx vs' (.inl (.inl h3))
        rw [ev] at this; cases this
        exact ⟨al', S', R', Grow.refl _ _, dv⟩
      · refine ⟨vs', .inl (.inl h3), ?_⟩
        rw [h4.length] at hi
        exact hi
    · exact q1.elim
def rgW (lo : Int) (n : Nat) : List W := (List.range n).map fun k => W.t (.int (lo + (k : Nat)))
theorem iter_range {K : PySem.W.Frag} {al : List Addr} {S : Hp} (lo : Int) (n : Nat) : IterOk K (Itr lo n) (rgW lo n) (fun _ => True) al S := by
  intro al' S' F' H' σ' g' i R' gr' _
  unfold rgW
  refine ⟨fun w hw => ?_, fun hi => ?_⟩
  · rw [List.getElem?_map] at hw
    by_cases hi : i < n
    · rw [List.getElem?_range hi] at hw
      cases hw
      refine ⟨hi, fun x H'' ⟨eH, ex⟩ => ?_⟩
      subst eH ex
      exact ⟨al', S', R', Grow.refl _ _, by unfold DenW Den; rfl⟩
    · rw [List.getElem?_eq_none (by simpa using hi)] at hw; cases hw
  · rw [List.length_map, List.length_range] at hi
    exact hi
def diR1 (t : DAt) : DIt := fun g Q => t g fun ws g1 => match ws with | [.t (.int j)] => (-(2 ^ 62) ≤ j ∧ j < 2 ^ 62) ∧ Q (rgW 0 j.toNat) (fun _ => True) g1 | _ => False
def diR2 (t : DAt) : DIt := fun g Q => t g fun ws g1 => match ws with | [.t (.int i), .t (.int j)] => (-(2 ^ 62) ≤ i ∧ i < 2 ^ 62 ∧ -(2 ^ 62) ≤ j ∧ j < 2 ^ 62) ∧ Q (rgW i (j - i).toNat) (fun _ => True) g1 | _ => False
theorem di_range1 {a : Expr} {τs : TA} {ts : DAt} {p : Pos} (hm : X.mg "range" = none) (ha : DA X [a] τs ts) (hg : Gl X "range" := by rfl) (hs : starEach [a] X.env = [(false, eval a X.env)] := by rfl) : DI X tg (.Call (.Name "range" p) [a] [] pos) (iRng1 τs) (diR1 ts) := by
  refine ⟨pi_range1 hg hm ha.pe hs, fun al S F H σ g Q QV R q k => ?_⟩
  refine ha.r al S F H σ g _ _ R q fun al1 S1 H1 g1 vs ws R1 gr1 e1 q1 => ?_
  split at q1
  · obtain ⟨v, rfl, d⟩ := p1 e1
    unfold DenW Den at d
    subst d
    exact ⟨_, rfl, q1.1.1, q1.1.2, k _ _ _ _ _ _ _ R1 gr1 (iter_range _ _) q1.2⟩
  · exact q1.elim
theorem di_range2 {a b : Expr} {τs : TA} {ts : DAt} {p : Pos} (hm : X.mg "range" = none) (ha : DA X [a, b] τs ts) (hg : Gl X "range" := by rfl) (hs : starEach [a, b] X.env = [(false, eval a X.env), (false, eval b X.env)] := by rfl) (hs2 : starEach [b] X.env = [(false, eval b X.env)] := by rfl) : DI X tg (.Call (.Name "range" p) [a, b] [] pos) (iRng2 τs) (diR2 ts) := by
  refine ⟨pi_range2 hg hm ha.pe hs hs2, fun al S F H σ g Q QV R q k => ?_⟩
  refine ha.r al S F H σ g _ _ R q fun al1 S1 H1 g1 vs ws R1 gr1 e1 q1 => ?_
  split at q1
  · obtain ⟨u, v, rfl, d1, d2⟩ := p2 e1
    unfold DenW Den at d1 d2
    subst d1 d2
    exact ⟨_, _, rfl, q1.1, k _ _ _ _ _ _ _ R1 gr1 (iter_range _ _) q1.2⟩
  · exact q1.elim
/-! for -/
def dFor (it : DIt) (gt : DGt) (tb : DSt) : DSt := fun D g => it g fun ws St g1 => ∃ I : Nat → G → Prop, I 0 g1 ∧ (∀ i g', I i g' → St g') ∧
  (∀ i w g', ws[i]? = some w → I i g' → gt w g' fun g2 => tb { D with nx := I (i + 1), ct := I (i + 1), bk := D.nx } g2) ∧ (∀ g', I ws.length g' → D.nx g')
theorem ds_for {body : List Stmt} {wi : TI} {it : DIt} {τg : TG} {gt : DGt} (hc : X.calm = true) (hi : DI X tg iter wi it) (hg : DG X tg τg gt) (hb : DSs X body τ t) (hp : PassesOwn (model X.prog X.w) X.A X.env X.xe := by exact PassesOwn.never)
    (hs : ∀ x, foldedSetIterable iter X.env x = pure x := by intro _; rfl) : DS X (.For tg iter body [] pos) (tFor wi τg τ) (dFor it gt t) := by
  refine ⟨ps_for hp hc hi.pe hg.pe hb.pe hs, fun al S F H σ g D DV R q k => ?_⟩
  refine hi.r al S F H σ g _ _ R q fun al1 S1 H1 g1 J ws St R1 gr1 ok q1 => ?_
  obtain ⟨I, i0, hst, turn, done⟩ := q1
  refine ⟨fun i m σ' H' => ∃ al' S' g', Rep X.K al' S' F H' σ' g' ∧ Grow al1 S1 al' S' ∧ I i g' ∧ i + m = ws.length, ⟨ws.length, al1, S1, g1, R1, Grow.refl _ _, i0, by omega⟩, ?_⟩
  rintro i m σ2 H2 ⟨al2, S2, g2, R2, gr2, i2, em⟩
  obtain ⟨hgo, hstop⟩ := ok al2 S2 F H2 σ2 g2 i R2 gr2 (hst i g2 i2)
  by_cases hi : i < ws.length
  · have hw : ws[i]? = some ws[i] := List.getElem?_eq_getElem hi
    obtain ⟨go, hy⟩ := hgo _ hw
    refine .inr ⟨go, fun σ' H' => ∃ al' S' g', Rep X.K al' S' F H' σ' g' ∧ Grow al1 S1 al' S' ∧ I (i + 1) g', fun σ' H' ⟨al', S', g', R', gr', i'⟩ => ⟨m - 1, by omega, al', S', g', R', gr', i', by omega⟩, fun x H' y => ?_⟩
    obtain ⟨al3, S3, R3, gr3, d3⟩ := hy x H' y
    refine hg.r al3 S3 F H' σ2 g2 x _ _ _ R3 d3 (turn i _ g2 hw i2) fun al4 S4 H4 σ4 g4 R4 gr4 q4 => ?_
    have gr := gr2.trans (gr3.trans gr4)
    exact hb.r al4 S4 F H4 σ4 g4 _ _ R4 q4 ⟨fun al' S' H' σ' g' R' gr' i' => ⟨al', S', g', R', gr.trans gr', i'⟩, fun al' S' H' σ' g' v w R' gr' d' q' => k.rt _ _ _ _ _ _ _ R' (gr1.trans (gr.trans gr')) d' q', fun al' S' H' σ' g' R' gr' q' => k.nx _ _ _ _ _ R' (gr1.trans (gr.trans gr')) q', fun al' S' H' σ' g' R' gr' i' => ⟨al', S', g', R', gr.trans gr', i'⟩⟩
  · refine .inl ⟨hstop (by omega), ?_⟩
    have e : i = ws.length := by omega
    subst e
    exact k.nx _ _ _ _ _ R2 (gr1.trans gr2) (done g2 i2)
end
end DL

namespace DL
open PySem PySem.Spec L2

/-! the frame: cells that nobody here touches -/
section
variable {K : PySem.W.Frag} {al : List Addr} {S F H : Hp} {m : Sto} {σ : L2.St} {g : G}
theorem RepM.frNew (R : RepM K al S F H m) {D : Addr} {o : HO} (nD : H D = none) : RepM K al S (upd F D o) (upd H D o) m := by
  refine ⟨fun b u e => ?_, fun b u e => ?_, fun b u e => ?_, R.len, fun n c e => ?_, R.inj⟩
  · rw [upd_ne (ne_of_none (R.same _ _ e) nD)]; exact R.same b u e
  · by_cases hb : b = D
    · subst hb; rw [upd_same] at e ⊢; exact e
    · rw [upd_ne hb] at e ⊢; exact R.fr b u e
  · rw [upd_ne (ne_of_none (R.same _ _ e) nD)]; exact R.dis b u e
  · obtain ⟨a, o', h1, h2, h3, h4, h5⟩ := R.cell n c e
    have na : a ≠ D := ne_of_none h4 nD
    exact ⟨a, o', h1, h2, by rw [upd_ne na]; exact h3, by rw [upd_ne na]; exact h4, h5⟩
theorem RepM.frPut {D : Addr} {o o' : HO} (R : RepM K al S (upd F D o) H m) : RepM K al S (upd F D o') (upd H D o') m := by
  have hS : ∀ b u, S b = some u → b ≠ D := fun b u e z => by subst z; have := R.dis b u e; rw [upd_same] at this; cases this
  refine ⟨fun b u e => ?_, fun b u e => ?_, fun b u e => ?_, R.len, fun n c e => ?_, R.inj⟩
  · rw [upd_ne (hS b u e)]; exact R.same b u e
  · by_cases hb : b = D
    · subst hb; rw [upd_same] at e ⊢; exact e
    · rw [upd_ne hb] at e ⊢; exact R.fr b u (by rw [upd_ne hb]; exact e)
  · have := R.dis b u e
    rw [upd_ne (hS b u e)] at this ⊢; exact this
  · obtain ⟨a, o2, h1, h2, h3, h4, h5⟩ := R.cell n c e
    have na : a ≠ D := fun z => by subst z; rw [upd_same] at h3; cases h3
    exact ⟨a, o2, h1, h2, by rw [upd_ne na] at h3 ⊢; exact h3, by rw [upd_ne na]; exact h4, h5⟩
/-- the framed thing becomes stable -/
theorem RepM.frS {D : Addr} {o : HO} (R : RepM K al S (upd F D o) H m) (nF : F D = none) : RepM K al (upd S D o) F H m ∧ Grow al S al (upd S D o) := by
  have hS : ∀ b u, S b = some u → b ≠ D := fun b u e z => by subst z; have := R.dis b u e; rw [upd_same] at this; cases this
  have gr : Grow al S al (upd S D o) := ⟨⟨[], by simp⟩, fun b u e => by rw [upd_ne (hS b u e)]; exact e⟩
  refine ⟨⟨fun b u e => ?_, fun b u e => ?_, fun b u e => ?_, R.len, fun n c e => ?_, R.inj⟩, gr⟩
  · by_cases hb : b = D
    · subst hb; rw [upd_same] at e; cases e; exact R.fr _ _ upd_same
    · rw [upd_ne hb] at e; exact R.same b u e
  · exact R.fr b u (by rw [upd_ne (ne_of_none e nF)]; exact e)
  · by_cases hb : b = D
    · subst hb; exact nF
    · rw [upd_ne hb] at e
      have := R.dis b u e
      rw [upd_ne hb] at this; exact this
  · obtain ⟨a, o2, h1, h2, h3, h4, h5⟩ := R.cell n c e
    have na : a ≠ D := fun z => by subst z; rw [upd_same] at h3; cases h3
    exact ⟨a, o2, h1, by rw [upd_ne na]; exact h2, by rw [upd_ne na] at h3; exact h3, h4, h5.grow gr⟩
/-- the framed thing becomes a cell -/
theorem RepM.frC {D : Addr} {o : HO} {c : Cell} (R : RepM K al S (upd F D o) H m) (nF : F D = none) (ok : CellOk K (al ++ [D]) S c o) : RepM K (al ++ [D]) S F H (m ++ [some c]) ∧ Grow al S (al ++ [D]) S := by
  have hS : ∀ b u, S b = some u → b ≠ D := fun b u e z => by subst z; have := R.dis b u e; rw [upd_same] at this; cases this
  have nS : S D = none := by
    cases e : S D with
    | none => rfl
    | some u => exact absurd rfl (hS D u e)
  have gr : Grow al S (al ++ [D]) S := ⟨⟨[D], rfl⟩, Same.refl S⟩
  have hold : ∀ (n : Nat) (c' : Cell), (m ++ [some c])[n]? = some (some c') → (n < m.length ∧ m[n]? = some (some c')) ∨ (n = m.length ∧ c' = c) := fun n c' e => by
    rcases Nat.lt_or_ge n m.length with q | q
    · rw [List.getElem?_append_left q] at e; exact .inl ⟨q, e⟩
    · rw [List.getElem?_append_right q] at e
      rcases Nat.eq_or_lt_of_le q with q' | q'
      · subst q'; simp at e; exact .inr ⟨rfl, e.symm⟩
      · rw [List.getElem?_eq_none (by simp; omega)] at e; cases e
  have atE : (al ++ [D])[m.length]? = some D := by rw [List.getElem?_append_right (by rw [R.len]; exact Nat.le_refl _), R.len]; simp
  have atN : ∀ (n : Nat), n < m.length → (al ++ [D])[n]? = al[n]? := fun n hn => List.getElem?_append_left (by rw [R.len]; exact hn)
  have notD : ∀ (n : Nat) (c' : Cell), m[n]? = some (some c') → al[n]? ≠ some D := fun n c' e z => by
    obtain ⟨a, o2, h1, h2, h3, h4, h5⟩ := R.cell n c' e
    rw [z] at h1; cases h1; rw [upd_same] at h3; cases h3
  refine ⟨⟨R.same, fun b u e => R.fr b u (by rw [upd_ne (ne_of_none e nF)]; exact e), fun b u e => ?_, by simp [R.len], fun n c' e => ?_, fun n k c1 c2 a e1 e2 e3 e4 => ?_⟩, gr⟩
  · have := R.dis b u e
    rw [upd_ne (hS b u e)] at this; exact this
  · rcases hold n c' e with ⟨hn, e'⟩ | ⟨rfl, rfl⟩
    · obtain ⟨a, o2, h1, h2, h3, h4, h5⟩ := R.cell n c' e'
      have na : a ≠ D := fun z => by subst z; rw [upd_same] at h3; cases h3
      exact ⟨a, o2, by rw [atN n hn]; exact h1, h2, by rw [upd_ne na] at h3; exact h3, h4, h5.grow gr⟩
    · exact ⟨D, o, atE, nS, nF, R.fr _ _ upd_same, ok⟩
  · rcases hold n c1 e1 with ⟨hn, e1'⟩ | ⟨rfl, rfl⟩
    · rcases hold k c2 e2 with ⟨hk, e2'⟩ | ⟨rfl, rfl⟩
      · rw [atN n hn] at e3; rw [atN k hk] at e4
        exact R.inj n k c1 c2 a e1' e2' e3 e4
      · rw [atN n hn] at e3; rw [atE] at e4; cases e4
        exact absurd e3 (notD n c1 e1')
    · rcases hold k c2 e2 with ⟨hk, e2'⟩ | ⟨rfl, rfl⟩
      · rw [atN k hk] at e4; rw [atE] at e3; cases e3
        exact absurd e4 (notD k c2 e2')
      · rfl
end
/-! slots of a block -/
theorem wipe_get {σ : L2.St} {j : Nat} : ∀ {vs : List Nat}, j < σ.length → (wipe σ vs)[j]? = if j ∈ vs then some none else σ[j]?
  | [], _ => by simp [wipe]
  | v :: vs, h => by
    have ih := wipe_get (vs := vs) h
    unfold wipe
    by_cases e : v = j
    · subst e
      rw [List.getElem?_set_self (by rw [wipe_length]; exact h)]
      simp
    · rw [List.getElem?_set_ne e, ih]
      by_cases m : j ∈ vs
      · simp [m]
      · have : j ∉ v :: vs := by simp [m, Ne.symm e]
        simp only [m, this, if_false]
theorem wipe_eq {σ σ' : L2.St} {vs : List Nat} (hl : σ'.length = σ.length) (h : ∀ j, j ∉ vs → σ'[j]? = σ[j]?) : wipe σ' vs = wipe σ vs := by
  refine List.ext_getElem? fun j => ?_
  by_cases hj : j < σ.length
  · rw [wipe_get hj, wipe_get (by omega)]
    by_cases m : j ∈ vs
    · simp [m]
    · simp [m, h j m]
  · rw [List.getElem?_eq_none (by rw [wipe_length]; omega), List.getElem?_eq_none (by rw [wipe_length]; omega)]
theorem wipeW_len (sl : List (Option W)) : ∀ vs : List Nat, (wipeW sl vs).length = sl.length
  | [] => rfl
  | v :: vs => by unfold wipeW; rw [List.length_set, wipeW_len sl vs]
theorem wipeW_some {sl : List (Option W)} {i : Nat} {x : W} : ∀ {vs : List Nat}, (wipeW sl vs)[i]? = some (some x) → sl[i]? = some (some x) ∧ i ∉ vs
  | [], h => ⟨h, by simp⟩
  | v :: vs, h => by
    unfold wipeW at h
    by_cases hi : v = i
    · subst hi
      by_cases hv : v < (wipeW sl vs).length
      · rw [List.getElem?_set_self hv] at h; cases h
      · rw [List.getElem?_eq_none (by simpa using hv)] at h; cases h
    · rw [List.getElem?_set_ne hi] at h
      obtain ⟨h1, h2⟩ := wipeW_some h
      exact ⟨h1, by simp only [List.mem_cons, not_or]; exact ⟨fun e => hi e.symm, h2⟩⟩
/-- the block's names get back what they held -/
def rsW (orig cur : List (Option W)) : List Nat → List (Option W)
  | [] => cur
  | v :: vs => (rsW orig cur vs).set v (orig.getD v none)
theorem rsW_len (orig cur : List (Option W)) : ∀ vs : List Nat, (rsW orig cur vs).length = cur.length
  | [] => rfl
  | v :: vs => by unfold rsW; rw [List.length_set, rsW_len orig cur vs]
theorem rsW_some {orig cur : List (Option W)} {i : Nat} {x : W} : ∀ {vs : List Nat}, (rsW orig cur vs)[i]? = some (some x) → (i ∈ vs ∧ orig[i]? = some (some x)) ∨ (i ∉ vs ∧ cur[i]? = some (some x))
  | [], h => .inr ⟨by simp, h⟩
  | v :: vs, h => by
    unfold rsW at h
    by_cases hi : v = i
    · subst hi
      by_cases hv : v < (rsW orig cur vs).length
      · rw [List.getElem?_set_self hv] at h
        refine .inl ⟨by simp, ?_⟩
        rw [List.getD_eq_getElem?_getD] at h
        cases e : orig[v]? with
        | none => rw [e] at h; cases h
        | some o => rw [e] at h; exact h
      · rw [List.getElem?_eq_none (by simpa using hv)] at h; cases h
    · rw [List.getElem?_set_ne hi] at h
      rcases rsW_some h with ⟨h1, h2⟩ | ⟨h1, h2⟩
      · exact .inl ⟨by simp [h1], h2⟩
      · exact .inr ⟨by simp only [List.mem_cons, not_or]; exact ⟨fun e => hi e.symm, h1⟩, h2⟩
def G.rs (g g0 : G) (vs : List Nat) : G := ⟨rsW g0.sl g.sl vs, g.mem⟩
section
variable {K : PySem.W.Frag} {al al' : List Addr} {S S' F H H' : Hp} {σ : L2.St} {g g' : G} {vs : List Nat}
theorem Rep.wiped (R : Rep K al S F H σ g) : Rep K al S F H (wipe σ vs) (g.wipe vs) := by
  refine ⟨R.toRepM, by rw [wipe_length]; show (wipeW g.sl vs).length = _; rw [wipeW_len]; exact R.slen, fun i w e => ?_⟩
  obtain ⟨h1, h2⟩ := wipeW_some e
  obtain ⟨v, hv, d⟩ := R.slot i w h1
  refine ⟨v, ?_, d⟩
  rw [wipe_get (by
    rcases Nat.lt_or_ge i σ.length with q | q
    · exact q
    · rw [List.getElem?_eq_none q] at hv; cases hv), if_neg h2]
  exact hv
theorem Rep.restored {F' : Hp} (R : Rep K al S F H σ g) (gr : Grow al S al' S') (R' : Rep K al' S' F' H' (wipe σ vs) g') : Rep K al' S' F' H' σ (g'.rs g vs) := by
  refine ⟨R'.toRepM, by show (rsW g.sl g'.sl vs).length = _; rw [rsW_len, R'.slen, wipe_length], fun i w e => ?_⟩
  rcases rsW_some e with ⟨h1, h2⟩ | ⟨h1, h2⟩
  · obtain ⟨v, hv, d⟩ := R.slot i w h2
    exact ⟨v, hv, d.grow gr⟩
  · obtain ⟨v, hv, d⟩ := R'.slot i w h2
    exact ⟨v, (wipe_some hv).1, d⟩
end
/-! list comprehensions -/
structure CG (X : Cx) (tg : Expr) (τ : TG) (t : DGt) (vs : List Nat) : Prop where
  pe : PG X tg τ
  r : ∀ (al : List Addr) (S F H : Hp) (σ : L2.St) (g : G) (v : V) (w : W) (Q : G → Prop) (QV : L2.St → Hp → Prop), Rep X.K al S F H σ g → DenW X.K al S w v → t w g Q →
    (∀ al' S' H' σ' g', Rep X.K al' S' F H' σ' g' → Grow al S al' S' → (σ'.length = σ.length ∧ ∀ j, j ∉ vs → σ'[j]? = σ[j]?) → Q g' → QV σ' H') → τ v σ H QV
structure CGs (X : Cx) (tg : List Expr) (τ : TGs) (t : DGst) (vs : List Nat) : Prop where
  pe : PGs X tg τ
  r : ∀ (al : List Addr) (S F H : Hp) (σ : L2.St) (g : G) (vs' : List V) (ws : List T) (Q : G → Prop) (QV : L2.St → Hp → Prop), Rep X.K al S F H σ g → Paired (Den X.K S) ws vs' → t ws g Q →
    (∀ al' S' H' σ' g', Rep X.K al' S' F H' σ' g' → Grow al S al' S' → (σ'.length = σ.length ∧ ∀ j, j ∉ vs → σ'[j]? = σ[j]?) → Q g' → QV σ' H') → τ vs' σ H QV
structure DTs (X : Cx) (ifs : List Expr) (τ : TT) (t : DTt) : Prop where
  pe : PTs X ifs τ
  r : DTr X.K τ t
section
variable {X : Cx} {e : Expr} {τe : TE} {te : Dt} {pos : Pos} {tg iter : Expr} {vs : List Nat}
theorem cg_name (i : Nat) {x : Str} {ps : Pos} (hN : X.N.Nodup) (hi : X.N[i]? = some x := by rfl) (hv : i ∈ vs := by decide) (hx : Loc X.env.scope x := by first | exact Or.inl rfl | exact Or.inr rfl) (hf : X.fn x = true ∨ X.env.scope.names.lookup x = some .local := by first | exact .inl rfl | exact .inr rfl | assumption) : CG X (.Name x ps) (gName i) (dgN i) vs :=
  ⟨pg_name hN hi hx hf, fun al S F H σ g v w Q QV R d q k => k _ _ _ _ _ (R.setSlot d) (Grow.refl _ _) ⟨by simp, fun j hj => List.getElem?_set_ne (fun z => hj (by subst z; exact hv))⟩ q⟩
theorem cgs_nil : CGs X [] gNil dgNil vs := by
  refine ⟨pgs_nil, fun al S F H σ g vs ws Q QV R d q k => ?_⟩
  cases d with
  | nil => exact ⟨rfl, k _ _ _ _ _ R (Grow.refl _ _) ⟨rfl, fun _ _ => rfl⟩ q⟩
  | cons _ _ => exact q.elim
theorem cgs_cons {e : Expr} {es : List Expr} {τ1 : TG} {t1 : DGt} {τ2 : TGs} {t2 : DGst} (h1 : CG X e τ1 t1 vs) (h2 : CGs X es τ2 t2 vs)
    (hs : (assignEach (e :: es) X.env).map (·.2) = assign e X.env :: (assignEach es X.env).map (·.2) := by rfl) : CGs X (e :: es) (gCons τ1 τ2) (dgCons t1 t2) vs := by
  refine ⟨pgs_cons h1.pe h2.pe hs, fun al S F H σ g vs ws Q QV R d q k => ?_⟩
  cases d with
  | nil => exact q.elim
  | cons d1 d2 =>
    refine ⟨_, _, rfl, ?_⟩
    refine h1.r al S F H σ g _ (.t _) _ _ R d1 q fun al1 S1 H1 σ1 g1 R1 gr1 s1 q1 => ?_
    exact h2.r al1 S1 F H1 σ1 g1 _ _ Q QV R1 (Denp.grow gr1.s d2) q1 fun al2 S2 H2 σ2 g2 R2 gr2 s2 q2 => k _ _ _ _ _ R2 (gr1.trans gr2) ⟨s2.1.trans s1.1, fun j hj => (s2.2 j hj).trans (s1.2 j hj)⟩ q2
theorem cg_tup {es : List Expr} {kk : Nat} {ps : Pos} {τ1 : TGs} {t1 : DGst} {n : Nat} (hc : X.calm = true) (h : CGs X es τ1 t1 vs)
    (hn : (assignEach es X.env).length = n := by rfl) (hst : (assignEach es X.env).findIdx? (·.1) = none := by rfl) : CG X (.Tuple es kk ps) (gTup X.K n τ1) (dgTup n t1) vs := by
  refine ⟨pg_tup hc h.pe hn hst, fun al S F H σ g v w Q QV R d q k => ?_⟩
  unfold dgTup at q
  split at q
  · rename_i ts
    unfold DenW Den at d
    obtain ⟨p, vs, rfl, h1, h2⟩ := d
    have h2' := Dens.iff.mp h2
    exact ⟨p, vs, rfl, seqT R.same h1, by rw [← h2'.length]; exact q.1, h.r al S F H σ g vs ts Q QV R h2' q.2 k⟩
  · exact q.elim
def dYes : DTt := fun g Q => Q true g
theorem dts_nil : DTs X [] tYes dYes := ⟨pts_nil, fun al S F H σ g Q QV R q k => k _ _ _ _ _ R (Grow.refl _ _) q⟩
theorem dts_one {c : Expr} {τ : TT} {t : DTt} (h : DT X c τ t) : DTs X [c] τ t := ⟨pts_one h.pe, h.r⟩
theorem Rep.withM2 {K : PySem.W.Frag} {al al' : List Addr} {S S' F F' H H' : Hp} {σ : L2.St} {g : G} (R : Rep K al S F H σ g) {m' : Sto} (gr : Grow al S al' S') (M : RepM K al' S' F' H' m') : Rep K al' S' F' H' σ ⟨g.sl, m'⟩ :=
  ⟨M, R.slen, fun i w e => let ⟨v, h1, h2⟩ := R.slot i w e; ⟨v, h1, h2.grow gr⟩⟩
abbrev Fin3 := List W → G → (W → G → Prop) → Prop
def FinOk (K : PySem.W.Frag) (fin : Fin3) : Prop := ∀ (al : List Addr) (S F H : Hp) (σ : L2.St) (g : G) (acc : List W) (accV : List V) (D : Addr) (Q : W → G → Prop), Rep K al S (upd F D (.lst accV)) H σ g → F D = none → Paired (DenW K al S) acc accV → fin acc g Q →
  ∃ al' S' w g', Rep K al' S' F H σ g' ∧ Grow al S al' S' ∧ DenW K al' S' w (.ref D) ∧ Q w g'
def finT : Fin3 := fun acc g Q => ∃ ts : List T, acc = ts.map W.t ∧ Q (.t (.lst ts)) g
def finH : Fin3 := fun acc g Q => ∃ ts : List T, acc = ts.map W.t ∧ Q (.h g.mem.length) (g.push (.lt ts))
def finW : Fin3 := fun acc g Q => Q (.h g.mem.length) (g.push (.lw acc))
theorem denT_map {K : PySem.W.Frag} {al : List Addr} {S : Hp} {ts : List T} {vs : List V} (h : Paired (DenW K al S) (ts.map W.t) vs) : Paired (Den K S) ts vs := (pmapL W.t).mp h
theorem fin_T {K : PySem.W.Frag} : FinOk K finT := by
  intro al S F H σ g acc accV D Q R nF d q
  obtain ⟨ts, rfl, q⟩ := q
  obtain ⟨M, gr⟩ := R.toRepM.frS nF
  refine ⟨al, _, .t (.lst ts), g, R.withM2 gr M, gr, ?_, q⟩
  unfold DenW Den
  exact ⟨D, accV, rfl, upd_same, Dens.iff.mpr (Denp.grow gr.s (denT_map d))⟩
theorem fin_H {K : PySem.W.Frag} : FinOk K finH := by
  intro al S F H σ g acc accV D Q R nF d q
  obtain ⟨ts, rfl, q⟩ := q
  obtain ⟨M, gr⟩ := R.toRepM.frC (c := .lt ts) nF ⟨accV, rfl, denT_map d⟩
  refine ⟨_, S, .h g.mem.length, _, R.withM2 gr M, gr, ⟨D, ?_, rfl⟩, q⟩
  rw [List.getElem?_append_right (by rw [R.len]; exact Nat.le_refl _), R.len]; simp
theorem fin_W {K : PySem.W.Frag} : FinOk K finW := by
  intro al S F H σ g acc accV D Q R nF d q
  obtain ⟨M, gr⟩ := R.toRepM.frC (c := .lw acc) nF ⟨accV, rfl, DenWs.grow ⟨⟨[D], rfl⟩, Same.refl _⟩ d⟩
  refine ⟨_, S, .h g.mem.length, _, R.withM2 gr M, gr, ⟨D, ?_, rfl⟩, q⟩
  rw [List.getElem?_append_right (by rw [R.len]; exact Nat.le_refl _), R.len]; simp
def dLc (fin : Fin3) (it : DIt) (gt : DGt) (tt : DTt) (te : Dt) (vs : List Nat) : Dt := fun g Q => it g fun ws St g1 => ∃ I : Nat → List W → G → Prop, I 0 [] (g1.wipe vs) ∧ (∀ i acc g', I i acc g' → St g' ∧ acc.length ≤ i) ∧
  (∀ i acc w g', ws[i]? = some w → I i acc g' → gt w g' fun g2 => tt g2 fun b g3 => if b = true then te g3 fun y g4 => I (i + 1) (acc ++ [y]) (g4.wipe vs) else I (i + 1) acc (g3.wipe vs)) ∧
  ws.length ≤ sizeLine ∧ (∀ acc g', I ws.length acc g' → fin acc (g'.rs g1 vs) Q)
theorem der_lc {K : PySem.W.Frag} {fin : Fin3} {wi : TI} {it : DIt} {τg : TG} {gt : DGt} {τt : TT} {tt : DTt} {τe : TE} {te : Dt} {vs : List Nat} (hf : FinOk K fin)
    (hi : ∀ (al : List Addr) (S F H : Hp) (σ : L2.St) (g : G) (Q : List W → (G → Prop) → G → Prop) (QV : It → Hp → Prop), Rep K al S F H σ g → it g Q →
      (∀ al' S' H' g' J ws St, Rep K al' S' F H' σ g' → Grow al S al' S' → IterOk K J ws St al' S' → Q ws St g' → QV J H') → wi σ H QV)
    (hg : ∀ (al : List Addr) (S F H : Hp) (σ : L2.St) (g : G) (v : V) (w : W) (Q : G → Prop) (QV : L2.St → Hp → Prop), Rep K al S F H σ g → DenW K al S w v → gt w g Q →
      (∀ al' S' H' σ' g', Rep K al' S' F H' σ' g' → Grow al S al' S' → (σ'.length = σ.length ∧ ∀ j, j ∉ vs → σ'[j]? = σ[j]?) → Q g' → QV σ' H') → τg v σ H QV)
    (ht : DTr K τt tt) (he : DEr K τe te) : DEr K (tLc wi τg τt τe vs) (dLc fin it gt tt te vs) := by
  intro al S F H σ g Q QV R q k
  refine hi al S F H σ g _ _ R q fun al1 S1 H1 g1 J ws St R1 gr1 ok q1 => fun D nD => ?_
  obtain ⟨I, i0, hst, turn, hz, done⟩ := q1
  have nF : F D = none := R1.fr.free nD
  have R1w : Rep K al1 S1 (upd F D (.lst [])) (upd H1 D (.lst [])) (wipe σ vs) (g1.wipe vs) :=
    let R2 := R1.wiped (vs := vs)
    ⟨R2.toRepM.frNew nD, R2.slen, R2.slot⟩
  refine ⟨fun i m H' => ∃ al' S' g' acc accV, Rep K al' S' (upd F D (.lst accV)) H' (wipe σ vs) g' ∧ Grow al1 S1 al' S' ∧ Paired (DenW K al' S') acc accV ∧ I i acc g' ∧ i + m = ws.length,
    ⟨ws.length, al1, S1, _, [], [], R1w, Grow.refl _ _, .nil, i0, by omega⟩, ?_⟩
  rintro i m H2 ⟨al2, S2, g2, acc, accV, R2, gr2, d2, i2, em⟩
  obtain ⟨st2, hl2⟩ := hst i acc g2 i2
  obtain ⟨hgo, hstop⟩ := ok al2 S2 _ H2 _ g2 i R2 gr2 st2
  by_cases hi : i < ws.length
  · have hw : ws[i]? = some ws[i] := List.getElem?_eq_getElem hi
    obtain ⟨go, hy⟩ := hgo _ hw
    refine .inr ⟨go, fun H' => ∃ al' S' g' acc accV, Rep K al' S' (upd F D (.lst accV)) H' (wipe σ vs) g' ∧ Grow al1 S1 al' S' ∧ Paired (DenW K al' S') acc accV ∧ I (i + 1) acc g', fun H' ⟨al', S', g', acc, accV, R', gr', d', i'⟩ => ⟨m - 1, by omega, al', S', g', acc, accV, R', gr', d', i', by omega⟩, fun x H' y => ?_⟩
    obtain ⟨al3, S3, R3, gr3, d3⟩ := hy x H' y
    refine hg al3 S3 _ H' _ g2 x _ _ _ R3 d3 (turn i acc _ g2 hw i2) fun al4 S4 H4 σ4 g4 R4 gr4 s4 q4 => ?_
    have hwp : wipe σ4 vs = wipe σ vs := by
      have h1 : wipe σ4 vs = wipe (wipe σ vs) vs := wipe_eq s4.1 s4.2
      rw [h1]
      refine wipe_eq (wipe_length _ _) fun j hj => ?_
      by_cases hl : j < σ.length
      · rw [wipe_get hl, if_neg hj]
      · rw [List.getElem?_eq_none (by rw [wipe_length]; omega), List.getElem?_eq_none (by omega)]
    refine ⟨hwp, ?_⟩
    refine ht al4 S4 _ H4 σ4 g4 _ _ R4 q4 fun al5 S5 H5 g5 b R5 gr5 q5 => ?_
    have gr := gr2.trans (gr3.trans (gr4.trans gr5))
    have grd := gr3.trans (gr4.trans gr5)
    cases b with
    | false =>
      simp only [Bool.false_eq_true, if_false] at q5 ⊢
      have R5' := R5.wiped (vs := vs)
      rw [hwp] at R5'
      exact ⟨al5, S5, _, acc, accV, R5', gr, DenWs.grow grd d2, q5⟩
    | true =>
      simp only [if_true] at q5 ⊢
      refine he al5 S5 _ H5 σ4 g5 _ _ R5 q5 fun al6 S6 H6 g6 v w R6 gr6 d6 q6 => ?_
      have eD : H6 D = some (.lst accV) := R6.fr _ _ upd_same
      refine ⟨accV, eD, ?_, ?_⟩
      · rw [← d2.length]; omega
      · have R6' := R6.wiped (vs := vs)
        rw [hwp] at R6'
        exact ⟨al6, S6, _, acc ++ [w], accV ++ [v], ⟨R6'.toRepM.frPut, R6'.slen, R6'.slot⟩, gr.trans gr6, papp (DenWs.grow (grd.trans gr6) d2) (.cons d6 .nil), q6⟩
  · refine .inl ⟨hstop (by omega), ?_⟩
    have e : i = ws.length := by omega
    subst e
    have R3 := R1.restored gr2 R2
    obtain ⟨al4, S4, w, g4, R4, gr4, d4, q4⟩ := hf al2 S2 F H2 σ _ acc accV D Q R3 nF d2 (done acc g2 i2)
    exact k _ _ _ _ _ _ R4 (gr1.trans (gr2.trans gr4)) d4 q4
variable {elt : Expr} {ifs : List Expr} {scope : Scope} {own : List (Str × Nat)} {wi : TI} {it : DIt} {τg : TG} {gt : DGt} {τt : TT} {tt : DTt} {fin : Fin3}
theorem de_lc (hf : FinOk X.K fin) (hc : X.calm = true) (hN : X.N.Nodup) (hi : DI X tg iter wi it) (ok : BlkOk X.N X.env.scope scope own)
    (hg : ∀ (s : Shared) (H : Hp) (C : Addr) (cl : List (Str × Addr)) (fp : List Addr), CG (X.blk s H scope (compEnvC scope cl C X.env) fp) tg τg gt (own.map (·.2))) (ht : ∀ (s : Shared) (H : Hp) (C : Addr) (cl : List (Str × Addr)) (fp : List Addr), DTs (X.blk s H scope (compEnvC scope cl C X.env) fp) ifs τt tt)
    (he : ∀ (s : Shared) (H : Hp) (C : Addr) (cl : List (Str × Addr)) (fp : List Addr), DE (X.blk s H scope (compEnvC scope cl C X.env) fp) elt τe te) (s0 : Shared) (hs : ∀ x, foldedSetIterable iter X.env x = pure x := by intro _; rfl) :
    DE X (.ListComp elt [⟨tg, iter, ifs, 0⟩] scope pos) (tLc wi τg τt τe (own.map (·.2))) (dLc fin it gt tt te (own.map (·.2))) :=
  ⟨pe_lc hc hN hi.pe ok (fun s H C cl fp => (hg s H C cl fp).pe) (fun s H C cl fp => (ht s H C cl fp).pe) (fun s H C cl fp => (he s H C cl fp).pe) hs,
    der_lc hf hi.r (hg s0 (fun _ => none) 0 [] []).r (ht s0 (fun _ => none) 0 [] []).r (he s0 (fun _ => none) 0 [] []).r⟩
theorem ds_setLc (i : Nat) {y : Str} {py spos : Pos} (hf : FinOk X.K fin) (hc : X.calm = true) (hN : X.N.Nodup) (hi : DI X tg iter wi it) (ok : BlkOk X.N X.env.scope scope own)
    (hg : ∀ (s : Shared) (H : Hp) (C : Addr) (cl : List (Str × Addr)) (fp : List Addr), CG (X.blk s H scope (compEnvC scope cl C X.env) fp) tg τg gt (own.map (·.2))) (ht : ∀ (s : Shared) (H : Hp) (C : Addr) (cl : List (Str × Addr)) (fp : List Addr), DTs (X.blk s H scope (compEnvC scope cl C X.env) fp) ifs τt tt)
    (he : ∀ (s : Shared) (H : Hp) (C : Addr) (cl : List (Str × Addr)) (fp : List Addr), DE (X.blk s H scope (compEnvC scope cl C X.env) fp) elt τe te) (s0 : Shared) (hy : X.N[i]? = some y := by rfl) (hyl : X.env.scope.names.lookup y = some .local := by rfl)
    (hsw : swapsWith (.ListComp elt [⟨tg, iter, ifs, 0⟩] scope pos) (some (.Name y py)) spos.line X.env = pure true := by exact sw_true rfl rfl rfl (by decide +kernel)) (hs : ∀ x, foldedSetIterable iter X.env x = pure x := by intro _; rfl) :
    DS X (.Assign [.Name y py] (.ListComp elt [⟨tg, iter, ifs, 0⟩] scope pos) spos) (tAsg (tLc wi τg τt τe (own.map (·.2))) (gName i)) (dAsg (dLc fin it gt tt te (own.map (·.2))) (dgN i)) := by
  refine ⟨ps_setLc hc hN hy hyl hsw hi.pe ok (fun s H C cl fp => (hg s H C cl fp).pe) (fun s H C cl fp => (ht s H C cl fp).pe) (fun s H C cl fp => (he s H C cl fp).pe) hs, fun al S F H σ g D DV R q k => ?_⟩
  refine der_lc hf hi.r (hg s0 (fun _ => none) 0 [] []).r (ht s0 (fun _ => none) 0 [] []).r (he s0 (fun _ => none) 0 [] []).r al S F H σ g _ _ R q fun al1 S1 H1 g1 v1 w1 R1 gr1 e1 q1 => ?_
  exact k.nx _ _ _ _ _ (R1.setSlot e1) gr1 q1
end
end DL

namespace DL
open PySem PySem.Spec L2

/-! renaming of handles -/
def W.up (r : List Nat) : W → Option W
  | .t x => some (.t x)
  | .h n => match r[n]? with | some j => some (.h j) | none => none
def ups (r : List Nat) : List W → Option (List W)
  | [] => some []
  | w :: ws => match w.up r, ups r ws with | some w', some ws' => some (w' :: ws') | _, _ => none
def Cell.up (r : List Nat) : Cell → Option Cell
  | .lt ts => some (.lt ts)
  | .dt ks ts => some (.dt ks ts)
  | .lw ws => match ups r ws with | some ws' => some (.lw ws') | none => none
  | .dw ks ws => match ups r ws with | some ws' => some (.dw ks ws') | none => none
  | .tw ws => match ups r ws with | some ws' => some (.tw ws') | none => none
  | .ob n fs ws => match ups r ws with | some ws' => some (.ob n fs ws') | none => none
  | .dp ks ts => some (.dp ks ts)
def cups (r : List Nat) : List Cell → Option (List Cell)
  | [] => some []
  | w :: ws => match w.up r, cups r ws with | some w', some ws' => some (w' :: ws') | _, _ => none
theorem cups_get {r : List Nat} : ∀ {cs cs' : List Cell} {i : Nat} {c : Cell}, cups r cs = some cs' → cs[i]? = some c → ∃ c', cs'[i]? = some c' ∧ c.up r = some c'
  | [], _, _, _, _, h => by simp at h
  | d :: cs, cs', i, c, e, h => by
    unfold cups at e
    split at e
    · rename_i d' ds' e1 e2
      cases e
      cases i with
      | zero => simp at h; subst h; exact ⟨d', by simp, e1⟩
      | succ i =>
        obtain ⟨c', h1, h2⟩ := cups_get e2 (by simpa using h)
        exact ⟨c', by simpa using h1, h2⟩
    · cases e
theorem cups_len {r : List Nat} : ∀ {cs cs' : List Cell}, cups r cs = some cs' → cs'.length = cs.length
  | [], _, e => by cases e; rfl
  | d :: cs, cs', e => by
    unfold cups at e
    split at e
    · rename_i d' ds' e1 e2
      cases e
      simp [cups_len e2]
    · cases e
def alOf (al : List Addr) (r : List Nat) : List Addr := r.map fun j => al.getD j 0
section
variable {K : PySem.W.Frag} {al al' : List Addr} {S S' F H H' : Hp} {m : Sto} {r : List Nat}
/-- al1 at i is al at r i -/
def Emb (al1 al : List Addr) (r : List Nat) : Prop := ∀ (i j : Nat), r[i]? = some j → al1[i]? = al[j]?
theorem emb_of (hr : ∀ j ∈ r, j < al.length) : Emb (alOf al r) al r := by
  intro i j e
  have hj := hr j (List.mem_of_getElem? e)
  unfold alOf
  rw [List.getElem?_map, e, Option.map_some, List.getD_eq_getElem?_getD, List.getElem?_eq_getElem hj]
  rfl
theorem denW_dn {al1 : List Addr} (em : Emb al1 al r) : ∀ {w' w : W} {v : V}, w'.up r = some w → (DenW K al1 S w' v ↔ DenW K al S w v)
  | .t x, w, v, e => by cases e; exact Iff.rfl
  | .h n, w, v, e => by
    unfold W.up at e
    dsimp only at e
    split at e
    · rename_i j ej
      cases e
      unfold DenW
      dsimp only
      rw [em n j ej]
    · cases e
theorem denWs_dn {al1 : List Addr} (em : Emb al1 al r) : ∀ {ws' ws : List W} {vs : List V}, ups r ws' = some ws → (Paired (DenW K al1 S) ws' vs ↔ Paired (DenW K al S) ws vs)
  | [], ws, vs, e => by
    cases e
    constructor
    · intro h; cases h; exact .nil
    · intro h; cases h; exact .nil
  | w' :: ws', ws, vs, e => by
    unfold ups at e
    split at e
    · rename_i w ws2 e1 e2
      cases e
      constructor
      · intro h
        cases h with
        | cons h1 h2 => exact .cons ((denW_dn em e1).mp h1) ((denWs_dn em e2).mp h2)
      · intro h
        cases h with
        | cons h1 h2 => exact .cons ((denW_dn em e1).mpr h1) ((denWs_dn em e2).mpr h2)
    · cases e
theorem cell_dn {al1 : List Addr} (em : Emb al1 al r) {c' c : Cell} {o : HO} (e : c'.up r = some c) : CellOk K al1 S c' o ↔ CellOk K al S c o := by
  cases c' with
  | lt ts => cases e; exact Iff.rfl
  | dt ks ts => cases e; exact Iff.rfl
  | dp ks ts => cases e; exact Iff.rfl
  | lw ws =>
    unfold Cell.up at e
    dsimp only at e
    split at e
    · rename_i ws2 e2
      cases e
      exact ⟨fun ⟨vs, h, p⟩ => ⟨vs, h, (denWs_dn em e2).mp p⟩, fun ⟨vs, h, p⟩ => ⟨vs, h, (denWs_dn em e2).mpr p⟩⟩
    · cases e
  | tw ws =>
    unfold Cell.up at e
    dsimp only at e
    split at e
    · rename_i ws2 e2
      cases e
      exact ⟨fun ⟨vs, h, p⟩ => ⟨vs, h, (denWs_dn em e2).mp p⟩, fun ⟨vs, h, p⟩ => ⟨vs, h, (denWs_dn em e2).mpr p⟩⟩
    · cases e
  | ob n fs ws =>
    unfold Cell.up at e
    dsimp only at e
    split at e
    · rename_i ws2 e2
      cases e
      have hl : ∀ {ws' ws : List W}, ups r ws' = some ws → ws'.length = ws.length := by
        intro ws'
        induction ws' with
        | nil => intro ws e; cases e; rfl
        | cons w' ws' ih =>
          intro ws e
          unfold ups at e
          split at e
          · rename_i w ws2 e1 e2
            cases e
            simp [ih e2]
          · cases e
      exact ⟨fun ⟨C, dx, vs, n, h, l, p⟩ => ⟨C, dx, vs, n, h, by rw [l, hl e2], (denWs_dn em e2).mp p⟩, fun ⟨C, dx, vs, n, h, l, p⟩ => ⟨C, dx, vs, n, h, by rw [l, hl e2], (denWs_dn em e2).mpr p⟩⟩
    · cases e
  | dw ks ws =>
    unfold Cell.up at e
    dsimp only at e
    split at e
    · rename_i ws2 e2
      cases e
      have hl : ∀ {ws' ws : List W}, ups r ws' = some ws → ws'.length = ws.length := by
        intro ws'
        induction ws' with
        | nil => intro ws e; cases e; rfl
        | cons w' ws' ih =>
          intro ws e
          unfold ups at e
          split at e
          · rename_i w ws2 e1 e2
            cases e
            simp [ih e2]
          · cases e
      exact ⟨fun ⟨vs, h, l, p⟩ => ⟨vs, h, by rw [l, hl e2], (denWs_dn em e2).mp p⟩, fun ⟨vs, h, l, p⟩ => ⟨vs, h, by rw [l, hl e2], (denWs_dn em e2).mpr p⟩⟩
    · cases e
theorem nodup_get {r : List Nat} (h : r.Nodup) {i k j : Nat} (a : r[i]? = some j) (b : r[k]? = some j) : i = k := by
  obtain ⟨h1, e1⟩ := List.getElem?_eq_some_iff.mp a
  obtain ⟨h2, e2⟩ := List.getElem?_eq_some_iff.mp b
  exact (List.getElem_inj h).mp (e1.trans e2.symm)
/-- a part of the store by itself -/
theorem RepM.sub (R : RepM K al S F H m) {m2 : List Cell} (nd : r.Nodup) (hr : ∀ j ∈ r, j < m.length) (hl : r.length = m2.length)
    (hc : ∀ (i : Nat) (c' : Cell), m2[i]? = some c' → ∃ j c, r[i]? = some j ∧ c'.up r = some c ∧ m[j]? = some (some c)) : RepM K (alOf al r) S F H (m2.map some) := by
  have em : Emb (alOf al r) al r := emb_of fun j hj => by rw [R.len]; exact hr j hj
  have at2 : ∀ (n : Nat) (c : Cell), (m2.map some)[n]? = some (some c) → m2[n]? = some c := fun n c e => by
    rw [List.getElem?_map] at e
    cases q : m2[n]? with
    | none => rw [q] at e; cases e
    | some d => rw [q] at e; cases e; rfl
  refine ⟨R.same, R.fr, R.dis, by unfold alOf; simp [hl], fun n c e => ?_, fun n k c d a e1 e2 e3 e4 => ?_⟩
  · obtain ⟨j, c2, h1, h2, h3⟩ := hc n c (at2 n c e)
    obtain ⟨a, o, g1, g2, g3, g4, g5⟩ := R.cell j c2 h3
    exact ⟨a, o, by rw [em n j h1]; exact g1, g2, g3, g4, (cell_dn em h2).mpr g5⟩
  · obtain ⟨j, c2, h1, h2, h3⟩ := hc n c (at2 n c e1)
    obtain ⟨j', c3, h4, h5, h6⟩ := hc k d (at2 k d e2)
    rw [em n j h1] at e3
    rw [em k j' h4] at e4
    have := R.inj j j' c2 c3 a h3 h6 e3 e4
    subst this
    exact nodup_get nd h1 h4
end
/-! a def's contract: what is handed in (trees, and handles of the cells handed in), the cells; what is handed back, the cells behind, new cells -/
abbrev SC := List W → List Cell → (W → List Cell → List Cell → Prop) → Prop
def sps (K : PySem.W.Frag) (C : SC) : Sp := fun vs H Q _ => ∃ (al : List Addr) (S F : Hp) (m0 : List Cell) (ws : List W) (QC : W → List Cell → List Cell → Prop), RepM K al S F H (m0.map some) ∧ Paired (DenW K al S) ws vs ∧ C ws m0 QC ∧
  ∀ al2 S' H' m1 cs v w, RepM K (al ++ al2) S' F H' ((m1 ++ cs).map some) → m1.length = m0.length → Same S S' → DenW K (al ++ al2) S' w v → QC w m1 cs → Q v H'
/-- what the body hands back, as the contract tells it -/
def FinS (n0 : Nat) (QC : W → List Cell → List Cell → Prop) (w : W) (g : G) : Prop := ∃ (ks : List Nat) (m1 cs : List Cell) (w' : W), (List.range n0 ++ ks).Nodup ∧ (∀ j ∈ List.range n0 ++ ks, j < g.mem.length) ∧ w'.up (List.range n0 ++ ks) = some w ∧ m1.length = n0 ∧ cs.length = ks.length ∧
  (∀ (i : Nat) (c' : Cell), (m1 ++ cs)[i]? = some c' → ∃ j c, (List.range n0 ++ ks)[i]? = some j ∧ c'.up (List.range n0 ++ ks) = some c ∧ g.mem[j]? = some (some c)) ∧ QC w' m1 cs
theorem alOf_range {al al1 more : List Addr} {n0 : Nat} (h : al1 = al ++ more) (hl : al.length = n0) (ks : List Nat) : alOf al1 (List.range n0 ++ ks) = al ++ alOf al1 ks := by
  unfold alOf
  rw [List.map_append]
  congr 1
  refine List.ext_getElem? fun i => ?_
  rw [List.getElem?_map]
  by_cases hi : i < n0
  · rw [List.getElem?_range hi, Option.map_some, List.getD_eq_getElem?_getD, h, List.getElem?_append_left (by omega), List.getElem?_eq_getElem (by omega)]
    rfl
  · rw [List.getElem?_eq_none (by simpa using hi), List.getElem?_eq_none (by omega)]
    rfl
section
variable {P : Program} {w : World} {K : PySem.W.Frag} {mg : Str → Option Value} {base : Heap}
theorem sps_fin {al alF : List Addr} {S S' F H' : Hp} {g : G} {m0 : List Cell} {QC : W → List Cell → List Cell → Prop} {σ : L2.St} {u : W} {v : V} {Q : VK} (R : Rep K alF S' F H' σ g) (gr : Grow al S alF S') (hl : al.length = m0.length) (d : DenW K alF S' u v) (q : FinS m0.length QC u g)
    (k : ∀ al2 S' H' m1 cs v w, RepM K (al ++ al2) S' F H' ((m1 ++ cs).map some) → m1.length = m0.length → Same S S' → DenW K (al ++ al2) S' w v → QC w m1 cs → Q v H') : Q v H' := by
  obtain ⟨ks, m1, cs, u', nd, lt, hu, l1, l2, hc, q⟩ := q
  obtain ⟨⟨more, ea⟩, sS⟩ := gr
  have M := R.toRepM.sub (m2 := m1 ++ cs) nd lt (by simp [l1, l2]) hc
  have em : Emb (alOf alF (List.range m0.length ++ ks)) alF (List.range m0.length ++ ks) := emb_of fun j hj => by rw [R.len]; exact lt j hj
  have d' := (denW_dn (K := K) (S := S') (v := v) em hu).mpr d
  rw [alOf_range ea hl ks] at M d'
  exact k _ _ _ m1 cs v u' M l1 sS d' q
theorem start_rep {al : List Addr} {S F H : Hp} {m0 : Sto} {ws : List W} {vs : List V} {N : List Str} (M : RepM K al S F H m0) (d : Paired (DenW K al S) ws vs) : Rep K al S F H (L2.start N vs) ⟨ws.map some ++ List.replicate (N.length - ws.length) none, m0⟩ := by
  refine ⟨M, by unfold L2.start; simp [d.length], fun i u e => ?_⟩
  dsimp only at e
  rcases Nat.lt_or_ge i ws.length with hi | hi
  · rw [List.getElem?_append_left (by simpa using hi), List.getElem?_map] at e
    cases eu : ws[i]? with
    | none => rw [eu] at e; cases e
    | some u' =>
      rw [eu] at e; cases e
      obtain ⟨v, hv, dv⟩ := pget d eu
      refine ⟨v, ?_, dv⟩
      unfold L2.start
      rw [List.getElem?_append_left (by rw [List.length_map, ← d.length]; exact hi), List.getElem?_map, hv]
      rfl
  · rw [List.getElem?_append_right (by simpa using hi), List.getElem?_replicate] at e
    split at e <;> cases e
/-- THE RULE for a def's body -/
theorem dfn_ok {x qual : Str} {st : Stmt} {f : Addr} {fd : FuncData} {N ps : List Str} {k : Nat} {C : SC} (Fn : Fun K x qual st f fd) (Sc : FnScope N ps (defScope st)) (hlen : ∀ ws m Q, C ws m Q → ws.length = ps.length)
    (hb : ∀ (cdv : Value) (A : Around) (outer : List Env) (s : Shared) (H : Hp) (E : XK), Room k (A.deeper (PyProof.Rows.envOfC qual (defScope st) s.heap.objs.size f cdv)) →
      ∃ τ t, DSs (cxOf CX0 P w K mg base N qual (defScope st) f cdv A outer s H E).nox (defBody st) τ t ∧ ∀ ws m QC, C ws m QC → t ⟨FinS m.length QC (.t .non), FinS m.length QC, fun _ => False, fun _ => False⟩ ⟨ws.map some ++ List.replicate (N.length - ws.length) none, m.map some⟩) :
    FnOk P w K mg base CX0 (k + 1) f fd ps (sps K C) := by
  refine Fn.ok Sc (fun vs H Q E h => ?_) fun cdv A outer s H vs Q E hr h => ?_
  · obtain ⟨al, S, F, m0, ws, QC, _, d, c, _⟩ := h
    rw [← d.length]; exact hlen _ _ _ c
  · obtain ⟨al, S, F, m0, ws, QC, M, d, c, q⟩ := h
    obtain ⟨τ, t, D, ht⟩ := hb cdv A outer s H E hr
    refine ⟨τ, D.pe, ?_⟩
    have hl : al.length = m0.length := by rw [M.len, List.length_map]
    have R := start_rep (N := N) M d
    refine D.r al S F H _ _ _ _ R (ht ws m0 QC c) ⟨fun al' S' H' σ' g' R' gr' q' => ?_, fun al' S' H' σ' g' v u R' gr' d' q' => ?_, fun _ _ _ _ _ _ _ z => z.elim, fun _ _ _ _ _ _ _ z => z.elim⟩
    · exact sps_fin R' gr' hl (by unfold DenW Den; rfl) q' q
    · exact sps_fin R' gr' hl d' q' q
end
/-! the caller -/
def setAll (m : Sto) : List Nat → List Cell → Sto
  | j :: r, c :: cs => (setAll m r cs).set j (some c)
  | _, _ => m
theorem setAll_len (m : Sto) : ∀ (r : List Nat) (cs : List Cell), (setAll m r cs).length = m.length
  | [], _ => by unfold setAll; rfl
  | _ :: _, [] => by unfold setAll; rfl
  | j :: r, c :: cs => by unfold setAll; rw [List.length_set, setAll_len m r cs]
theorem setAll_out (m : Sto) {n : Nat} : ∀ (r : List Nat) (cs : List Cell), n ∉ r → (setAll m r cs)[n]? = m[n]?
  | [], _, _ => by unfold setAll; rfl
  | _ :: _, [], _ => by unfold setAll; rfl
  | j :: r, c :: cs, h => by
    unfold setAll
    rw [List.getElem?_set_ne (fun z => h (by subst z; simp)), setAll_out m r cs fun z => h (by simp [z])]
theorem setAll_in (m : Sto) : ∀ (r : List Nat) (cs : List Cell) {i j : Nat}, r.Nodup → (∀ j ∈ r, j < m.length) → r.length = cs.length → r[i]? = some j → ∃ c, cs[i]? = some c ∧ (setAll m r cs)[j]? = some (some c)
  | [], cs, i, j, _, _, _, h => by simp at h
  | _ :: _, [], i, j, _, _, hl, h => by simp at hl
  | j0 :: r, c :: cs, i, j, nd, lt, hl, h => by
    unfold setAll
    obtain ⟨n1, n2⟩ := List.nodup_cons.mp nd
    cases i with
    | zero =>
      simp at h
      subst h
      exact ⟨c, by simp, List.getElem?_set_self (by rw [setAll_len]; exact lt j0 (by simp))⟩
    | succ i =>
      obtain ⟨c', h1, h2⟩ := setAll_in m r cs (i := i) (j := j) n2 (fun j hj => lt j (by simp [hj])) (by simpa using hl) (by simpa using h)
      refine ⟨c', by simpa using h1, ?_⟩
      rw [List.getElem?_set_ne]
      · exact h2
      · intro z
        subst z
        exact n1 (List.mem_of_getElem? (by simpa using h))
/-- the general call: r tells which cells are handed in -/
def dCallS (C : SC) (t : DAt) : Dt := fun g Q => t g fun ws g1 => ∃ (r : List Nat) (m0 : List Cell) (ws0 : List W), r.Nodup ∧ r.length = m0.length ∧ ups r ws0 = some ws ∧
  (∀ (i : Nat) (c : Cell), m0[i]? = some c → ∃ j c', r[i]? = some j ∧ c.up r = some c' ∧ g1.mem[j]? = some (some c')) ∧
  C ws0 m0 fun w m1 cs => ∃ w' m1' cs', w.up (r ++ (List.range cs.length).map (g1.mem.length + ·)) = some w' ∧ cups (r ++ (List.range cs.length).map (g1.mem.length + ·)) m1 = some m1' ∧ cups (r ++ (List.range cs.length).map (g1.mem.length + ·)) cs = some cs' ∧
    Q w' ⟨g1.sl, setAll g1.mem r m1' ++ cs'.map some⟩
section
variable {K : PySem.W.Frag} {τs : TA} {ts : DAt}
open Classical in
/-- the cells that are not handed in lie still -/
noncomputable def frOf (al : List Addr) (F H : Hp) (m : Sto) (r : List Nat) : Hp := fun a => if (F a).isSome = true ∨ ∃ (n : Nat) (c : Cell), m[n]? = some (some c) ∧ n ∉ r ∧ al[n]? = some a then H a else none
theorem callS_at {C : SC} {E : XK} {al1 : List Addr} {S1 F H1 : Hp} {σ : L2.St} {g1 : G} {vs : List V} {ws : List W} {Q : W → G → Prop} {QV : VK} (R1 : Rep K al1 S1 F H1 σ g1) (e1 : Paired (DenW K al1 S1) ws vs)
    (q1 : ∃ (r : List Nat) (m0 : List Cell) (ws0 : List W), r.Nodup ∧ r.length = m0.length ∧ ups r ws0 = some ws ∧
  (∀ (i : Nat) (c : Cell), m0[i]? = some c → ∃ j c', r[i]? = some j ∧ c.up r = some c' ∧ g1.mem[j]? = some (some c')) ∧
  C ws0 m0 fun w m1 cs => ∃ w' m1' cs', w.up (r ++ (List.range cs.length).map (g1.mem.length + ·)) = some w' ∧ cups (r ++ (List.range cs.length).map (g1.mem.length + ·)) m1 = some m1' ∧ cups (r ++ (List.range cs.length).map (g1.mem.length + ·)) cs = some cs' ∧
    Q w' ⟨g1.sl, setAll g1.mem r m1' ++ cs'.map some⟩)
    (k : Ct K al1 S1 F σ Q QV) : sps K C vs H1 QV E := by
  have gr1 := Grow.refl al1 S1
  obtain ⟨r, m0, ws0, nd, hl, hu, hc, q1⟩ := q1
  have lt : ∀ j ∈ r, j < g1.mem.length := fun j hj => by
    obtain ⟨i, hi⟩ := List.getElem?_of_mem hj
    have him : i < m0.length := by
      rw [← hl]
      exact (List.getElem?_eq_some_iff.mp hi).1
    obtain ⟨j', c', h1, h2, h3⟩ := hc i _ (List.getElem?_eq_getElem him)
    rw [hi] at h1; cases h1
    exact (List.getElem?_eq_some_iff.mp h3).1
  have em : Emb (alOf al1 r) al1 r := emb_of fun j hj => by rw [R1.len]; exact lt j hj
  have M0 := R1.toRepM.sub (m2 := m0) nd lt hl hc
  have hF : ∀ a u, F a = some u → frOf al1 F H1 g1.mem r a = some u := fun a u e => by
    unfold frOf
    rw [if_pos (.inl (by rw [e]; rfl))]
    exact R1.fr a u e
  have hN : ∀ a, frOf al1 F H1 g1.mem r a = none → F a = none := fun a e => by
    cases q : F a with
    | none => rfl
    | some u => rw [hF a u q] at e; cases e
  have M1 : RepM K (alOf al1 r) S1 (frOf al1 F H1 g1.mem r) H1 (m0.map some) := by
    refine ⟨M0.same, fun a u e => ?_, fun a u e => ?_, M0.len, fun n c e => ?_, M0.inj⟩
    · unfold frOf at e
      split at e
      · exact e
      · cases e
    · unfold frOf
      rw [if_neg]
      rintro (z | ⟨n, c, z1, z2, z3⟩)
      · rw [R1.dis a u e] at z; cases z
      · obtain ⟨a', o, g1', g2, g3, g4, g5⟩ := R1.cell n c z1
        rw [z3] at g1'; cases g1'
        rw [e] at g2; cases g2
    · obtain ⟨a, o, h1, h2, h3, h4, h5⟩ := M0.cell n c e
      refine ⟨a, o, h1, h2, ?_, h4, h5⟩
      unfold frOf
      rw [if_neg]
      rintro (z | ⟨n', c', z1, z2, z3⟩)
      · rw [h3] at z; cases z
      · have e' : m0[n]? = some c := by
          rw [List.getElem?_map] at e
          cases q : m0[n]? with
          | none => rw [q] at e; cases e
          | some d => rw [q] at e; cases e; rfl
        obtain ⟨j, c2, y1, y2, y3⟩ := hc n c e'
        rw [em n j y1] at h1
        have := R1.inj n' j c' c2 a z1 y3 z3 h1
        subst this
        exact z2 (List.mem_of_getElem? y1)
  refine ⟨alOf al1 r, S1, frOf al1 F H1 g1.mem r, m0, ws0, _, M1, (denWs_dn em hu).mpr e1, q1, fun al2 S2 H2 m1 cs v w M2 l2 sS d2 q2 => ?_⟩
  obtain ⟨w', m1', cs', hw, hm1, hcs, q2⟩ := q2
  have lA : (alOf al1 r).length = r.length := by unfold alOf; simp
  have l3 : al2.length = cs.length := by
    have := M2.len
    rw [List.length_append, lA, List.length_map, List.length_append, l2, hl] at this
    omega
  have em2 : Emb (alOf al1 r ++ al2) (al1 ++ al2) (r ++ (List.range cs.length).map (g1.mem.length + ·)) := by
    intro i j e
    rcases Nat.lt_or_ge i r.length with hi | hi
    · rw [List.getElem?_append_left hi] at e
      rw [List.getElem?_append_left (by rw [lA]; exact hi), em i j e, List.getElem?_append_left (by rw [R1.len]; exact lt j (List.mem_of_getElem? e))]
    · rw [List.getElem?_append_right hi, List.getElem?_map] at e
      cases q : (List.range cs.length)[i - r.length]? with
      | none => rw [q] at e; cases e
      | some z =>
        rw [q] at e
        have hz : i - r.length < cs.length := by
          have := (List.getElem?_eq_some_iff.mp q).1
          simpa using this
        rw [List.getElem?_range hz] at q
        cases q
        have e : g1.mem.length + (i - r.length) = j := Option.some.inj e
        subst e
        rw [List.getElem?_append_right (by rw [lA]; exact hi), List.getElem?_append_right (by rw [R1.len]; omega), lA, R1.len]
        congr 1
        omega
  have gr2 : Grow al1 S1 (al1 ++ al2) S2 := ⟨⟨al2, rfl⟩, sS⟩
  have lm : (setAll g1.mem r m1').length = g1.mem.length := setAll_len _ _ _
  have lm1 : r.length = m1'.length := by rw [cups_len hm1, l2, hl]
  have lcs : cs'.length = cs.length := cups_len hcs
  -- where a cell of the new store stands
  have whr : ∀ (n : Nat) (c : Cell), (setAll g1.mem r m1' ++ cs'.map some)[n]? = some (some c) → (n < g1.mem.length ∧ n ∉ r ∧ g1.mem[n]? = some (some c)) ∨ ∃ (i : Nat) (c0 : Cell), (m1 ++ cs)[i]? = some c0 ∧ c0.up (r ++ (List.range cs.length).map (g1.mem.length + ·)) = some c ∧ (r ++ (List.range cs.length).map (g1.mem.length + ·))[i]? = some n := fun n c e => by
    rcases Nat.lt_or_ge n g1.mem.length with hn | hn
    · rw [List.getElem?_append_left (by rw [lm]; exact hn)] at e
      by_cases hr : n ∈ r
      · obtain ⟨i, hi⟩ := List.getElem?_of_mem hr
        obtain ⟨c2, h1, h2⟩ := setAll_in g1.mem r m1' nd lt lm1 hi
        rw [e] at h2; cases h2
        have him : i < m1.length := by
          rw [l2, ← hl]
          exact (List.getElem?_eq_some_iff.mp hi).1
        obtain ⟨c3, h3, h4⟩ := cups_get hm1 (List.getElem?_eq_getElem him)
        rw [h1] at h3; cases h3
        refine .inr ⟨i, _, by rw [List.getElem?_append_left him]; exact List.getElem?_eq_getElem him, h4, ?_⟩
        rw [List.getElem?_append_left (List.getElem?_eq_some_iff.mp hi).1]
        exact hi
      · rw [setAll_out _ _ _ hr] at e
        exact .inl ⟨hn, hr, e⟩
    · rw [List.getElem?_append_right (by rw [lm]; exact hn), lm, List.getElem?_map] at e
      cases q : cs'[n - g1.mem.length]? with
      | none => rw [q] at e; cases e
      | some d =>
        rw [q] at e; cases e
        have hi : n - g1.mem.length < cs.length := by
          rw [← lcs]
          exact (List.getElem?_eq_some_iff.mp q).1
        obtain ⟨c3, h3, h4⟩ := cups_get hcs (List.getElem?_eq_getElem hi)
        rw [q] at h3; cases h3
        refine .inr ⟨r.length + (n - g1.mem.length), _, ?_, h4, ?_⟩
        · rw [List.getElem?_append_right (by rw [l2, ← hl]; omega), show r.length + (n - g1.mem.length) - m1.length = n - g1.mem.length by rw [l2, ← hl]; omega]
          exact List.getElem?_eq_getElem hi
        · rw [List.getElem?_append_right (by omega), show r.length + (n - g1.mem.length) - r.length = n - g1.mem.length by omega, List.getElem?_map, List.getElem?_range hi, Option.map_some]
          congr 1
          omega
  have at2 : ∀ (i : Nat) (c0 : Cell), (m1 ++ cs)[i]? = some c0 → ((m1 ++ cs).map some)[i]? = some (some c0) := fun i c0 e => by rw [List.getElem?_map, e]; rfl
  have frz : ∀ (n : Nat) (c : Cell) (a : Addr) , n ∉ r → g1.mem[n]? = some (some c) → al1[n]? = some a → ∃ o, H1 a = some o ∧ frOf al1 F H1 g1.mem r a = some o ∧ S1 a = none ∧ F a = none ∧ CellOk K al1 S1 c o := fun n c a hn e ea => by
    obtain ⟨a', o, g1', g2, g3, g4, g5⟩ := R1.cell n c e
    rw [ea] at g1'; cases g1'
    refine ⟨o, g4, ?_, g2, g3, g5⟩
    unfold frOf
    rw [if_pos (.inr ⟨n, c, e, hn, ea⟩)]
    exact g4
  have M3 : RepM K (al1 ++ al2) S2 F H2 (setAll g1.mem r m1' ++ cs'.map some) := by
    refine ⟨M2.same, fun a u e => M2.fr a u (hF a u e), fun a u e => hN a (M2.dis a u e), ?_, fun n c e => ?_, fun n n' c c' a e1 e2 e3 e4 => ?_⟩
    · rw [List.length_append, List.length_append, lm, List.length_map, lcs, R1.len, l3]
    · rcases whr n c e with ⟨hn, hr, e'⟩ | ⟨i, c0, h1, h2, h3⟩
      · have ha : ∃ a, al1[n]? = some a := ⟨_, List.getElem?_eq_getElem (by rw [R1.len]; exact hn)⟩
        obtain ⟨a, ea⟩ := ha
        obtain ⟨o, y1, y2, y3, y4, y5⟩ := frz n c a hr e' ea
        refine ⟨a, o, gr2.get ea, ?_, y4, M2.fr a o y2, y5.grow gr2⟩
        cases q : S2 a with
        | none => rfl
        | some u => have := M2.dis a u q; rw [y2] at this; cases this
      · obtain ⟨a, o, y1, y2, y3, y4, y5⟩ := M2.cell i c0 (at2 i c0 h1)
        exact ⟨a, o, by rw [← em2 i n h3]; exact y1, y2, hN a y3, y4, (cell_dn em2 h2).mp y5⟩
    · rcases whr n c e1 with ⟨hn, hr, e'⟩ | ⟨i, c0, h1, h2, h3⟩
      · have ea1 : al1[n]? = some a := by rw [List.getElem?_append_left (by rw [R1.len]; exact hn)] at e3; exact e3
        rcases whr n' c' e2 with ⟨hn', hr', e''⟩ | ⟨i, c0, h1, h2, h3⟩
        · have ea2 : al1[n']? = some a := by rw [List.getElem?_append_left (by rw [R1.len]; exact hn')] at e4; exact e4
          exact R1.inj n n' c c' a e' e'' ea1 ea2
        · obtain ⟨o, y1, y2, y3, y4, y5⟩ := frz n c a hr e' ea1
          obtain ⟨a', o', z1, z2, z3, z4, z5⟩ := M2.cell i c0 (at2 i c0 h1)
          rw [em2 i n' h3, e4] at z1; cases z1
          rw [y2] at z3; cases z3
      · rcases whr n' c' e2 with ⟨hn', hr', e''⟩ | ⟨i', c0', h1', h2', h3'⟩
        · have ea2 : al1[n']? = some a := by rw [List.getElem?_append_left (by rw [R1.len]; exact hn')] at e4; exact e4
          obtain ⟨o, y1, y2, y3, y4, y5⟩ := frz n' c' a hr' e'' ea2
          obtain ⟨a', o', z1, z2, z3, z4, z5⟩ := M2.cell i c0 (at2 i c0 h1)
          rw [em2 i n h3, e3] at z1; cases z1
          rw [y2] at z3; cases z3
        · have := M2.inj i i' c0 c0' a (at2 i c0 h1) (at2 i' c0' h1') (by rw [em2 i n h3]; exact e3) (by rw [em2 i' n' h3']; exact e4)
          subst this
          rw [h3] at h3'
          exact Option.some.inj h3'
  exact k _ _ _ _ _ w' (R1.withM2 gr2 M3) (gr1.trans gr2) ((denW_dn em2 hw).mp d2) q2
theorem der_callS {C : SC} {E : XK} (h : DAr K τs ts) : DEr K (tCall (sps K C) [] E τs) (dCallS C ts) := by
  intro al S F H σ g Q QV R q k
  refine h al S F H σ g _ _ R q fun al1 S1 H1 g1 vs ws R1 gr1 e1 q1 => ?_
  rw [List.append_nil]
  exact callS_at R1 e1 q1 (k.grow gr1)
/-! pure defs: trees in, a tree or a fresh cell out -/
inductive R0 where
  | t (x : T) | f (c : Cell)
abbrev PC := List T → (R0 → Prop) → Prop
def PC.s (C : PC) : SC := fun ws m QC => ∃ ts, treesW ws = some ts ∧ m = [] ∧ C ts fun r => match r with
  | .t t => QC (.t t) [] []
  | .f c => QC (.h 0) [] [c]
def Cell.plain : Cell → Bool
  | .lt _ => true
  | .dt _ _ => true
  | _ => false
theorem up_plain {c : Cell} (h : c.plain = true) (r : List Nat) : c.up r = some c := by
  cases c <;> first | rfl | cases h
/-- a fresh cell handed back is taken as a tree -/
def dCallT (C : PC) (t : DAt) : Dt := fun g Q => t g fun ws g1 => match treesW ws with
  | some ts => C ts fun r => match r with
    | .t t => Q (.t t) g1
    | .f c => (match c.tree with | some t => Q (.t t) g1 | none => False)
  | none => False
/-- .. as a cell -/
def dCallH (C : PC) (t : DAt) : Dt := fun g Q => t g fun ws g1 => match treesW ws with
  | some ts => C ts fun r => match r with
    | .t t => Q (.t t) g1
    | .f c => c.plain = true ∧ Q (.h g1.mem.length) (g1.push c)
  | none => False
/-- the caller's own part behind a call that was handed no cell -/
theorem RepM.back {al : List Addr} {S S' F H H' : Hp} {m : Sto} (R : RepM K al S F H m) (sS : Same S S') (h1 : Same S' H') (h2 : Same (frOf al F H m []) H') (h3 : ∀ a o, S' a = some o → frOf al F H m [] a = none) : RepM K al S' F H' m := by
  have hF : ∀ a u, F a = some u → frOf al F H m [] a = some u := fun a u e => by
    unfold frOf
    rw [if_pos (.inl (by rw [e]; rfl))]
    exact R.fr a u e
  refine ⟨h1, fun a u e => h2 a u (hF a u e), fun a u e => ?_, R.len, fun n c e => ?_, R.inj⟩
  · cases q : F a with
    | none => rfl
    | some v => have := h3 a u e; rw [hF a v q] at this; cases this
  · obtain ⟨a, o, g1, g2, g3, g4, g5⟩ := R.cell n c e
    have q : frOf al F H m [] a = some o := by
      unfold frOf
      rw [if_pos (.inr ⟨n, c, e, by simp, g1⟩)]
      exact g4
    refine ⟨a, o, g1, ?_, g3, h2 a o q, g5.grow ⟨⟨[], by simp⟩, sS⟩⟩
    cases q2 : S' a with
    | none => rfl
    | some u => have := h3 a u q2; rw [q] at this; cases this
theorem RepM.none0 {al : List Addr} {S F H : Hp} {m : Sto} (R : RepM K al S F H m) : RepM K [] S (frOf al F H m []) H (([] : List Cell).map some) := by
  refine ⟨R.same, fun a u e => ?_, fun a u e => ?_, rfl, fun n c e => by simp at e, fun n k c d a e => by simp at e⟩
  · unfold frOf at e
    split at e
    · exact e
    · cases e
  · unfold frOf
    rw [if_neg]
    rintro (z | ⟨n, c, z1, z2, z3⟩)
    · rw [R.dis a u e] at z; cases z
    · obtain ⟨a', o, g1', g2, g3, g4, g5⟩ := R.cell n c z1
      rw [z3] at g1'; cases g1'
      rw [e] at g2; cases g2
theorem treesW_eq : ∀ {ws : List W} {ts : List T}, treesW ws = some ts → ws = ts.map W.t
  | [], _, e => by cases e; rfl
  | .h n :: ws, _, e => by cases e
  | .t x :: ws, ts, e => by
    unfold treesW at e
    cases q : treesW ws with
    | none => rw [q] at e; cases e
    | some us =>
      rw [q] at e
      cases e
      rw [treesW_eq q]
      rfl
theorem denW_trees {al al' : List Addr} {S : Hp} : ∀ {ws : List W} {ts : List T} {vs : List V}, treesW ws = some ts → Paired (DenW K al S) ws vs → Paired (DenW K al' S) ws vs
  | [], _, _, _, h => by cases h; exact .nil
  | .t x :: ws, ts, vs, e, h => by
    unfold treesW at e
    cases q : treesW ws with
    | none => rw [q] at e; cases e
    | some us =>
      cases h with
      | cons h1 h2 => exact .cons h1 (denW_trees q h2)
  | .h n :: ws, ts, vs, e, h => by cases e
theorem der_callT {C : PC} {E : XK} (h : DAr K τs ts) : DEr K (tCall (sps K C.s) [] E τs) (dCallT C ts) := by
  intro al S F H σ g Q QV R q k
  refine h al S F H σ g _ _ R q fun al1 S1 H1 g1 vs ws R1 gr1 e1 q1 => ?_
  rw [List.append_nil]
  split at q1
  · rename_i us eu
    refine ⟨[], S1, frOf al1 F H1 g1.mem [], [], ws, fun w m1 cs => match w, cs with | .t t, [] => Q (.t t) g1 | .h 0, [c] => (match c.tree with | some t => Q (.t t) g1 | none => False) | _, _ => False, R1.toRepM.none0, denW_trees eu e1, ⟨us, eu, rfl, ?_⟩, fun al2 S2 H2 m1 cs v w M2 l2 sS d2 q2 => ?_⟩
    · have e : (fun r : R0 => match r with | .t t => Q (.t t) g1 | .f c => (match c.tree with | some t => Q (.t t) g1 | none => False)) = (fun r : R0 => match r with | .t t => (fun (w : W) (m1 cs : List Cell) => match w, cs with | .t t, [] => Q (.t t) g1 | .h 0, [c] => (match c.tree with | some t => Q (.t t) g1 | none => False) | _, _ => False) (.t t) [] [] | .f c => (fun (w : W) (m1 cs : List Cell) => match w, cs with | .t t, [] => Q (.t t) g1 | .h 0, [c] => (match c.tree with | some t => Q (.t t) g1 | none => False) | _, _ => False) (.h 0) [] [c]) := by
        funext r
        cases r <;> rfl
      rw [← e]
      exact q1
    · rw [List.nil_append] at M2 d2
      have lm : m1 = [] := List.length_eq_zero_iff.mp l2
      subst lm
      split at q2
      · rename_i t
        exact k _ _ _ _ _ (.t t) (R1.withM2 ⟨⟨[], by simp⟩, sS⟩ (R1.toRepM.back sS M2.same M2.fr M2.dis)) (gr1.trans ⟨⟨[], by simp⟩, sS⟩) d2 q2
      · rename_i c
        split at q2
        · rename_i t et
          obtain ⟨a, o, S3, h1, rfl, h3, M3, gr3, h4⟩ := M2.frz (n := 0) (c := c) rfl
          obtain ⟨a', ha, rfl⟩ := d2
          rw [h1] at ha; cases ha
          have dt : Den K (upd S2 a o) t (.ref a) := by
            cases c with
            | lt ts =>
              cases et
              obtain ⟨vs, rfl, h5⟩ := h3
              unfold Den
              exact ⟨a, vs, rfl, h4, Dens.iff.mpr (Denp.grow gr3.s h5)⟩
            | dt ks ts =>
              cases et
              obtain ⟨vs, rfl, h5, h6⟩ := h3
              unfold Den
              exact ⟨a, vs, rfl, h4, h5, Dens.iff.mpr (Denp.grow gr3.s h6)⟩
            | _ => cases et
          have sS' := sS.trans gr3.s
          exact k _ _ _ _ _ (.t t) (R1.withM2 ⟨⟨[], by simp⟩, sS'⟩ (R1.toRepM.back sS' M3.same M3.fr M3.dis)) (gr1.trans ⟨⟨[], by simp⟩, sS'⟩) dt q2
        · exact q2.elim
      · exact q2.elim
  · exact q1.elim
theorem der_callH {C : PC} {E : XK} (h : DAr K τs ts) : DEr K (tCall (sps K C.s) [] E τs) (dCallH C ts) := by
  intro al S F H σ g Q QV R q k
  refine h al S F H σ g _ _ R q fun al1 S1 H1 g1 vs ws R1 gr1 e1 q1 => ?_
  rw [List.append_nil]
  split at q1
  · rename_i us eu
    refine ⟨[], S1, frOf al1 F H1 g1.mem [], [], ws, fun w m1 cs => match w, cs with | .t t, [] => Q (.t t) g1 | .h 0, [c] => c.plain = true ∧ Q (.h g1.mem.length) (g1.push c) | _, _ => False, R1.toRepM.none0, denW_trees eu e1, ⟨us, eu, rfl, ?_⟩, fun al2 S2 H2 m1 cs v w M2 l2 sS d2 q2 => ?_⟩
    · have e : (fun r : R0 => match r with | .t t => Q (.t t) g1 | .f c => c.plain = true ∧ Q (.h g1.mem.length) (g1.push c)) = (fun r : R0 => match r with | .t t => (fun (w : W) (m1 cs : List Cell) => match w, cs with | .t t, [] => Q (.t t) g1 | .h 0, [c] => c.plain = true ∧ Q (.h g1.mem.length) (g1.push c) | _, _ => False) (.t t) [] [] | .f c => (fun (w : W) (m1 cs : List Cell) => match w, cs with | .t t, [] => Q (.t t) g1 | .h 0, [c] => c.plain = true ∧ Q (.h g1.mem.length) (g1.push c) | _, _ => False) (.h 0) [] [c]) := by
        funext r
        cases r <;> rfl
      rw [← e]
      exact q1
    · rw [List.nil_append] at M2 d2
      have lm : m1 = [] := List.length_eq_zero_iff.mp l2
      subst lm
      split at q2
      · rename_i t
        exact k _ _ _ _ _ (.t t) (R1.withM2 ⟨⟨[], by simp⟩, sS⟩ (R1.toRepM.back sS M2.same M2.fr M2.dis)) (gr1.trans ⟨⟨[], by simp⟩, sS⟩) d2 q2
      · rename_i c
        obtain ⟨hp, q2⟩ := q2
        obtain ⟨a, o, h1, h2, h3, h4, h5⟩ := M2.cell 0 c rfl
        obtain ⟨a', ha, rfl⟩ := d2
        rw [h1] at ha; cases ha
        have M4 := R1.toRepM.back sS M2.same M2.fr M2.dis
        have h6 : CellOk K (al1 ++ [a]) S2 c o := by
          cases c with
          | lt ts => exact h5
          | dt ks ts => exact h5
          | _ => cases hp
        have nF : F a = none := by
          cases q : F a with
          | none => rfl
          | some u =>
            unfold frOf at h3
            rw [if_pos (.inl (by rw [q]; rfl))] at h3
            have := R1.fr a u q
            rw [this] at h3; cases h3
        -- the cell as a framed thing, then a cell
        have M5 : RepM K al1 S2 (upd F a o) H2 g1.mem := by
          refine ⟨M4.same, fun b u e => ?_, fun b u e => ?_, M4.len, fun n c' e => ?_, M4.inj⟩
          · by_cases hb : b = a
            · subst hb; rw [upd_same] at e; cases e; exact h4
            · rw [upd_ne hb] at e; exact M4.fr b u e
          · rw [upd_ne (fun z => by subst z; rw [h2] at e; cases e)]; exact M4.dis b u e
          · obtain ⟨b, o', y1, y2, y3, y4, y5⟩ := M4.cell n c' e
            refine ⟨b, o', y1, y2, ?_, y4, y5⟩
            rw [upd_ne]
            · exact y3
            · intro z
              subst z
              have : frOf al1 F H1 g1.mem [] b ≠ none := by
                obtain ⟨b', o2, z1, z2, z3, z4, z5⟩ := R1.cell n c' e
                rw [y1] at z1; cases z1
                unfold frOf
                rw [if_pos (.inr ⟨n, c', e, by simp, y1⟩), z4]
                simp
              exact this h3
        obtain ⟨M6, gr6⟩ := M5.frC (c := c) nF h6
        have gr : Grow al1 S1 (al1 ++ [a]) S2 := ⟨⟨[a], rfl⟩, sS⟩
        refine k _ _ _ _ _ (.h g1.mem.length) (R1.withM2 gr M6) (gr1.trans gr) ⟨a, ?_, rfl⟩ q2
        rw [List.getElem?_append_right (by rw [R1.len]; exact Nat.le_refl _), R1.len]; simp
      · exact q2.elim
  · exact q1.elim
end
section
variable {X : Cx} {e : Expr} {es : List Expr} {τs : TA} {ts : DAt} {pos : Pos}
theorem de_callS {k : Nat} {f : Addr} {fd : FuncData} {ps : List Str} {C : SC} {x : Str} {p : Pos} (F : FnOk X.prog X.w X.K X.mg X.base CX0 k f fd ps (sps X.K C)) (hr : Room k X.A) (hm : X.mg x = some (.ref f)) (hk : PySem.W.keepIn X.K (.ref f) = true) (hb : Binds X.K fd ps [])
    (ha : DA X (e :: es) τs ts) (hg : Gl X x := by rfl) (hdb : (x == ("__debug__" : Str)) = false := by decide) (he : starEach (e :: es) X.env = (false, eval e X.env) :: starEach es X.env := by rfl) (hpl : (backTo pos (starEach es X.env)).any (·.1) = false := by rfl) :
    DE X (.Call (.Name x p) (e :: es) [] pos) (tCall (sps X.K C) [] E0 τs) (dCallS C ts) :=
  ⟨pe_call F hr hg hm hk hb .nil pass0 ha.pe hdb he hpl, der_callS ha.r⟩
theorem de_callT {k : Nat} {f : Addr} {fd : FuncData} {ps : List Str} {C : PC} {x : Str} {p : Pos} (F : FnOk X.prog X.w X.K X.mg X.base CX0 k f fd ps (sps X.K C.s)) (hr : Room k X.A) (hm : X.mg x = some (.ref f)) (hk : PySem.W.keepIn X.K (.ref f) = true) (hb : Binds X.K fd ps [])
    (ha : DA X (e :: es) τs ts) (hg : Gl X x := by rfl) (hdb : (x == ("__debug__" : Str)) = false := by decide) (he : starEach (e :: es) X.env = (false, eval e X.env) :: starEach es X.env := by rfl) (hpl : (backTo pos (starEach es X.env)).any (·.1) = false := by rfl) :
    DE X (.Call (.Name x p) (e :: es) [] pos) (tCall (sps X.K C.s) [] E0 τs) (dCallT C ts) :=
  ⟨pe_call F hr hg hm hk hb .nil pass0 ha.pe hdb he hpl, der_callT ha.r⟩
theorem de_callH {k : Nat} {f : Addr} {fd : FuncData} {ps : List Str} {C : PC} {x : Str} {p : Pos} (F : FnOk X.prog X.w X.K X.mg X.base CX0 k f fd ps (sps X.K C.s)) (hr : Room k X.A) (hm : X.mg x = some (.ref f)) (hk : PySem.W.keepIn X.K (.ref f) = true) (hb : Binds X.K fd ps [])
    (ha : DA X (e :: es) τs ts) (hg : Gl X x := by rfl) (hdb : (x == ("__debug__" : Str)) = false := by decide) (he : starEach (e :: es) X.env = (false, eval e X.env) :: starEach es X.env := by rfl) (hpl : (backTo pos (starEach es X.env)).any (·.1) = false := by rfl) :
    DE X (.Call (.Name x p) (e :: es) [] pos) (tCall (sps X.K C.s) [] E0 τs) (dCallH C ts) :=
  ⟨pe_call F hr hg hm hk hb .nil pass0 ha.pe hdb he hpl, der_callH ha.r⟩
end
/-! the ends of a pure def's body -/
def FinP (C : R0 → Prop) : W → G → Prop := fun w g => match w with
  | .t t => C (.t t)
  | .h n => match g.mem[n]? with | some (some c) => c.plain = true ∧ C (.f c) | _ => False
theorem finP_s {C : R0 → Prop} {QC : W → List Cell → List Cell → Prop} (hC : ∀ r, C r → match r with | .t t => QC (.t t) [] [] | .f c => QC (.h 0) [] [c]) {w : W} {g : G} (h : FinP C w g) : FinS 0 QC w g := by
  unfold FinP at h
  split at h
  · rename_i t
    exact ⟨[], [], [], .t t, by simp, by simp, rfl, rfl, rfl, fun i c e => by simp at e, hC _ h⟩
  · rename_i n
    split at h
    · rename_i c em
      obtain ⟨hp, h⟩ := h
      have hn : n < g.mem.length := (List.getElem?_eq_some_iff.mp em).1
      refine ⟨[n], [], [c], .h 0, by simp, by simpa using hn, rfl, rfl, rfl, fun i c' e => ?_, hC _ h⟩
      cases i with
      | zero =>
        simp at e
        subst e
        exact ⟨n, c, rfl, up_plain hp _, em⟩
      | succ i => simp at e
    · exact h.elim
section
variable {P : Program} {w : World} {K : PySem.W.Frag} {mg : Str → Option Value} {base : Heap}
/-- THE RULE for a pure def -/
theorem pfn_ok {x qual : Str} {st : Stmt} {f : Addr} {fd : FuncData} {N ps : List Str} {k : Nat} {C : PC} (Fn : Fun K x qual st f fd) (Sc : FnScope N ps (defScope st)) (hlen : ∀ ts Q, C ts Q → ts.length = ps.length)
    (hb : ∀ (cdv : Value) (A : Around) (outer : List Env) (s : Shared) (H : Hp) (E : XK), Room k (A.deeper (PyProof.Rows.envOfC qual (defScope st) s.heap.objs.size f cdv)) →
      ∃ τ t, DSs (cxOf CX0 P w K mg base N qual (defScope st) f cdv A outer s H E).nox (defBody st) τ t ∧ ∀ ts Q, C ts Q → t ⟨FinP Q (.t .non), FinP Q, fun _ => False, fun _ => False⟩ ⟨ts.map (fun t => some (W.t t)) ++ List.replicate (N.length - ts.length) none, []⟩) :
    FnOk P w K mg base CX0 (k + 1) f fd ps (sps K C.s) := by
  refine Fn.ok Sc (fun vs H Q E h => ?_) fun cdv A outer s H vs Q E hr h => ?_
  · obtain ⟨al, S, F, m0, ws, QC, _, d, ⟨ts, e, _, c⟩, _⟩ := h
    rw [← d.length, treesW_eq e, List.length_map]
    exact hlen _ _ c
  · obtain ⟨al, S, F, m0, ws, QC, M, d, ⟨ts, e, rfl, c⟩, q⟩ := h
    obtain ⟨τ, t, D, ht⟩ := hb cdv A outer s H E hr
    refine ⟨τ, D.pe, ?_⟩
    have hl : al.length = ([] : List Cell).length := by rw [M.len, List.length_map]
    have R := start_rep (N := N) M d
    have ew := treesW_eq e
    subst ew
    have hw : (ts.map W.t).map some = ts.map (fun t => some (W.t t)) := by rw [List.map_map]; rfl
    rw [hw, List.length_map] at R
    have q0 := ht ts _ c
    refine D.r al S F H _ _ _ _ R q0 ⟨fun al' S' H' σ' g' R' gr' q' => ?_, fun al' S' H' σ' g' v u R' gr' d' q' => ?_, fun _ _ _ _ _ _ _ z => z.elim, fun _ _ _ _ _ _ _ z => z.elim⟩
    · exact sps_fin (u := .t .non) (QC := QC) R' gr' hl (by unfold DenW Den; rfl) (finP_s (C := fun r => match r with | .t t => QC (.t t) [] [] | .f c => QC (.h 0) [] [c]) (fun r hr => hr) q') q
    · exact sps_fin (QC := QC) R' gr' hl d' (finP_s (C := fun r => match r with | .t t => QC (.t t) [] [] | .f c => QC (.h 0) [] [c]) (fun r hr => hr) q') q
end
end DL

namespace DL
open PySem PySem.Spec L2

section
variable {X : Cx} {a b e : Expr} {τa τb τe : TE} {ta tb te : Dt} {pos : Pos} {es : List Expr} {τs : TA} {ts : DAt}
def fNeg : F1 := fun g x Q => match x with | .t (.int i) => Q (.t (.int (-i))) g | _ => False
def fRep : F2 := fun g x y Q => match g.seqL? x, y with
  | some xs, .t (.int k) => (-(2 ^ 63) ≤ k ∧ k < 2 ^ 63 ∧ xs.length * k.toNat ≤ sizeLine) ∧ Q (.t (.lst (List.replicate k.toNat xs).flatten)) g
  | _, _ => False
theorem prep {α β : Type} {F : α → β → Prop} {xs : List α} {ys : List β} (p : Paired F xs ys) : ∀ n : Nat, Paired F (List.replicate n xs).flatten (List.replicate n ys).flatten
  | 0 => .nil
  | n + 1 => by
    rw [List.replicate_succ, List.replicate_succ, List.flatten_cons, List.flatten_cons]
    exact papp p (prep p n)
theorem op2_rep {K : PySem.W.Frag} : Op2 K rRep fRep := by
  intro al S F H σ g x y wx wy Q QV R dx dy q k
  unfold fRep at q
  split at q
  · rename_i xs z ex
    obtain ⟨a, vs, rfl, h1, h2⟩ := R.viewL dx ex
    unfold DenW Den at dy
    refine ⟨a, z, vs, rfl, dy, h1, q.1.1, q.1.2.1, by rw [← h2.length]; exact q.1.2.2, fun p np => ?_⟩
    obtain ⟨R1, gr, d⟩ := R.layL np (prep h2 z.toNat)
    exact k _ _ _ _ _ _ R1 gr d q.2
  · exact q.elim
theorem de_rep (ha : DE X a τa ta) (hb : DE X b τb tb) : DE X (.BinOp a .Mult b pos) (tOp rRep τa τb) (d2 fRep ta tb) := de_op op_rep op2_rep ha hb
/-- slices as new cells -/
def dSlH (t : Dt) (l u : DOt) : Dt := fun g Q => t g fun x g1 => l g1 fun lo g2 => u g2 fun hi g3 => match g3.lq? x with
  | some ts => Q (.h g3.mem.length) (g3.push (.lt (cut ts lo hi)))
  | none => False
/-- a written dict: a new cell -/
structure DP (X : Cx) (pos : Pos) (keys : List (Option Expr)) (values : List Expr) (trs : List (TE × TE)) (ts : List (Dt × Dt)) : Prop where
  pe : PPs X pos keys values trs
  r : ∀ (al : List Addr) (S F H : Hp) (σ : L2.St) (g : G) (Q : List (Key × T) → G → Prop) (QV : List (V × V) → Hp → Prop), Rep X.K al S F H σ g → (ts.foldr (fun (p : Dt × Dt) (r : G → (List (Key × T) → G → Prop) → Prop) => fun g Q => p.1 g fun w g1 => match w with | .t kt => (match keyT kt with | some k => p.2 g1 fun w2 g2 => (match w2 with | .t x => r g2 fun ps g3 => Q ((k, x) :: ps) g3 | _ => False) | none => False) | _ => False) (fun g Q => Q [] g)) g Q →
    (∀ al' S' H' g' ps (kvs : List (Key × V)), Rep X.K al' S' F H' σ g' → Grow al S al' S' → Paired (fun (p : Key × T) (q : Key × V) => p.1 = q.1 ∧ Den X.K S' p.2 q.2) ps kvs → Q ps g' → QV (kvs.map fun kv => (kV kv.1, kv.2)) H') → tPairs trs σ H QV
theorem dp_nil : DP X pos [] [] [] [] := ⟨pps_nil, fun al S F H σ g Q QV R q k => k al S H g [] [] R (Grow.refl _ _) .nil q⟩
theorem dp_cons {ks : List (Option Expr)} {vs : List Expr} {trs : List (TE × TE)} {us : List (Dt × Dt)} (ha : DE X a τa ta) (hb : DE X b τb tb) (hr : DP X pos ks vs trs us) : DP X pos (some a :: ks) (b :: vs) ((τa, τb) :: trs) ((ta, tb) :: us) := by
  refine ⟨pps_cons ha.pe hb.pe hr.pe, fun al S F H σ g Q QV R q k => ?_⟩
  rw [List.foldr_cons] at q
  refine ha.r al S F H σ g _ _ R q fun al1 S1 H1 g1 v1 w1 R1 gr1 e1 q1 => ?_
  split at q1
  · split at q1
    · rename_i kt key ek
      have ev := key_den ek e1
      subst ev
      refine hb.r al1 S1 F H1 σ g1 _ _ R1 q1 fun al2 S2 H2 g2 v2 w2 R2 gr2 e2 q2 => ?_
      split at q2
      · rename_i x
        refine hr.r al2 S2 F H2 σ g2 _ _ R2 q2 fun al3 S3 H3 g3 ps kvs R3 gr3 pr q3 => ?_
        have dx : Den X.K S3 x v2 := Den.mono gr3.s x v2 e2
        exact k al3 S3 H3 g3 _ ((key, v2) :: kvs) R3 (gr1.trans (gr2.trans gr3)) (.cons ⟨rfl, dx⟩ pr) q3
      · exact q2.elim
    · exact q1.elim
  · exact q1.elim
def mergeT (ps : List (Key × T)) (acc : List Key × List T) : List Key × List T := ps.foldl (fun acc p => (putKs acc.1 p.1, putXs acc.1 acc.2 p.1 p.2)) acc
def dDisp (us : List (Dt × Dt)) : Dt := fun g Q => (us.foldr (fun (p : Dt × Dt) (r : G → (List (Key × T) → G → Prop) → Prop) => fun g Q => p.1 g fun w g1 => match w with | .t kt => (match keyT kt with | some k => p.2 g1 fun w2 g2 => (match w2 with | .t x => r g2 fun ps g3 => Q ((k, x) :: ps) g3 | _ => False) | none => False) | _ => False) (fun g Q => Q [] g)) g fun ps g' =>
  ps.length ≤ 15 ∧ Q (.h g'.mem.length) (g'.push (.dt (mergeT ps ([], [])).1 (mergeT ps ([], [])).2))
theorem merge_zip {K : PySem.W.Frag} {S : Hp} : ∀ {ps : List (Key × T)} {kvs : List (Key × V)} {ks : List Key} {us : List T} {vs : List V}, Paired (fun (p : Key × T) (q : Key × V) => p.1 = q.1 ∧ Den K S p.2 q.2) ps kvs → ks.length = us.length → Paired (Den K S) us vs →
    ∃ vs', mergeK (ks.zip vs) kvs = (mergeT ps (ks, us)).1.zip vs' ∧ (mergeT ps (ks, us)).1.length = (mergeT ps (ks, us)).2.length ∧ Paired (Den K S) (mergeT ps (ks, us)).2 vs'
  | [], _, ks, us, vs, .nil, hl, p => ⟨vs, rfl, hl, p⟩
  | q :: ps, kv :: kvs, ks, us, vs, .cons ⟨h1, h2⟩ t, hl, p => by
    obtain ⟨k1, x⟩ := q
    obtain ⟨k2, v⟩ := kv
    cases h1
    have hv : ks.length = vs.length := by rw [hl, p.length]
    have ih := merge_zip (ks := putKs ks k1) (us := putXs ks us k1 x) (vs := putXs ks vs k1 v) t (putX_len hl) (putX_pair h2 p)
    unfold mergeK at ih ⊢
    rw [List.foldl_cons]
    dsimp only
    rw [putK_zip hv]
    exact ih
theorem de_disp {keys : List (Option Expr)} {values : List Expr} {trs : List (TE × TE)} {us : List (Dt × Dt)} (h : DP X pos keys values trs us) (hall : keys.all (·.isSome) = true) (hl : keys.length = values.length) (h0 : keys ≠ [])
    (h15 : keys.length ≤ 15) : DE X (.Dict keys values pos) (tDisp trs) (dDisp us) := by
  refine ⟨pe_disp h.pe hall hl h0 h15, fun al S F H σ g Q QV R q k => fun p np => ?_⟩
  have nF : F p = none := R.fr.free np
  have R1 : Rep X.K al S (upd F p (.dK [])) (upd H p (.dK [])) σ g := ⟨R.toRepM.frNew np, R.slen, R.slot⟩
  refine h.r al S _ _ σ g _ _ R1 q fun al1 S1 H1 g1 ps kvs R2 gr2 pr q2 => ?_
  have eD : H1 p = some (.dK []) := R2.fr _ _ upd_same
  refine ⟨eD, kvs, rfl, by rw [← pr.length]; exact q2.1, ?_⟩
  obtain ⟨vs', h1, h2, h3⟩ := merge_zip (ks := []) (us := []) (vs := []) pr rfl .nil
  have h1 : mergeK [] kvs = (mergeT ps ([], [])).1.zip vs' := h1
  rw [h1]
  have R3 := R2.toRepM.frPut (o' := .dK ((mergeT ps ([], [])).1.zip vs'))
  obtain ⟨M, gr3⟩ := R3.frC (c := .dt (mergeT ps ([], [])).1 (mergeT ps ([], [])).2) nF ⟨vs', rfl, h2, h3⟩
  refine k _ _ _ _ _ (.h g1.mem.length) (R2.withM2 gr3 M) (gr2.trans gr3) ⟨p, ?_, rfl⟩ q2.2
  rw [List.getElem?_append_right (by rw [R2.len]; exact Nat.le_refl _), R2.len]; simp
/-- a, b = x, y -/
def dPar (i j : Nat) (t : DAt) : DSt := fun D g => t g fun ws g1 => match ws with | [u, v] => D.nx ((g1.set i u).set j v) | _ => False
theorem ds_par (i j : Nat) {x y : Str} {px py pt : Pos} {kt k2 pt2} (hN : X.N.Nodup) (ha : DA X [a, b] τs ts) (hc : X.calm = true := by rfl) (hi : X.N[i]? = some x := by rfl) (hj : X.N[j]? = some y := by rfl) (hij : i ≠ j := by decide)
    (hx : X.env.scope.names.lookup x = some .local := by rfl) (hy : X.env.scope.names.lookup y = some .local := by rfl)
    (hw : swappedStores [.Tuple [.Name x px, .Name y py] kt pt] (.Tuple [a, b] k2 pt2) X.env = pure (some [x, y]) := by rfl)
    (hs : swapsWithSole [.Tuple [.Name x px, .Name y py] kt pt] (.Tuple [a, b] k2 pt2) pos.line X.env = pure false := by rfl) :
    DS X (.Assign [.Tuple [.Name x px, .Name y py] kt pt] (.Tuple [a, b] k2 pt2) pos) (tPar i j τs) (dPar i j ts) := by
  refine ⟨ps_par hc hN hi hj hij hx hy ha.pe hw hs, fun al S F H σ g D DV R q k => ?_⟩
  refine ha.r al S F H σ g _ _ R q fun al1 S1 H1 g1 vs ws R1 gr1 e1 q1 => ?_
  unfold dPar at q
  split at q1
  · rename_i u v
    obtain ⟨vu, vv, rfl, d1, d2⟩ := p2 e1
    exact ⟨vu, vv, rfl, k.nx _ _ _ _ _ ((R1.setSlot d1).setSlot d2) gr1 q1⟩
  · exact q1.elim
/-- d[k] += e, ints -/
def dDaug (f : Int → Int → Int) (td ty tv : Dt) : DSt := fun D g => td g fun o g1 => ty g1 fun y g2 => match o, y with
  | .h n, .t ky => (match keyT ky with
    | some k => (match g2.mem[n]? with
      | some (some (.dt ks ts)) => (match look ks ts k with
        | some (.int z) => tv g2 fun w g3 => (match w with | .t (.int d) => g3.mem[n]? = some (some (.dt ks ts)) ∧ ks.length < sizeLine ∧ D.nx (g3.put n (.dt (putKs ks k) (putXs ks ts k (.int (f z d))))) | _ => False)
        | _ => False)
      | _ => False)
    | none => False)
  | _, _ => False
theorem ds_daug {o i : Expr} {τd τy : TE} {td ty : Dt} {tpos : Pos} {op : Operator} {f : Int → Int → Int} {rd : V → V → Hp → VK → Prop} {kk : Nat} (hr : Room kk X.A) (hop : InOp X op (fun x y H Q => ∃ i j, x = .int i ∧ y = .int j ∧ Q (.int (f i j)) H)) (ho : DE X o τd td) (hi : DE X i τy ty) (hv : DE X e τe te)
    (ha : ∀ ov iv new, augStore i ov iv new = (do holding [new, ov, iv] (setItem ov iv new); release [new, ov, iv] []; pure .next) := by intros; rfl) :
    DS X (.AugAssign (.Subscript o i tpos) op e pos) (sDAug τd τy τe (fun x y H Q => ∃ i j, x = .int i ∧ y = .int j ∧ Q (.int (f i j)) H)) (dDaug f td ty te) := by
  refine ⟨ps_daug (hu_of hr) ho.pe hi.pe hv.pe hop ha, fun al S F H σ g D DV R q k => ?_⟩
  refine ho.r al S F H σ g _ _ R q fun al1 S1 H1 g1 v1 w1 R1 gr1 e1 q1 => ?_
  refine hi.r al1 S1 F H1 σ g1 _ _ R1 q1 fun al2 S2 H2 g2 v2 w2 R2 gr2 e2 q2 => ?_
  split at q2
  · rename_i n ky
    split at q2
    · rename_i key ek
      have ev := key_den ek e2
      subst ev
      split at q2
      · rename_i ks ts em
        split at q2
        · rename_i z ez
          obtain ⟨p, o, rfl, ea, h1, vs, rfl, h2, h3⟩ := R2.cellH (e1.grow gr2) em
          obtain ⟨v, h4, h5⟩ := look_some h3 ez
          unfold Den at h5
          subst h5
          refine ⟨p, .int z, rfl, ?_, ?_⟩
          · rw [← h4]; exact DGet.k h1
          · refine hv.r al2 S2 F H2 σ g2 _ _ R2 q2 fun al3 S3 H3 g3 v3 w3 R3 gr3 e3 q3 => ?_
            split at q3
            · rename_i d
              unfold DenW Den at e3
              obtain ⟨em3, hz, q3⟩ := q3
              obtain ⟨p', o', ep, ea', h1', vs', rfl, h2', h3'⟩ := R3.cellH (e1.grow (gr2.trans gr3)) em3
              cases ep
              have hl : ks.length = vs'.length := by rw [h2', h3'.length]
              refine ⟨z, d, rfl, e3, _, DPut.k h1' (by rw [List.length_zip, ← hl, Nat.min_self]; exact hz), ?_⟩
              rw [putK_zip hl]
              exact k.nx _ _ _ _ _ (R3.putC (c := .dt (putKs ks key) (putXs ks ts key (.int (f z d)))) em3 ea' ⟨_, rfl, putX_len h2', putX_pair (denI _) h3'⟩) (gr1.trans (gr2.trans gr3)) q3
            · exact q3.elim
        · exact q2.elim
      · exact q2.elim
    · exact q2.elim
  · exact q2.elim
/-- a, b = a list -/
def dgList (n : Nat) (t : DGst) : DGt := fun w g Q => match g.lq? w with | some ts => ts.length = n ∧ t ts g Q | none => False
end
/-! what stands in the module -/
structure Bi (mg : Str → Option Value) : Prop where
  h_len : mg "len" = none
  h_range : mg "range" = none
  h_sum : mg "sum" = none
  h_min : mg "min" = none
  h_max : mg "max" = none
  h_all : mg "all" = none
  h_any : mg "any" = none
  h_abs : mg "abs" = none
  h_isinstance : mg "isinstance" = none
  h_int : mg "int" = none
  h_bool : mg "bool" = none
  h_list : mg "list" = none
  h_tuple : mg "tuple" = none
  h_str : mg "str" = none
  h_dict : mg "dict" = none
  h_sorted : mg "sorted" = none
  h_zip : mg "zip" = none
  h_enumerate : mg "enumerate" = none
structure Ow (K : PySem.W.Frag) (mg : Str → Option Value) (x : Str) (st : Stmt) (ps : List Str) : Prop where
  ex : ∃ f fd, Fun K x x st f fd ∧ mg x = some (.ref f) ∧ Binds K fd ps []
structure Kn (P : Program) (w : World) (K : PySem.W.Frag) (mg : Str → Option Value) (base : Heap) (k : Nat) (x : Str) (ps : List Str) (C : SC) : Prop where
  ex : ∃ f fd, FnOk P w K mg base CX0 k f fd ps (sps K C) ∧ mg x = some (.ref f) ∧ PySem.W.keepIn K (.ref f) = true ∧ Binds K fd ps []
theorem Kn.mono {P : Program} {w : World} {K : PySem.W.Frag} {mg : Str → Option Value} {base : Heap} {j k : Nat} {x : Str} {ps : List Str} {C : SC} (h : Kn P w K mg base j x ps C) (hk : j ≤ k) : Kn P w K mg base k x ps C := by
  obtain ⟨f, fd, a, b, c, d⟩ := h.ex
  exact ⟨f, fd, a.mono hk, b, c, d⟩
end DL

namespace DL
open PySem PySem.Spec L2
section
variable {X : Cx} {a b e : Expr} {τa τb τe : TE} {ta tb te : Dt} {pos : Pos}
/-- x + y, lists into a new cell -/
def fCatH : F2 := fun g x y Q => match g.seqL? x, g.seqL? y with
  | some xs, some ys => xs.length + ys.length ≤ sizeLine ∧ Q (.h g.mem.length) (g.push (.lt (xs ++ ys)))
  | _, _ => False
theorem op2_catH {K : PySem.W.Frag} : Op2 K rCat fCatH := by
  intro al S F H σ g x y wx wy Q QV R dx dy q k
  unfold fCatH at q
  split at q
  · rename_i xs ys ex ey
    obtain ⟨a, vs, rfl, h1, h2⟩ := R.viewL dx ex
    obtain ⟨b, us, rfl, h3, h4⟩ := R.viewL dy ey
    refine ⟨a, b, vs, us, rfl, rfl, h1, h3, by rw [← h2.length, ← h4.length]; exact q.1, fun p np => ?_⟩
    obtain ⟨R1, gr, d⟩ := R.pushC (c := .lt (xs ++ ys)) (o := .lst (vs ++ us)) np ⟨_, rfl, papp h2 h4⟩
    exact k _ _ _ _ _ _ R1 gr d q.2
  · exact q.elim
def fAddH : F2 := fun g x y Q => match x with
  | .t (.int _) => fI0 (fun i j => .int (i + j)) g x y Q
  | .t (.str _) => fAddS g x y Q
  | _ => fCatH g x y Q
theorem de_addH (ha : DE X a τa ta) (hb : DE X b τb tb) : DE X (.BinOp a .Add b pos) (tOp rAddA τa τb) (d2 fAddH ta tb) :=
  de_op (op_add.or (op_cat.or op_add_str)) (((op2_I0 fun _ _ _ => denI _).or (op2_catH.or op2_addS)).imp fun g x y Q h => by
    unfold fAddH at h
    split at h
    · exact .inl h
    · exact .inr (.inr h)
    · exact .inr (.inl h)) ha hb
end
/-! readings of loops, in common forms -/
/-- a comprehension whose parts change nothing -/
theorem lcP {g1 : G} {gt : DGt} {tt : DTt} {te : Dt} {vs : List Nat} {fin : Fin3} {Q : W → G → Prop} {ws : List W} {St : G → Prop} {ι : Type} (items : List ι) (enc : ι → W) (keep : ι → Bool) (out : ι → T) (hws : ws = items.map enc) (hlen : items.length ≤ sizeLine) (hSt : St (g1.wipe vs))
    (hel : ∀ x ∈ items, ∀ (Y : W → G → Prop) (N : G → Prop), (keep x = true → ∀ g4, g4.wipe vs = g1.wipe vs → Y (.t (out x)) g4) → (keep x = false → ∀ g3, g3.wipe vs = g1.wipe vs → N g3) → gt (enc x) (g1.wipe vs) fun g2 => tt g2 fun b g3 => if b = true then te g3 Y else N g3)
    (hw : (g1.wipe vs).wipe vs = g1.wipe vs) (hQ : fin (((items.filter keep).map out).map W.t) ((g1.wipe vs).rs g1 vs) Q) :
    ∃ I : Nat → List W → G → Prop, I 0 [] (g1.wipe vs) ∧ (∀ i acc g', I i acc g' → St g' ∧ acc.length ≤ i) ∧
      (∀ i acc w g', ws[i]? = some w → I i acc g' → gt w g' fun g2 => tt g2 fun b g3 => if b = true then te g3 fun y g4 => I (i + 1) (acc ++ [y]) (g4.wipe vs) else I (i + 1) acc (g3.wipe vs)) ∧
      ws.length ≤ sizeLine ∧ (∀ acc g', I ws.length acc g' → fin acc (g'.rs g1 vs) Q) := by
  subst hws
  refine ⟨fun i acc g' => acc = ((((items.take i).filter keep).map out).map W.t) ∧ g' = g1.wipe vs, ⟨rfl, rfl⟩, ?_, ?_, by simpa using hlen, ?_⟩
  · rintro i acc g' ⟨rfl, rfl⟩
    refine ⟨hSt, ?_⟩
    rw [List.length_map, List.length_map]
    exact Nat.le_trans (List.length_filter_le _ _) (by rw [List.length_take]; exact Nat.min_le_left _ _)
  · rintro i acc w g' hw' ⟨rfl, rfl⟩
    rw [List.getElem?_map] at hw'
    cases e : items[i]? with
    | none => rw [e] at hw'; cases hw'
    | some x =>
      rw [e] at hw'
      cases hw'
      refine hel x (List.mem_of_getElem? e) _ _ (fun hk g4 h4 => ⟨?_, h4⟩) (fun hk g3 h3 => ⟨?_, h3⟩)
      · rw [List.take_add_one, e, List.filter_append, List.map_append, List.map_append]
        simp [hk]
      · rw [List.take_add_one, e, List.filter_append, List.map_append, List.map_append]
        simp [hk]
  · rintro acc g' ⟨rfl, rfl⟩
    rw [List.length_map, List.take_length]
    exact hQ
/-- a loop that goes through all its turns -/
theorem forP {D : De} {g1 : G} {gt : DGt} {tb : DSt} {ws : List W} {St : G → Prop} {ι β : Type} (items : List ι) (enc : ι → W) (step : β → ι → β) (R : β → G → Prop) (b0 : β) (hws : ws = items.map enc) (h0 : R b0 g1) (hSt : ∀ b g, R b g → St g)
    (hstep : ∀ pre x post, items = pre ++ x :: post → ∀ g', R (pre.foldl step b0) g' → ∀ N : G → Prop, (∀ g'', R (step (pre.foldl step b0) x) g'' → N g'') → gt (enc x) g' fun g2 => tb { D with nx := N, ct := N, bk := D.nx } g2)
    (hQ : ∀ g', R (items.foldl step b0) g' → D.nx g') :
    ∃ I : Nat → G → Prop, I 0 g1 ∧ (∀ i g', I i g' → St g') ∧ (∀ i w g', ws[i]? = some w → I i g' → gt w g' fun g2 => tb { D with nx := I (i + 1), ct := I (i + 1), bk := D.nx } g2) ∧ (∀ g', I ws.length g' → D.nx g') := by
  subst hws
  refine ⟨fun i g' => R ((items.take i).foldl step b0) g', h0, fun i g' h => hSt _ _ h, fun i w g' hw h => ?_, fun g' h => ?_⟩
  · rw [List.getElem?_map] at hw
    cases e : items[i]? with
    | none => rw [e] at hw; cases hw
    | some x =>
      rw [e] at hw
      cases hw
      have hi : i < items.length := (List.getElem?_eq_some_iff.mp e).1
      have hx : items[i] = x := (List.getElem?_eq_some_iff.mp e).2
      have hsp : items = items.take i ++ x :: items.drop (i + 1) := by
        rw [← hx, List.getElem_cons_drop, List.take_append_drop]
      refine hstep _ x _ hsp g' h _ fun g'' h'' => ?_
      show R (List.foldl step b0 (List.take (i + 1) items)) g''
      rw [List.take_add_one, e, List.foldl_append]
      exact h''
  · rw [List.length_map, List.take_length] at h
    exact hQ g' h
theorem rgW_map (lo : Int) (n : Nat) : rgW lo n = (List.range n).map fun k => W.t (.int (lo + (k : Nat))) := rfl
theorem rgW0 (n : Nat) : rgW 0 n = (List.range n).map fun k => W.t (.int (k : Nat)) := by
  unfold rgW
  congr 1
  funext k
  rw [Int.zero_add]
/-- places in lists -/
theorem atI_lt {α : Type} {xs : List α} {j : Nat} (h : j < xs.length) : atI xs (j : Int) = some xs[j] := atI_nat (List.getElem?_eq_getElem h)
theorem atI_map {α β : Type} (f : α → β) {xs : List α} {i : Int} {x : α} (h : atI xs i = some x) : atI (xs.map f) i = some (f x) := by
  unfold atI at h ⊢
  rw [List.length_map]
  cases e : ixN xs.length i with
  | none => rw [e] at h; cases h
  | some j =>
    rw [e] at h
    have h : xs[j]? = some x := h
    show (xs.map f)[j]? = some (f x)
    rw [List.getElem?_map, h]
    rfl
theorem atI_getD {α : Type} (d : α) {xs : List α} {j : Nat} (h : j < xs.length) : atI xs (j : Int) = some (xs.getD j d) := by
  rw [atI_lt h, List.getD_eq_getElem?_getD, List.getElem?_eq_getElem h]
  rfl
theorem lineLe {n : Nat} (h : n ≤ 10000) : n ≤ sizeLine := Nat.le_trans h (by rw [sizeLine_eq]; decide)
theorem lineLt {n : Nat} (h : n ≤ 10000) : n < sizeLine := Nat.lt_of_le_of_lt h (by rw [sizeLine_eq]; decide)
end DL

namespace DL
open PySem PySem.Spec L2
/-! what a value must be -/
def onB (w : W) (P : Bool → Prop) : Prop := match w with | .t (.bl b) => P b | _ => False
def onI (w : W) (P : Int → Prop) : Prop := match w with | .t (.int b) => P b | _ => False
def onTs (ws : List W) (P : List T → Prop) : Prop := match treesW ws with | some us => P us | none => False
def onT (r : R0) (P : T → Prop) : Prop := match r with | .t t => P t | .f c => (match c.tree with | some t => P t | none => False)
def onH (g : G) (r : R0) (Q : W → G → Prop) : Prop := match r with | .t t => Q (.t t) g | .f c => c.plain = true ∧ Q (.h g.mem.length) (g.push c)
def onI1 (ws : List W) (P : Int → Prop) : Prop := match ws with | [.t (.int j)] => P j | _ => False
def onI2 (ws : List W) (P : Int → Int → Prop) : Prop := match ws with | [.t (.int i), .t (.int j)] => P i j | _ => False
def onW2 (ws : List W) (P : W → W → Prop) : Prop := match ws with | [u, v] => P u v | _ => False
def onLq (g : G) (w : W) (P : List W → (G → Prop) → Prop) : Prop := match g.lq? w with
  | some ts => P (ts.map W.t) (fun g' => g'.lq? w = some ts)
  | none => (match g.wseq? w with | some ws => P ws (fun g' => g'.wseq? w = some ws) | none => False)
theorem o_B {b : Bool} {P : Bool → Prop} (h : P b) : onB (.t (.bl b)) P := h
theorem o_I {b : Int} {P : Int → Prop} (h : P b) : onI (.t (.int b)) P := h
theorem o_Ts {ws : List W} {us : List T} {P : List T → Prop} (e : treesW ws = some us) (h : P us) : onTs ws P := by unfold onTs; rw [e]; exact h
theorem o_T {t : T} {P : T → Prop} (h : P t) : onT (.t t) P := h
theorem o_H {t : T} {g : G} {Q : W → G → Prop} (h : Q (.t t) g) : onH g (.t t) Q := h
theorem o_I1 {j : Int} {P : Int → Prop} (h : P j) : onI1 [.t (.int j)] P := h
theorem o_I2 {i j : Int} {P : Int → Int → Prop} (h : P i j) : onI2 [.t (.int i), .t (.int j)] P := h
theorem o_W2 {u v : W} {P : W → W → Prop} (h : P u v) : onW2 [u, v] P := h
theorem o_Lq {g : G} {w : W} {us : List T} {P : List W → (G → Prop) → Prop} (e : g.lq? w = some us) (h : P (us.map W.t) (fun g' => g'.lq? w = some us)) : onLq g w P := by unfold onLq; rw [e]; exact h
section
variable {g : G} {Q : W → G → Prop} {D : De} {ta tb te : Dt} {t u : DSt} {tt tu : DTt} {ts : DAt}
/-! readings, step by step -/
theorem i_seq (h : t { D with nx := u D } g) : dSeq t u D g := h
theorem i_next (h : D.nx g) : dNext D g := h
theorem i_asg {tg : DGt} (h : te g fun w g1 => tg w g1 D.nx) : dAsg te tg D g := h
theorem i_gN {i : Nat} {w : W} {P : G → Prop} (h : P (g.set i w)) : dgN i w g P := h
theorem i_gList {n : Nat} {w : W} {us : List T} {t : DGst} {P : G → Prop} (hv : g.lq? w = some us) (hn : us.length = n) (h : t us g P) : dgList n t w g P := by
  unfold dgList; rw [hv]; exact ⟨hn, h⟩
theorem i_gNil {P : G → Prop} (h : P g) : dgNil [] g P := h
theorem i_gCons {t : DGt} {us : DGst} {w : T} {r : List T} {P : G → Prop} (h : t (.t w) g fun g1 => us r g1 P) : dgCons t us (w :: r) g P := h
theorem i_ret (h : te g D.rt) : dRet te D g := h
theorem i_retN (h : D.rt (.t .non) g) : dRetN D g := h
theorem i_drop (h : te g fun _ g1 => D.nx g1) : dDrop te D g := h
theorem i_ifS (h : tt g fun b g1 => if b = true then t D g1 else u D g1) : dIfS tt t u D g := h
theorem i_if (h : tt g fun b g1 => if b = true then ta g1 Q else tb g1 Q) : dIf tt ta tb g Q := h
theorem i_B {P : Bool → G → Prop} (h : te g fun w g' => onB w fun b => P b g') : dB te g P := h
theorem i_not {P : Bool → G → Prop} (h : tt g fun c g' => P (!c) g') : dNot tt g P := h
theorem i_and {P : Bool → G → Prop} (h : tt g fun c g1 => if c = true then tu g1 P else P false g1) : dAnd tt tu g P := h
theorem i_or {P : Bool → G → Prop} (h : tt g fun c g1 => if c = true then P true g1 else tu g1 P) : dOr tt tu g P := h
theorem i_andV (h : ta g fun w g1 => onB w fun c => if c = true then tb g1 Q else Q (.t (.bl false)) g1) : dAndV ta tb g Q := h
theorem i_orV (h : ta g fun w g1 => onB w fun c => if c = true then Q (.t (.bl true)) g1 else tb g1 Q) : dOrV ta tb g Q := h
theorem i_notV (h : ta g fun w g1 => onB w fun c => Q (.t (.bl (!c))) g1) : dNotV ta g Q := h
theorem i_yes {P : Bool → G → Prop} (h : P true g) : dYes g P := h
theorem i_break (h : D.bk g) : dBreak D g := h
theorem i_cont (h : D.ct g) : dCont D g := h
theorem i_var {i : Nat} {w : W} (e : g.sl[i]? = some (some w)) (h : Q w g) : dVar i g Q := by unfold dVar; rw [e]; exact h
theorem i_frzT {i : Nat} {x : T} (e : g.sl[i]? = some (some (.t x))) (h : Q (.t x) g) : dFrz i g Q := by unfold dFrz; rw [e]; exact h
theorem i_frzH {i n : Nat} {c : Cell} {x : T} (e : g.sl[i]? = some (some (.h n))) (em : g.mem[n]? = some (some c)) (et : c.tree = some x) (h : Q (.t x) (g.frz n x)) : dFrz i g Q := by
  unfold dFrz; rw [e]; dsimp only; rw [em]; dsimp only; rw [et]; exact h
theorem i_c {x : T} (h : Q (.t x) g) : dC x g Q := h
theorem i_d2 {f : F2} (h : ta g fun x g1 => tb g1 fun y g2 => f g2 x y Q) : d2 f ta tb g Q := h
theorem i_d1 {f : F1} (h : ta g fun x g1 => f g1 x Q) : d1 f ta g Q := h
theorem i_dN {f : FN} (h : ts g fun xs g1 => f g1 xs Q) : dN f ts g Q := h
theorem i_nil {P : List W → G → Prop} (h : P [] g) : dNil g P := h
theorem i_cons {P : List W → G → Prop} (h : te g fun w g1 => ts g1 fun ws g2 => P (w :: ws) g2) : dCons te ts g P := h
theorem i_fI0 {f : Int → Int → T} {i j : Int} (h : Q (.t (f i j)) g) : fI0 f g (.t (.int i)) (.t (.int j)) Q := h
theorem i_fI {C : Int → Int → Prop} {f : Int → Int → T} {i j : Int} (hc : C i j) (h : Q (.t (f i j)) g) : fI C f g (.t (.int i)) (.t (.int j)) Q := ⟨hc, h⟩
theorem i_addI {i j : Int} (h : Q (.t (.int (i + j))) g) : fAdd g (.t (.int i)) (.t (.int j)) Q := h
theorem i_addHI {i j : Int} (h : Q (.t (.int (i + j))) g) : fAddH g (.t (.int i)) (.t (.int j)) Q := h
theorem i_addL {x y : W} {xs ys : List T} (e1 : g.seqL? x = some xs) (e2 : g.seqL? y = some ys) (hl : xs.length + ys.length ≤ sizeLine) (h : Q (.t (.lst (xs ++ ys))) g) : fAdd g x y Q := by
  unfold fAdd
  split
  · unfold G.seqL? G.cell? at e1; cases e1
  · unfold G.seqL? G.cell? at e1; cases e1
  · unfold fCat; rw [e1, e2]; exact ⟨hl, h⟩
theorem i_addHL {x y : W} {xs ys : List T} (e1 : g.seqL? x = some xs) (e2 : g.seqL? y = some ys) (hl : xs.length + ys.length ≤ sizeLine) (h : Q (.h g.mem.length) (g.push (.lt (xs ++ ys)))) : fAddH g x y Q := by
  unfold fAddH
  split
  · unfold G.seqL? G.cell? at e1; cases e1
  · unfold G.seqL? G.cell? at e1; cases e1
  · unfold fCatH; rw [e1, e2]; exact ⟨hl, h⟩
theorem i_rep {x : W} {xs : List T} {k : Int} (e1 : g.seqL? x = some xs) (hl : -(2 ^ 63) ≤ k ∧ k < 2 ^ 63 ∧ xs.length * k.toNat ≤ sizeLine) (h : Q (.t (.lst (List.replicate k.toNat xs).flatten)) g) : fRep g x (.t (.int k)) Q := by
  unfold fRep; rw [e1]; exact ⟨hl, h⟩
theorem i_neg {i : Int} (h : Q (.t (.int (-i))) g) : fNeg g (.t (.int i)) Q := h
theorem i_ix {x : W} {us : List T} {i : Int} {v : T} (e : g.seq? x = some us) (hv : atI us i = some v) (h : Q (.t v) g) : fIx g x (.t (.int i)) Q := by
  unfold fIx; dsimp only; rw [e]; exact ⟨v, hv, h⟩
theorem i_ixW {x : W} {us : List W} {i : Int} {v : W} (e0 : g.seq? x = none) (e : g.wseq? x = some us) (hv : atI us i = some v) (h : Q v g) : fIx g x (.t (.int i)) Q := by
  unfold fIx; dsimp only; rw [e0]; dsimp only; rw [e]; exact ⟨v, hv, h⟩
theorem i_eqI {i j : Int} (h : Q (.t (.bl (decide (i = j)))) g) : fEq false g (.t (.int i)) (.t (.int j)) Q := h
theorem i_neI {i j : Int} (h : Q (.t (.bl (!decide (i = j)))) g) : fEq true g (.t (.int i)) (.t (.int j)) Q := h
theorem i_eqT {x y : W} {u v : T} (e1 : g.tree? x = some u) (e2 : g.tree? y = some v) (h1 : u.sh 8 = true) (h2 : v.sh 8 = true) (h : Q (.t (.bl (teq u v))) g) : fEq false g x y Q := by
  unfold fEq
  split
  · cases e1; cases e2
    rename_i i j
    have : teq (.int i) (.int j) = decide (i = j) := by unfold teq; simp only [T.pd, PyData.eqv]; rw [Bool.beq_eq_decide_eq]
    rw [this] at h; exact h
  · cases e1; cases e2
    rename_i i j
    have : teq (.str i) (.str j) = decide (i = j) := by unfold teq; simp only [T.pd, PyData.eqv]; rw [Bool.beq_eq_decide_eq]
    rw [this] at h; exact h
  · rw [e1, e2]; exact ⟨h1, h2, h⟩
theorem i_neT {x y : W} {u v : T} (e1 : g.tree? x = some u) (e2 : g.tree? y = some v) (h1 : u.sh 8 = true) (h2 : v.sh 8 = true) (h : Q (.t (.bl (!teq u v))) g) : fEq true g x y Q := by
  unfold fEq
  split
  · cases e1; cases e2
    rename_i i j
    have : teq (.int i) (.int j) = decide (i = j) := by unfold teq; simp only [T.pd, PyData.eqv]; rw [Bool.beq_eq_decide_eq]
    rw [this] at h; exact h
  · cases e1; cases e2
    rename_i i j
    have : teq (.str i) (.str j) = decide (i = j) := by unfold teq; simp only [T.pd, PyData.eqv]; rw [Bool.beq_eq_decide_eq]
    rw [this] at h; exact h
  · rw [e1, e2]; exact ⟨h1, h2, h⟩
theorem i_in {x : T} {y : W} {us : List T} (e : g.seq? y = some us) (h1 : x.flat.isSome = true) (h2 : ∀ t ∈ us, t.flat.isSome = true) (h : Q (.t (.bl (inT x us))) g) : fIn false g (.t x) y Q := by
  unfold fIn; dsimp only; rw [e]; exact ⟨h1, h2, h⟩
theorem i_notIn {x : T} {y : W} {us : List T} (e : g.seq? y = some us) (h1 : x.flat.isSome = true) (h2 : ∀ t ∈ us, t.flat.isSome = true) (h : Q (.t (.bl (!inT x us))) g) : fIn true g (.t x) y Q := by
  unfold fIn; dsimp only; rw [e]; exact ⟨h1, h2, h⟩
theorem i_din {x : T} {y : W} {k : Key} {ks : List Key} {us : List T} (ek : keyT x = some k) (e : g.dct? y = some (ks, us)) (h : Q (.t (.bl (look ks us k).isSome)) g) : fDin false g (.t x) y Q := by
  unfold fDin; dsimp only; rw [ek]; dsimp only; rw [e]; exact h
theorem i_dnotin {x : T} {y : W} {k : Key} {ks : List Key} {us : List T} (ek : keyT x = some k) (e : g.dct? y = some (ks, us)) (h : Q (.t (.bl (!(look ks us k).isSome))) g) : fDin true g (.t x) y Q := by
  unfold fDin; dsimp only; rw [ek]; dsimp only; rw [e]; exact h
theorem i_get {x : W} {y v : T} {k : Key} {ks : List Key} {us : List T} (ek : keyT y = some k) (e : g.dct? x = some (ks, us)) (hv : look ks us k = some v) (h : Q (.t v) g) : fGet g x (.t y) Q := by
  unfold fGet; dsimp only; rw [ek]; dsimp only; rw [e]; dsimp only; rw [hv]; exact h
theorem i_len {w : W} {n : Nat} (e : g.len? w = some n) (h : Q (.t (.int n)) g) : fLen g [w] Q := by
  unfold fLen; dsimp only; rw [e]; exact h
theorem i_sum {w : W} {ns : List Int} (e : g.lq? w = some (ns.map T.int)) (h : Q (.t (.int ns.sum)) g) : fSum g [w] Q := ⟨ns, e, h⟩
theorem i_min2 {i j : Int} (h : Q (.t (.int (if j < i then j else i))) g) : fMin g [.t (.int i), .t (.int j)] Q := h
theorem i_max2 {i j : Int} (h : Q (.t (.int (if j > i then j else i))) g) : fMax g [.t (.int i), .t (.int j)] Q := h
theorem i_min {w : W} {ns : List Int} (e : g.lq? w = some (ns.map T.int)) (h0 : 0 < ns.length) (h : ∀ m, m ∈ ns → (∀ y, y ∈ ns → m ≤ y) → Q (.t (.int m)) g) : fMin g [w] Q := by
  unfold fMin
  split
  · rename_i heq; cases heq
  · rename_i w' heq
    cases heq
    exact ⟨ns, e, h0, h⟩
  · rename_i h2
    exact absurd rfl (h2 w)
theorem i_max {w : W} {ns : List Int} (e : g.lq? w = some (ns.map T.int)) (h0 : 0 < ns.length) (h : ∀ m, m ∈ ns → (∀ y, y ∈ ns → y ≤ m) → Q (.t (.int m)) g) : fMax g [w] Q := by
  unfold fMax
  split
  · rename_i heq; cases heq
  · rename_i w' heq
    cases heq
    exact ⟨ns, e, h0, h⟩
  · rename_i h2
    exact absurd rfl (h2 w)
theorem i_intI {i : Int} (h : Q (.t (.int i)) g) : fInt g [.t (.int i)] Q := h
theorem i_intB {b : Bool} (h : Q (.t (.int (if b then 1 else 0))) g) : fInt g [.t (.bl b)] Q := h
theorem i_isi {w : W} {c a : String} {b : Bool} (e : g.tyN w = some a) (eb : kitB a c = some b) (h : Q (.t (.bl b)) g) : fIsi g [w, .t (.raw (.ty c))] Q := by
  unfold fIsi; dsimp only; rw [e]; dsimp only; rw [eb]; exact h
theorem i_listOf {w : W} {us : List T} (e : g.seq? w = some us) (h : Q (.t (.lst us)) g) : fListOf g [w] Q := by unfold fListOf; dsimp only; rw [e]; exact h
theorem i_listOfH {w : W} {us : List T} (e : g.seq? w = some us) (h : Q (.h g.mem.length) (g.push (.lt us))) : fListOfH g [w] Q := by unfold fListOfH; dsimp only; rw [e]; exact h
theorem i_tupOf {w : W} {us : List T} (e : g.lq? w = some us) (h : Q (.t (.tup us)) g) : fTupOf g [w] Q := by unfold fTupOf; dsimp only; rw [e]; exact h
theorem i_R1 {P : Int → Int → G → Prop} (h : te g fun w g' => onI w fun n => P 0 n g') : dR1 te g P := h
theorem i_listRg {tr : G → (Int → Int → G → Prop) → Prop} (h : tr g fun i j g' => RgOk i j ∧ Q (.t (.lst (rgT i j))) g') : dLstRg tr g Q := h
theorem i_listRgH {tr : G → (Int → Int → G → Prop) → Prop} (h : tr g fun i j g' => RgOk i j ∧ Q (.h g'.mem.length) (g'.push (.lt (rgT i j)))) : dLstRgH tr g Q := h
theorem i_tup (h : ts g fun ws g1 => onTs ws fun us => ws.length ≤ sizeLine ∧ Q (.t (.tup us)) g1) : dTup ts g Q := h
theorem i_lst (h : ts g fun ws g1 => onTs ws fun us => ws.length ≤ sizeLine ∧ Q (.t (.lst us)) g1) : dLst ts g Q := h
theorem i_lstH (h : ts g fun ws g1 => onTs ws fun us => ws.length ≤ sizeLine ∧ Q (.h g1.mem.length) (g1.push (.lt us))) : dLstH ts g Q := h
theorem i_lstW (h : ts g fun ws g1 => ws.length ≤ sizeLine ∧ Q (.h g1.mem.length) (g1.push (.lw ws))) : dLstW ts g Q := h
def onCut (g : G) (x : W) (lo hi : Option Int) (Q : W → G → Prop) : Prop := match g.seq? x with
  | some ts => (match x with | .t (.tup _) => False | _ => Q (.t (.lst (cut ts lo hi))) g)
  | none => False
theorem i_sl {t : Dt} {l u : DOt} (h : t g fun x g1 => l g1 fun lo g2 => u g2 fun hi g3 => onCut g3 x lo hi Q) : dSl t l u g Q := h
theorem o_cut {x : W} {lo hi : Option Int} {us : List T} (e : g.lq? x = some us) (h : Q (.t (.lst (cut us lo hi))) g) : onCut g x lo hi Q := by
  unfold onCut
  have e2 : g.seq? x = some us ∧ ∀ vs, x ≠ .t (.tup vs) := by
    unfold G.lq? at e
    split at e
    · cases e; exact ⟨rfl, fun vs z => by cases z⟩
    · refine ⟨?_, fun vs z => by subst z; unfold G.seqL? G.cell? at e; cases e⟩
      unfold G.seq?
      split
      · unfold G.seqL? G.cell? at e; cases e
      · unfold G.seqL? G.cell? at e; cases e
      · exact e
  rw [e2.1]
  dsimp only
  split
  · rename_i vs; exact absurd rfl (e2.2 vs)
  · exact h
def onCutH (g : G) (x : W) (lo hi : Option Int) (Q : W → G → Prop) : Prop := match g.lq? x with
  | some ts => Q (.h g.mem.length) (g.push (.lt (cut ts lo hi)))
  | none => False
theorem i_slH {t : Dt} {l u : DOt} (h : t g fun x g1 => l g1 fun lo g2 => u g2 fun hi g3 => onCutH g3 x lo hi Q) : dSlH t l u g Q := h
theorem i_noPart {P : Option Int → G → Prop} (h : P none g) : dNoPart g P := h
theorem i_part {P : Option Int → G → Prop} (h : te g fun w g' => onI w fun i => P (some i) g') : dPart te g P := h
theorem i_newD (h : Q (.h g.mem.length) (g.push (.dt [] []))) : dNewD g Q := h
theorem i_newDw (h : Q (.h g.mem.length) (g.push (.dw [] []))) : dNewDw g Q := h
/-! methods -/
theorem i_M0 {f : FM} (h : ta g fun x g1 => isL g1 x ∧ f g1 x [] Q) : dM0 f ta g Q := h
theorem i_M {f : FM} (h : ta g fun x g1 => isL g1 x ∧ ts g1 fun ws g2 => f g2 x ws Q) : dM f ta ts g Q := h
theorem isL_lt {n : Nat} {us : List T} (e : g.mem[n]? = some (some (.lt us))) : isL g (.h n) := by
  unfold isL G.lq? G.seqL? G.cell?; dsimp only; rw [e]; trivial
theorem isL_lw {n : Nat} {us : List W} (e : g.mem[n]? = some (some (.lw us))) : isL g (.h n) := by
  unfold isL G.lq? G.wseq? G.seqL? G.cell?; dsimp only; rw [e]; trivial
theorem i_append {n : Nat} {us : List T} {x : T} (e : g.mem[n]? = some (some (.lt us))) (hl : us.length < sizeLine) (h : Q (.t .non) (g.put n (.lt (us ++ [x])))) : fAppend g (.h n) [.t x] Q := by
  unfold fAppend; dsimp only; rw [e]; exact ⟨hl, h⟩
theorem i_appendW {n : Nat} {us : List W} {x : W} (e : g.mem[n]? = some (some (.lw us))) (hl : us.length < sizeLine) (h : Q (.t .non) (g.put n (.lw (us ++ [x])))) : fAppend g (.h n) [x] Q := by
  unfold fAppend; dsimp only; rw [e]; exact ⟨hl, h⟩
theorem i_pop {n : Nat} {us : List T} {x : T} (e : g.mem[n]? = some (some (.lt us))) (hx : us[us.length - 1]? = some x) (h : Q (.t x) (g.put n (.lt us.dropLast))) : fPop g (.h n) [] Q := by
  unfold fPop; dsimp only; rw [e]; exact ⟨x, hx, h⟩
theorem i_popW {n : Nat} {us : List W} {x : W} (e : g.mem[n]? = some (some (.lw us))) (hx : us[us.length - 1]? = some x) (h : Q x (g.put n (.lw us.dropLast))) : fPop g (.h n) [] Q := by
  unfold fPop; dsimp only; rw [e]; exact ⟨x, hx, h⟩
theorem i_insertW {n : Nat} {us : List W} {x : W} {i : Int} (e : g.mem[n]? = some (some (.lw us))) (hl : us.length < sizeLine ∧ 0 ≤ i ∧ i < 2 ^ 63) (h : Q (.t .non) (g.put n (.lw (us.take i.toNat ++ [x] ++ us.drop i.toNat)))) : fInsert g (.h n) [.t (.int i), x] Q := by
  unfold fInsert; dsimp only; rw [e]; exact ⟨hl.1, hl.2.1, hl.2.2, h⟩
theorem i_index {x : W} {ns : List Int} {k : Int} {j : Nat} (e : g.lq? x = some (ns.map T.int)) (h1 : ns[j]? = some k) (h2 : ∀ m : Nat, m < j → ns[m]? ≠ some k) (h : Q (.t (.int j)) g) : fIndex g x [.t (.int k)] Q := ⟨ns, j, e, h1, h2, h⟩
/-! stores -/
def dgPut (o i w : W) (g2 : G) (P : G → Prop) : Prop := match o, i with
  | .h n, .t (.int z) => (match g2.mem[n]? with
    | some (some (.lt ts)) => (match w with | .t tw => ∃ j, ixN ts.length z = some j ∧ P (g2.put n (.lt (ts.set j tw))) | _ => False)
    | some (some (.lw us)) => ∃ j, ixN us.length z = some j ∧ P (g2.put n (.lw (us.set j w)))
    | _ => False)
  | _, _ => False
theorem i_gSub {to ti : Dt} {w : W} {P : G → Prop} (h : to g fun o g1 => ti g1 fun i g2 => dgPut o i w g2 P) : dgSub to ti w g P := h
theorem o_put {n j : Nat} {z : Int} {us : List T} {x : T} {P : G → Prop} (e : g.mem[n]? = some (some (.lt us))) (hj : ixN us.length z = some j) (h : P (g.put n (.lt (us.set j x)))) : dgPut (.h n) (.t (.int z)) (.t x) g P := by
  unfold dgPut; dsimp only; rw [e]; exact ⟨j, hj, h⟩
def onDput (o y w : W) (g3 : G) (P : G → Prop) : Prop := match o, y with
  | .h n, .t ky => (match keyT ky with
    | some k => (match g3.mem[n]? with
      | some (some (.dt ks ts)) => (match w with | .t tw => ks.length < sizeLine ∧ P (g3.put n (.dt (putKs ks k) (putXs ks ts k tw))) | _ => False)
      | some (some (.dw ks us)) => ks.length < sizeLine ∧ P (g3.put n (.dw (putKs ks k) (putXs ks us k w)))
      | _ => False)
    | none => False)
  | _, _ => False
theorem i_dput {td ty tv : Dt} (h : tv g fun w g1 => td g1 fun o g2 => ty g2 fun y g3 => onDput o y w g3 D.nx) : dDput td ty tv D g := h
theorem o_dput {n : Nat} {ky x : T} {k : Key} {ks : List Key} {us : List T} {P : G → Prop} (ek : keyT ky = some k) (e : g.mem[n]? = some (some (.dt ks us))) (hl : ks.length < sizeLine) (h : P (g.put n (.dt (putKs ks k) (putXs ks us k x)))) : onDput (.h n) (.t ky) (.t x) g P := by
  unfold onDput; dsimp only; rw [ek]; dsimp only; rw [e]; exact ⟨hl, h⟩
theorem o_dputW {n : Nat} {ky : T} {x : W} {k : Key} {ks : List Key} {us : List W} {P : G → Prop} (ek : keyT ky = some k) (e : g.mem[n]? = some (some (.dw ks us))) (hl : ks.length < sizeLine) (h : P (g.put n (.dw (putKs ks k) (putXs ks us k x)))) : onDput (.h n) (.t ky) x g P := by
  unfold onDput; dsimp only; rw [ek]; dsimp only; rw [e]; exact ⟨hl, h⟩
theorem i_par {i j : Nat} (h : ts g fun ws g1 => onW2 ws fun u v => D.nx ((g1.set i u).set j v)) : dPar i j ts D g := h
theorem i_aug {i : Nat} {f : Int → Int → Int} {z : Int} (e : g.sl[i]? = some (some (.t (.int z)))) (h : te g fun w g1 => onI w fun b => D.nx (g1.set i (.t (.int (f z b))))) : dAug i f te D g := by unfold dAug; rw [e]; exact h
/-! calls -/
theorem i_callT {C : PC} (h : ts g fun ws g1 => onTs ws fun us => C us fun r => onT r fun t => Q (.t t) g1) : dCallT C ts g Q := h
theorem i_callH {C : PC} (h : ts g fun ws g1 => onTs ws fun us => C us fun r => onH g1 r Q) : dCallH C ts g Q := h
/-! loops -/
def lcI (fin : Fin3) (ws : List W) (St : G → Prop) (g1 : G) (gt : DGt) (tt : DTt) (te : Dt) (vs : List Nat) (Q : W → G → Prop) : Prop := ∃ I : Nat → List W → G → Prop, I 0 [] (g1.wipe vs) ∧ (∀ i acc g', I i acc g' → St g' ∧ acc.length ≤ i) ∧
  (∀ i acc w g', ws[i]? = some w → I i acc g' → gt w g' fun g2 => tt g2 fun b g3 => if b = true then te g3 fun y g4 => I (i + 1) (acc ++ [y]) (g4.wipe vs) else I (i + 1) acc (g3.wipe vs)) ∧
  ws.length ≤ sizeLine ∧ (∀ acc g', I ws.length acc g' → fin acc (g'.rs g1 vs) Q)
theorem i_lc {fin : Fin3} {it : DIt} {gt : DGt} {vs : List Nat} (h : it g fun ws St g1 => lcI fin ws St g1 gt tt te vs Q) : dLc fin it gt tt te vs g Q := h
def forI (ws : List W) (St : G → Prop) (g1 : G) (gt : DGt) (tb : DSt) (D : De) : Prop := ∃ I : Nat → G → Prop, I 0 g1 ∧ (∀ i g', I i g' → St g') ∧
  (∀ i w g', ws[i]? = some w → I i g' → gt w g' fun g2 => tb { D with nx := I (i + 1), ct := I (i + 1), bk := D.nx } g2) ∧ (∀ g', I ws.length g' → D.nx g')
theorem i_for {it : DIt} {gt : DGt} (h : it g fun ws St g1 => forI ws St g1 gt t D) : dFor it gt t D g := h
def whI (tt : DTt) (t : DSt) (g : G) (D : De) : Prop := ∃ I : Nat → G → Prop, (∃ m, I m g) ∧ ∀ m g', I m g' → tt g' fun b g1 => if b = true then t { D with nx := fun g2 => ∃ m', m' < m ∧ I m' g2, ct := fun g2 => ∃ m', m' < m ∧ I m' g2, bk := D.nx } g1 else D.nx g1
theorem i_while (h : whI tt t g D) : dWhile tt t D g := h
theorem i_itL {P : List W → (G → Prop) → G → Prop} (h : te g fun w g1 => onLq g1 w fun ws St => P ws St g1) : diL te g P := h
theorem i_itR1 {P : List W → (G → Prop) → G → Prop} (h : ts g fun ws g1 => onI1 ws fun j => (-(2 ^ 62) ≤ j ∧ j < 2 ^ 62) ∧ P (rgW 0 j.toNat) (fun _ => True) g1) : diR1 ts g P := h
theorem i_itR2 {P : List W → (G → Prop) → G → Prop} (h : ts g fun ws g1 => onI2 ws fun i j => (-(2 ^ 62) ≤ i ∧ i < 2 ^ 62 ∧ -(2 ^ 62) ≤ j ∧ j < 2 ^ 62) ∧ P (rgW i (j - i).toNat) (fun _ => True) g1) : diR2 ts g P := h
theorem i_finH {us : List T} (h : Q (.h g.mem.length) (g.push (.lt us))) : finH (us.map W.t) g Q := ⟨us, rfl, h⟩
theorem i_finT {us : List T} (h : Q (.t (.lst us)) g) : finT (us.map W.t) g Q := ⟨us, rfl, h⟩
/-! known tests -/
theorem k_T {A B : Prop} (h : A) : if true = true then A else B := by rw [if_pos rfl]; exact h
theorem k_F {A B : Prop} (h : B) : if false = true then A else B := by rw [if_neg Bool.false_ne_true]; exact h
theorem k_True {A B : Prop} (h : A) : if True then A else B := by rw [if_pos trivial]; exact h
theorem k_False {A B : Prop} (h : B) : if False then A else B := by rw [if_neg id]; exact h
theorem k_dT {c A B : Prop} [Decidable c] (hc : c) (h : A) : if decide c = true then A else B := by rw [if_pos (decide_eq_true hc)]; exact h
theorem k_dF {c A B : Prop} [Decidable c] (hc : ¬ c) (h : B) : if decide c = true then A else B := by rw [if_neg (by simpa using hc)]; exact h
theorem k_nT {c A B : Prop} [Decidable c] (hc : ¬ c) (h : A) : if (!decide c) = true then A else B := by rw [if_pos (by simpa using hc)]; exact h
theorem k_nF {c A B : Prop} [Decidable c] (hc : c) (h : B) : if (!decide c) = true then A else B := by rw [if_neg (by simpa using hc)]; exact h
theorem k_d {c A B : Prop} [Decidable c] (h1 : c → A) (h2 : ¬ c → B) : if decide c = true then A else B := by
  by_cases h : c
  · exact k_dT h (h1 h)
  · exact k_dF h (h2 h)
theorem k_n {c A B : Prop} [Decidable c] (h1 : ¬ c → A) (h2 : c → B) : if (!decide c) = true then A else B := by
  by_cases h : c
  · exact k_nF h (h2 h)
  · exact k_nT h (h1 h)
theorem ixN_nat {n k : Nat} (h : k < n) : ixN n (k : Int) = some k := by
  unfold ixN
  rw [if_pos (by omega), if_pos (by omega)]
  simp
/-! ends -/
theorem e_t {C : R0 → Prop} {x : T} {g : G} (h : C (.t x)) : FinP C (.t x) g := h
theorem e_h {C : R0 → Prop} {n : Nat} {c : Cell} {g : G} (e : g.mem[n]? = some (some c)) (hp : c.plain = true) (h : C (.f c)) : FinP C (.h n) g := by
  unfold FinP; dsimp only; rw [e]; exact ⟨hp, h⟩
end
end DL

namespace DL
open PySem PySem.Spec L2
/-! a, b = a list that holds handles -/
abbrev DGwt := List W → G → (G → Prop) → Prop
structure DGw (X : Cx) (tg : List Expr) (τ : TGs) (t : DGwt) : Prop where
  pe : PGs X tg τ
  r : ∀ (al : List Addr) (S F H : Hp) (σ : L2.St) (g : G) (vs : List V) (ws : List W) (Q : G → Prop) (QV : L2.St → Hp → Prop), Rep X.K al S F H σ g → Paired (DenW X.K al S) ws vs → t ws g Q →
    (∀ al' S' H' σ' g', Rep X.K al' S' F H' σ' g' → Grow al S al' S' → Q g' → QV σ' H') → τ vs σ H QV
def dgwNil : DGwt := fun ws g Q => match ws with | [] => Q g | _ => False
def dgwCons (t : DGt) (u : DGwt) : DGwt := fun ws g Q => match ws with | w :: r => t w g fun g1 => u r g1 Q | _ => False
section
variable {X : Cx}
def dgUnw (n : Nat) (t : DGwt) : DGt := fun w g Q => match g.wseq? w with | some ts => ts.length = n ∧ t ts g Q | none => False
end
theorem i_unw {g : G} {n : Nat} {w : W} {us : List W} {t : DGwt} {P : G → Prop} (hv : g.wseq? w = some us) (hn : us.length = n) (h : t us g P) : dgUnw n t w g P := by
  unfold dgUnw; rw [hv]; exact ⟨hn, h⟩
theorem i_gwNil {g : G} {P : G → Prop} (h : P g) : dgwNil [] g P := h
theorem i_gwCons {g : G} {t : DGt} {us : DGwt} {w : W} {r : List W} {P : G → Prop} (h : t w g fun g1 => us r g1 P) : dgwCons t us (w :: r) g P := h
/-! cells at handles, by what the store holds there -/
section
variable {g : G} {Q : W → G → Prop} {n : Nat}
theorem cell_h {c : Cell} (em : g.mem[n]? = some (some c)) : g.cell? (.h n) = some c := by unfold G.cell?; dsimp only; rw [em]
theorem lq_h {us : List T} (em : g.mem[n]? = some (some (.lt us))) : g.lq? (.h n) = some us := by unfold G.lq? G.seqL?; dsimp only; rw [cell_h em]
theorem lq_hw {us : List W} (em : g.mem[n]? = some (some (.lw us))) : g.lq? (.h n) = none := by unfold G.lq? G.seqL?; dsimp only; rw [cell_h em]
theorem seq_h {us : List T} (em : g.mem[n]? = some (some (.lt us))) : g.seq? (.h n) = some us := by unfold G.seq? G.seqL?; dsimp only; rw [cell_h em]
theorem seq_hw {us : List W} (em : g.mem[n]? = some (some (.lw us))) : g.seq? (.h n) = none := by unfold G.seq? G.seqL?; dsimp only; rw [cell_h em]
theorem wseq_h {us : List W} (em : g.mem[n]? = some (some (.lw us))) : g.wseq? (.h n) = some us := by unfold G.wseq?; rw [cell_h em]
theorem len_h {us : List T} (em : g.mem[n]? = some (some (.lt us))) : g.len? (.h n) = some us.length := by unfold G.len?; dsimp only; rw [em]
theorem len_hw {us : List W} (em : g.mem[n]? = some (some (.lw us))) : g.len? (.h n) = some us.length := by unfold G.len?; dsimp only; rw [em]
theorem tree_h {us : List T} (em : g.mem[n]? = some (some (.lt us))) : g.tree? (.h n) = some (.lst us) := by unfold G.tree?; dsimp only; rw [em]; rfl
theorem i_ixHW {us : List W} {i : Int} {v : W} (em : g.mem[n]? = some (some (.lw us))) (hv : atI us i = some v) (h : Q v g) : fIx g (.h n) (.t (.int i)) Q := i_ixW (seq_hw em) (wseq_h em) hv h
theorem i_ixHT {us : List T} {i : Int} {v : T} (em : g.mem[n]? = some (some (.lt us))) (hv : atI us i = some v) (h : Q (.t v) g) : fIx g (.h n) (.t (.int i)) Q := i_ix (seq_h em) hv h
theorem i_lenHW {us : List W} (em : g.mem[n]? = some (some (.lw us))) (h : Q (.t (.int us.length)) g) : fLen g [.h n] Q := i_len (len_hw em) h
theorem i_lenHT {us : List T} (em : g.mem[n]? = some (some (.lt us))) (h : Q (.t (.int us.length)) g) : fLen g [.h n] Q := i_len (len_h em) h
theorem o_LqH {us : List T} {P : List W → (G → Prop) → Prop} (em : g.mem[n]? = some (some (.lt us))) (h : P (us.map W.t) (fun g' => g'.lq? (.h n) = some us)) : onLq g (.h n) P := o_Lq (lq_h em) h
theorem i_tupOfH {us : List T} (em : g.mem[n]? = some (some (.lt us))) (h : Q (.t (.tup us)) g) : fTupOf g [.h n] Q := i_tupOf (lq_h em) h
end
/-! calls that are handed cells -/
def callS (C : SC) (ws : List W) (g1 : G) (Q : W → G → Prop) : Prop := ∃ (r : List Nat) (m0 : List Cell) (ws0 : List W), r.Nodup ∧ r.length = m0.length ∧ ups r ws0 = some ws ∧
  (∀ (i : Nat) (c : Cell), m0[i]? = some c → ∃ j c', r[i]? = some j ∧ c.up r = some c' ∧ g1.mem[j]? = some (some c')) ∧
  C ws0 m0 fun w m1 cs => ∃ w' m1' cs', w.up (r ++ (List.range cs.length).map (g1.mem.length + ·)) = some w' ∧ cups (r ++ (List.range cs.length).map (g1.mem.length + ·)) m1 = some m1' ∧ cups (r ++ (List.range cs.length).map (g1.mem.length + ·)) cs = some cs' ∧
    Q w' ⟨g1.sl, setAll g1.mem r m1' ++ cs'.map some⟩
theorem i_callS {C : SC} {ts : DAt} {g : G} {Q : W → G → Prop} (h : ts g fun ws g1 => callS C ws g1 Q) : dCallS C ts g Q := h
/-! ends of defs that were handed cells -/
theorem fin_s {n0 : Nat} {QC : W → List Cell → List Cell → Prop} {w : W} {g : G} (ks : List Nat) (m1 cs : List Cell) (w' : W) (nd : (List.range n0 ++ ks).Nodup) (lt : ∀ j ∈ List.range n0 ++ ks, j < g.mem.length) (hw : w'.up (List.range n0 ++ ks) = some w) (l1 : m1.length = n0) (l2 : cs.length = ks.length)
    (hc : ∀ (i : Nat) (c' : Cell), (m1 ++ cs)[i]? = some c' → ∃ j c, (List.range n0 ++ ks)[i]? = some j ∧ c'.up (List.range n0 ++ ks) = some c ∧ g.mem[j]? = some (some c)) (q : QC w' m1 cs) : FinS n0 QC w g :=
  ⟨ks, m1, cs, w', nd, lt, hw, l1, l2, hc, q⟩
/-! a purse: its list at handle 0, its cells at handle 1 -/
def purse (turn : Nat) (cells : List Int) : List Cell := [.lw [.h 1, .t (.int turn)], .lt (cells.map T.int)]
def purseM (turn : Nat) (cells : List Int) : Sto := [some (.lw [.h 1, .t (.int turn)]), some (.lt (cells.map T.int))]
theorem purse_set2 {t : Nat} {c : List Int} {m : Sto} {v : Option Cell} : (purseM t c ++ m).set 2 v = purseM t c ++ m.set 0 v := rfl
theorem purse_set3 {t : Nat} {c : List Int} {m : Sto} {v : Option Cell} : (purseM t c ++ m).set 3 v = purseM t c ++ m.set 1 v := rfl
theorem purse_set4 {t : Nat} {c : List Int} {m : Sto} {v : Option Cell} : (purseM t c ++ m).set 4 v = purseM t c ++ m.set 2 v := rfl
theorem purse_set5 {t : Nat} {c : List Int} {m : Sto} {v : Option Cell} : (purseM t c ++ m).set 5 v = purseM t c ++ m.set 3 v := rfl
theorem purse_app {t : Nat} {c : List Int} {m l : Sto} : (purseM t c ++ m) ++ l = purseM t c ++ (m ++ l) := List.append_assoc _ _ _
theorem purse_len {t : Nat} {c : List Int} {m : Sto} : (purseM t c ++ m).length = m.length + 2 := by rw [List.length_append]; show 2 + m.length = _; omega
theorem purse_start {t : Nat} {c : List Int} : (purse t c).map some = purseM t c ++ [] := rfl
theorem purse_l {t : Nat} {c : List Int} : (purse t c).length = 2 := rfl
end DL

namespace DL
open PySem PySem.Spec L2
/-! comprehensions whose parts' walks may differ from block to block -/
section
variable {X : Cx} {pos : Pos} {tg iter elt : Expr} {ifs : List Expr} {scope : Scope} {own : List (Str × Nat)} {wi : TI} {it : DIt} {gt : DGt} {tt : DTt} {te : Dt} {fin : Fin3}
abbrev BlkAll (X : Cx) (scope : Scope) (P : Cx → Prop) : Prop := ∀ (s : Shared) (H : Hp) (C : Addr) (cl : List (Str × Addr)) (fp : List Addr), P (X.blk s H scope (compEnvC scope cl C X.env) fp)
def uG (h : BlkAll X scope fun Y => ∃ τ, CG Y tg τ gt (own.map (·.2))) : TG := fun v σ H Q => ∀ s H0 C cl fp, (Classical.choose (h s H0 C cl fp)) v σ H Q
def uT (h : BlkAll X scope fun Y => ∃ τ, DTs Y ifs τ tt) : TT := fun σ H Q => ∀ s H0 C cl fp, (Classical.choose (h s H0 C cl fp)) σ H Q
def uE (h : BlkAll X scope fun Y => ∃ τ, DE Y elt τ te) : TE := fun σ H Q => ∀ s H0 C cl fp, (Classical.choose (h s H0 C cl fp)) σ H Q
theorem uG_ok (h : BlkAll X scope fun Y => ∃ τ, CG Y tg τ gt (own.map (·.2))) : BlkAll X scope fun Y => CG Y tg (uG h) gt (own.map (·.2)) := fun s H C cl fp =>
  ⟨⟨fun pins s1 σ H1 v u Q I r q => (Classical.choose_spec (h s H C cl fp)).pe.run pins s1 σ H1 v u Q I r (q s H C cl fp)⟩,
    fun al S F H1 σ g v w Q QV R d q k s2 H2 C2 cl2 fp2 => (Classical.choose_spec (h s2 H2 C2 cl2 fp2)).r al S F H1 σ g v w Q QV R d q k⟩
theorem uT_ok (h : BlkAll X scope fun Y => ∃ τ, DTs Y ifs τ tt) : BlkAll X scope fun Y => DTs Y ifs (uT h) tt := fun s H C cl fp =>
  ⟨⟨fun pins s1 σ H1 Q I q => (Classical.choose_spec (h s H C cl fp)).pe.run pins s1 σ H1 Q I (q s H C cl fp)⟩,
    fun al S F H1 σ g Q QV R q k s2 H2 C2 cl2 fp2 => (Classical.choose_spec (h s2 H2 C2 cl2 fp2)).r al S F H1 σ g Q QV R q k⟩
theorem uE_ok (h : BlkAll X scope fun Y => ∃ τ, DE Y elt τ te) : BlkAll X scope fun Y => DE Y elt (uE h) te := fun s H C cl fp =>
  ⟨⟨fun pins s1 σ H1 Q I q => (Classical.choose_spec (h s H C cl fp)).pe.run pins s1 σ H1 Q I (q s H C cl fp)⟩,
    fun al S F H1 σ g Q QV R q k s2 H2 C2 cl2 fp2 => (Classical.choose_spec (h s2 H2 C2 cl2 fp2)).r al S F H1 σ g Q QV R q k⟩
theorem de_lcU (hf : FinOk X.K fin) (hc : X.calm = true) (hN : X.N.Nodup) (hi : DI X tg iter wi it) (ok : BlkOk X.N X.env.scope scope own)
    (hg : BlkAll X scope fun Y => ∃ τ, CG Y tg τ gt (own.map (·.2))) (ht : BlkAll X scope fun Y => ∃ τ, DTs Y ifs τ tt) (he : BlkAll X scope fun Y => ∃ τ, DE Y elt τ te) (s0 : Shared) (hs : ∀ x, foldedSetIterable iter X.env x = pure x := by intro _; rfl) :
    DE X (.ListComp elt [⟨tg, iter, ifs, 0⟩] scope pos) (tLc wi (uG hg) (uT ht) (uE he) (own.map (·.2))) (dLc fin it gt tt te (own.map (·.2))) :=
  de_lc hf hc hN hi ok (uG_ok hg) (uT_ok ht) (uE_ok he) s0 hs
theorem ds_setLcU (i : Nat) {y : Str} {py spos : Pos} (hf : FinOk X.K fin) (hc : X.calm = true) (hN : X.N.Nodup) (hi : DI X tg iter wi it) (ok : BlkOk X.N X.env.scope scope own)
    (hg : BlkAll X scope fun Y => ∃ τ, CG Y tg τ gt (own.map (·.2))) (ht : BlkAll X scope fun Y => ∃ τ, DTs Y ifs τ tt) (he : BlkAll X scope fun Y => ∃ τ, DE Y elt τ te) (s0 : Shared) (hy : X.N[i]? = some y := by rfl) (hyl : X.env.scope.names.lookup y = some .local := by rfl)
    (hsw : swapsWith (.ListComp elt [⟨tg, iter, ifs, 0⟩] scope pos) (some (.Name y py)) spos.line X.env = pure true := by exact sw_true rfl rfl rfl (by decide +kernel)) (hs : ∀ x, foldedSetIterable iter X.env x = pure x := by intro _; rfl) :
    DS X (.Assign [.Name y py] (.ListComp elt [⟨tg, iter, ifs, 0⟩] scope pos) spos) (tAsg (tLc wi (uG hg) (uT ht) (uE he) (own.map (·.2))) (gName i)) (dAsg (dLc fin it gt tt te (own.map (·.2))) (dgN i)) :=
  ds_setLc i hf hc hN hi ok (uG_ok hg) (uT_ok ht) (uE_ok he) s0 hy hyl hsw hs
end
/-! comparisons as tests -/
section
variable {X : Cx} {a b : Expr} {τa τb : TE} {ta tb : Dt} {pos : Pos}
theorem dt_mk {e : Expr} (h : PT X e (L2.tB τa)) (r : DEr X.K τa ta) : DT X e (L2.tB τa) (dB ta) := by
  refine ⟨h, fun al S F H σ g Q QV R q k => ?_⟩
  refine r al S F H σ g _ _ R q fun al1 S1 H1 g1 v1 w1 R1 gr1 e1 q1 => ?_
  split at q1
  · rename_i bb
    refine ⟨bb, ?_, k _ _ _ _ _ R1 gr1 q1⟩
    unfold DenW Den at e1
    exact e1
  · exact q1.elim
theorem dt_cmp {op : CmpOp} {r : R2} {f : F2} (ho : OpR X (compareOp op) r) (h : Op2 X.K r f) (ha : DE X a τa ta) (hb : DE X b τb tb) (hm : behindInMarks op b = false := by first | exact nomark _ | rfl) : DT X (.Compare a [op] [b] pos) (L2.tB (tOp r τa τb)) (dB (d2 f ta tb)) :=
  dt_mk (pt_cmpR ho ha.pe hb.pe hm) (der_op2 h ha.r hb.r)
theorem dt_eq {kk : Nat} (hr : Room kk X.A) (ha : DE X a τa ta) (hb : DE X b τb tb) : DT X (.Compare a [.Eq] [b] pos) (L2.tB (tOp (fun x y H Q => (scal x y = true ∧ Q (.bl (if false then !decide (x = y) else decide (x = y))) H) ∨
    (∃ d e, Dp X.K H x d ∧ Dp X.K H y e ∧ SeqAt.shaped d = true ∧ SeqAt.shaped e = true ∧ Q (.bl (if false then !PyData.eqv d e else PyData.eqv d e)) H)) τa τb)) (dB (d2 (fEq false) ta tb)) := dt_cmp (op_eq.or (op_eqD hr.units)) (op2_eq false) ha hb
theorem dt_ne {kk : Nat} (hr : Room kk X.A) (ha : DE X a τa ta) (hb : DE X b τb tb) : DT X (.Compare a [.NotEq] [b] pos) (L2.tB (tOp (fun x y H Q => (scal x y = true ∧ Q (.bl (if true then !decide (x = y) else decide (x = y))) H) ∨
    (∃ d e, Dp X.K H x d ∧ Dp X.K H y e ∧ SeqAt.shaped d = true ∧ SeqAt.shaped e = true ∧ Q (.bl (if true then !PyData.eqv d e else PyData.eqv d e)) H)) τa τb)) (dB (d2 (fEq true) ta tb)) := dt_cmp (op_ne.or (op_neD hr.units)) (op2_eq true) ha hb
theorem dt_lt (ha : DE X a τa ta) (hb : DE X b τb tb) : DT X (.Compare a [.Lt] [b] pos) (L2.tB (tOp (rI0 fun i j => V.bl (decide (i < j))) τa τb)) (dB (d2 (fI0 fun i j => .bl (decide (i < j))) ta tb)) := dt_cmp op_lt (op2_I0 fun _ _ _ => denB _) ha hb
theorem dt_le (ha : DE X a τa ta) (hb : DE X b τb tb) : DT X (.Compare a [.LtE] [b] pos) (L2.tB (tOp (rI0 fun i j => V.bl (decide (i ≤ j))) τa τb)) (dB (d2 (fI0 fun i j => .bl (decide (i ≤ j))) ta tb)) := dt_cmp op_le (op2_I0 fun _ _ _ => denB _) ha hb
theorem dt_gt (ha : DE X a τa ta) (hb : DE X b τb tb) : DT X (.Compare a [.Gt] [b] pos) (L2.tB (tOp (rI0 fun i j => V.bl (decide (j < i))) τa τb)) (dB (d2 (fI0 fun i j => .bl (decide (j < i))) ta tb)) := dt_cmp op_gt (op2_I0 fun _ _ _ => denB _) ha hb
theorem dt_ge (ha : DE X a τa ta) (hb : DE X b τb tb) : DT X (.Compare a [.GtE] [b] pos) (L2.tB (tOp (rI0 fun i j => V.bl (decide (j ≤ i))) τa τb)) (dB (d2 (fI0 fun i j => .bl (decide (j ≤ i))) ta tb)) := dt_cmp op_ge (op2_I0 fun _ _ _ => denB _) ha hb
theorem dt_in (ha : DE X a τa ta) (hb : DE X b τb tb) (hm : behindInMarks .In b = false := by rfl) : DT X (.Compare a [.In] [b] pos) (L2.tB (tOp (rIn X.K false) τa τb)) (dB (d2 (fIn false) ta tb)) := dt_cmp op_in_seq (op2_in false) ha hb hm
theorem dt_notin (ha : DE X a τa ta) (hb : DE X b τb tb) (hm : behindInMarks .NotIn b = false := by rfl) : DT X (.Compare a [.NotIn] [b] pos) (L2.tB (tOp (rIn X.K true) τa τb)) (dB (d2 (fIn true) ta tb)) := dt_cmp op_notIn_seq (op2_in true) ha hb hm
theorem dt_din {kk : Nat} (hr : Room kk X.A) (ha : DE X a τa ta) (hb : DE X b τb tb) (h1 : behindInMarks .In b = false := by rfl) : DT X (.Compare a [.In] [b] pos) (L2.tB (tDIn τa τb)) (dB (d2 (fDin false) ta tb)) :=
  dt_mk (pt_cmp (pc_din (hu_of hr) ha.pe hb.pe) h1) (de_din (pos := pos) hr ha hb h1).r
theorem dt_dnotin {kk : Nat} (hr : Room kk X.A) (ha : DE X a τa ta) (hb : DE X b τb tb) (h1 : behindInMarks .NotIn b = false := by rfl) : DT X (.Compare a [.NotIn] [b] pos) (L2.tB (tDNotIn τa τb)) (dB (d2 (fDin true) ta tb)) :=
  dt_mk (pt_cmp (pc_dnotin (hu_of hr) ha.pe hb.pe) h1) (de_dnotin (pos := pos) hr ha hb h1).r
end
theorem de_globE {X : Cx} {x : Str} {i : Int} {pos : Pos} (hg : Gl X x) (hm : ∃ tk : Tok, X.mg x = some (.int i tk)) (hd : (x == ("__debug__" : Str)) = false := by decide) : DE X (.Name x pos) (tC (.int i)) (dC (.int i)) := by
  obtain ⟨tk, e⟩ := hm
  exact de_globI hg e hd
end DL

namespace DL
open PySem PySem.Spec L2
/-! a part of a tuple -/
def onCutT (g3 : G) (x : W) (lo hi : Option Int) (Q : W → G → Prop) : Prop := match x with
  | .t (.tup ts) => ¬ (HT.sIx ts.length 0 lo = 0 ∧ HT.sIx ts.length ts.length hi = ts.length) ∧ Q (.t (.tup (cut ts lo hi))) g3
  | _ => False
def dSlT (t : Dt) (l u : DOt) : Dt := fun g Q => t g fun x g1 => l g1 fun lo g2 => u g2 fun hi g3 => onCutT g3 x lo hi Q
section
variable {X : Cx} {a : Expr} {τa : TE} {ta : Dt} {pos : Pos}
theorem de_slT {lo hi : Option Expr} {τl τh : TO} {tl th : DOt} {p2 : Pos} (ha : DE X a τa ta) (hl : DO X lo τl tl) (hh : DO X hi τh th) : DE X (.Subscript a (.Slice lo hi none p2) pos) (tSl (rSlT X.K) τa τl τh) (dSlT ta tl th) := by
  refine ⟨pe_slice sl_tup ha.pe hl.pe hh.pe, fun al S F H σ g Q QV R q k => ?_⟩
  refine ha.r al S F H σ g _ _ R q fun al1 S1 H1 g1 v1 w1 R1 gr1 e1 q1 => ?_
  refine hl.r al1 S1 F H1 σ g1 _ _ R1 q1 fun al2 S2 H2 g2 b2 R2 gr2 q2 => ?_
  refine hh.r al2 S2 F H2 σ g2 _ _ R2 q2 fun al3 S3 H3 g3 b3 R3 gr3 q3 => ?_
  unfold onCutT at q3
  split at q3
  · rename_i ts
    have e2 := e1.grow (gr2.trans gr3)
    unfold DenW Den at e2
    obtain ⟨a, vs, rfl, h1, h2⟩ := e2
    have h2 := Dens.iff.mp h2
    refine ⟨a, vs, rfl, seqT R3.same h1, ?_, fun p np => ?_⟩
    · rw [← h2.length]
      exact q3.1
    · have hp : Paired (Den X.K S3) (cut ts b2 b3) (cutV vs b2 b3) := by
        unfold cut cutV
        rw [h2.length]
        exact ptake _ (pdrop _ h2)
      obtain ⟨R4, gr4, d⟩ := R3.layTup np hp
      exact k _ _ _ _ _ _ R4 (gr1.trans (gr2.trans (gr3.trans gr4))) d q3.2
  · exact q3.elim
end
theorem i_slT {g : G} {Q : W → G → Prop} {t : Dt} {l u : DOt} (h : t g fun x g1 => l g1 fun lo g2 => u g2 fun hi g3 => onCutT g3 x lo hi Q) : dSlT t l u g Q := h
theorem o_cutT {g : G} {Q : W → G → Prop} {lo hi : Option Int} {ts : List T} (hn : ¬ (HT.sIx ts.length 0 lo = 0 ∧ HT.sIx ts.length ts.length hi = ts.length)) (h : Q (.t (.tup (cut ts lo hi))) g) : onCutT g (.t (.tup ts)) lo hi Q := ⟨hn, h⟩
/-! [x] * n as a new cell -/
def fRepH : F2 := fun g x y Q => match g.seqL? x, y with
  | some xs, .t (.int k) => (-(2 ^ 63) ≤ k ∧ k < 2 ^ 63 ∧ xs.length * k.toNat ≤ sizeLine) ∧ Q (.h g.mem.length) (g.push (.lt (List.replicate k.toNat xs).flatten))
  | _, _ => False
theorem op2_repH {K : PySem.W.Frag} : Op2 K rRep fRepH := by
  intro al S F H σ g x y wx wy Q QV R dx dy q k
  unfold fRepH at q
  split at q
  · rename_i xs z ex
    obtain ⟨a, vs, rfl, h1, h2⟩ := R.viewL dx ex
    unfold DenW Den at dy
    refine ⟨a, z, vs, rfl, dy, h1, q.1.1, q.1.2.1, by rw [← h2.length]; exact q.1.2.2, fun p np => ?_⟩
    obtain ⟨R1, gr, d⟩ := R.pushC (c := .lt (List.replicate z.toNat xs).flatten) (o := .lst (List.replicate z.toNat vs).flatten) np ⟨_, rfl, prep h2 z.toNat⟩
    exact k _ _ _ _ _ _ R1 gr d q.2
  · exact q.elim
section
variable {X : Cx} {a b : Expr} {τa τb : TE} {ta tb : Dt} {pos : Pos}
theorem de_repH (ha : DE X a τa ta) (hb : DE X b τb tb) : DE X (.BinOp a .Mult b pos) (tOp rRep τa τb) (d2 fRepH ta tb) := de_op op_rep op2_repH ha hb
end
theorem i_repH {g : G} {Q : W → G → Prop} {x : W} {xs : List T} {k : Int} (e1 : g.seqL? x = some xs) (hl : -(2 ^ 63) ≤ k ∧ k < 2 ^ 63 ∧ xs.length * k.toNat ≤ sizeLine) (h : Q (.h g.mem.length) (g.push (.lt (List.replicate k.toNat xs).flatten))) : fRepH g x (.t (.int k)) Q := by
  unfold fRepH; rw [e1]; exact ⟨hl, h⟩
/-! lists of handles, gone through -/
theorem o_LqW {g : G} {w : W} {us : List W} {P : List W → (G → Prop) → Prop} (e0 : g.lq? w = none) (e : g.wseq? w = some us) (h : P us (fun g' => g'.wseq? w = some us)) : onLq g w P := by
  unfold onLq; rw [e0]; dsimp only; rw [e]; exact h
theorem lcW {g1 : G} {gt : DGt} {tt : DTt} {te : Dt} {vs : List Nat} {fin : Fin3} {Q : W → G → Prop} {ws : List W} {St : G → Prop} {ι : Type} (items : List ι) (enc : ι → W) (keep : ι → Bool) (out : ι → W) (hws : ws = items.map enc) (hlen : items.length ≤ sizeLine) (hSt : St (g1.wipe vs))
    (hel : ∀ x ∈ items, ∀ (Y : W → G → Prop) (N : G → Prop), (keep x = true → ∀ g4, g4.wipe vs = g1.wipe vs → Y (out x) g4) → (keep x = false → ∀ g3, g3.wipe vs = g1.wipe vs → N g3) → gt (enc x) (g1.wipe vs) fun g2 => tt g2 fun b g3 => if b = true then te g3 Y else N g3)
    (hQ : fin ((items.filter keep).map out) ((g1.wipe vs).rs g1 vs) Q) : lcI fin ws St g1 gt tt te vs Q := by
  subst hws
  refine ⟨fun i acc g' => acc = (((items.take i).filter keep).map out) ∧ g' = g1.wipe vs, ⟨rfl, rfl⟩, ?_, ?_, by simpa using hlen, ?_⟩
  · rintro i acc g' ⟨rfl, rfl⟩
    refine ⟨hSt, ?_⟩
    rw [List.length_map]
    exact Nat.le_trans (List.length_filter_le _ _) (by rw [List.length_take]; exact Nat.min_le_left _ _)
  · rintro i acc w g' hw' ⟨rfl, rfl⟩
    rw [List.getElem?_map] at hw'
    cases e : items[i]? with
    | none => rw [e] at hw'; cases hw'
    | some x =>
      rw [e] at hw'
      cases hw'
      refine hel x (List.mem_of_getElem? e) _ _ (fun hk g4 h4 => ⟨?_, h4⟩) (fun hk g3 h3 => ⟨?_, h3⟩)
      · rw [List.take_add_one, e, List.filter_append, List.map_append]
        simp [hk]
      · rw [List.take_add_one, e, List.filter_append, List.map_append]
        simp [hk]
  · rintro acc g' ⟨rfl, rfl⟩
    rw [List.length_map, List.take_length]
    exact hQ
end DL

namespace DL
open PySem PySem.Spec L2
/-! sorted(list of ints) -/
section
variable {X : Cx} {e : Expr} {es : List Expr} {τs : TA} {ts : DAt} {p pos : Pos}
/-! calls without arguments -/
end
end DL

namespace DL
open PySem PySem.Spec L2
/-! x // y with a wide y -/
/-! is None; d.get(k, x) -/
def W.isN : W → Bool
  | .t .non => true
  | _ => false
def W.known : W → Bool
  | .t (.raw _) => false
  | _ => true
def fNone (neg : Bool) : F1 := fun g w Q => w.known = true ∧ Q (.t (.bl (if neg then !w.isN else w.isN))) g
section
variable {X : Cx} {a b e f : Expr} {τa τb τf : TE} {ta tb tf : Dt} {pos pos' : Pos} {j : Nat}
def onGetD (o y z : W) (g : G) (Q : W → G → Prop) : Prop := match y with
  | .t ky => (match keyT ky with
    | some k => (match g.dct? o with
      | some (ks, ts) => (match look ks ts k with | some v => Q (.t v) g | none => Q z g)
      | none => False)
    | none => False)
  | _ => False
def dGetD (td ty tz : Dt) : Dt := fun g Q => td g fun o g1 => (g1.dct? o).isSome = true ∧ ty g1 fun y g2 => tz g2 fun z g3 => onGetD o y z g3 Q
theorem de_getD {kk : Nat} {apos : Pos} (hr : Room kk X.A) (ha : DE X a τa ta) (hb : DE X b τb tb) (hf : DE X f τf tf)
    (m : M2 X a "get" apos b f pos := by exact ⟨rfl, rfl, rfl, rfl⟩) : DE X (.Call (.Attribute a "get" apos) [b, f] [] pos) (tDGet2 τa τb τf) (dGetD ta tb tf) := by
  refine ⟨pe_dget2 (hu_of hr) ha.pe hb.pe hf.pe m, fun al S F H σ g Q QV R q k => ?_⟩
  refine ha.r al S F H σ g _ _ R q fun al1 S1 H1 g1 v1 w1 R1 gr1 e1 q1 => ?_
  obtain ⟨hd, q1⟩ := q1
  obtain ⟨⟨ks1, ts1⟩, ed⟩ := Option.isSome_iff_exists.mp hd
  obtain ⟨p, vs, rfl, h1, h2, h3⟩ := R1.viewD e1 ed
  refine ⟨p, rfl, .inl ⟨_, .inl h1⟩, ?_⟩
  refine hb.r al1 S1 F H1 σ g1 _ _ R1 q1 fun al2 S2 H2 g2 v2 w2 R2 gr2 e2 q2 => ?_
  refine hf.r al2 S2 F H2 σ g2 _ _ R2 q2 fun al3 S3 H3 g3 v3 w3 R3 gr3 e3 q3 => ?_
  have gr := (gr1.trans gr2).trans gr3
  unfold onGetD at q3
  split at q3
  · split at q3
    · rename_i key ek
      have ev := key_den ek (e2.grow gr3)
      subst ev
      split at q3
      · rename_i ks ts ed3
        obtain ⟨p', vs3, hp, h4, h5, h6⟩ := R3.viewD (e1.grow (gr2.trans gr3)) ed3
        cases hp
        refine ⟨_, DGet.k h4, ?_⟩
        have lz := look_zip (ks := ks) key h6
        split at q3
        · rename_i r er
          rw [er] at lz
          cases e4 : valV (ks.zip vs3) key with
          | none => rw [e4] at lz; exact lz.elim
          | some v =>
            rw [e4] at lz
            exact k _ _ _ _ _ (.t r) R3 gr lz q3
        · rename_i er
          rw [er] at lz
          cases e4 : valV (ks.zip vs3) key with
          | some v => rw [e4] at lz; exact lz.elim
          | none => exact k _ _ _ _ _ w3 R3 gr e3 q3
      · exact q3.elim
    · exact q3.elim
  · exact q3.elim
end
section
variable {g : G} {Q : W → G → Prop}
theorem i_none {neg : Bool} {w : W} (hk : w.known = true) (h : Q (.t (.bl (if neg then !w.isN else w.isN))) g) : fNone neg g w Q := ⟨hk, h⟩
theorem i_getD {td ty tz : Dt} (h : td g fun o g1 => (g1.dct? o).isSome = true ∧ ty g1 fun y g2 => tz g2 fun z g3 => onGetD o y z g3 Q) : dGetD td ty tz g Q := h
theorem o_getS {o z : W} {ky v : T} {k : Key} {ks : List Key} {us : List T} (ek : keyT ky = some k) (e : g.dct? o = some (ks, us)) (el : look ks us k = some v) (h : Q (.t v) g) : onGetD o (.t ky) z g Q := by
  unfold onGetD; dsimp only; rw [ek]; dsimp only; rw [e]; dsimp only; rw [el]; exact h
theorem o_getN {o z : W} {ky : T} {k : Key} {ks : List Key} {us : List T} (ek : keyT ky = some k) (e : g.dct? o = some (ks, us)) (el : look ks us k = none) (h : Q z g) : onGetD o (.t ky) z g Q := by
  unfold onGetD; dsimp only; rw [ek]; dsimp only; rw [e]; dsimp only; rw [el]; exact h
end
end DL

namespace DL
open PySem PySem.Spec L2
/-! what refuses: a def that raises an own class, told by its name -/
abbrev RC := List T → Str → Prop
def spr (K : PySem.W.Frag) (C : RC) : Sp := fun vs H Q E => ∃ (S F : Hp) (ws : List W) (ts : List T) (n : Str) (Cn : Addr), RepM K [] S F H (([] : List Cell).map some) ∧ Paired (DenW K [] S) ws vs ∧ treesW ws = some ts ∧ C ts n ∧ PySem.W.nsIn K mainGlobals n = some (some (.ref Cn)) ∧
  ∀ S' H', RepM K [] S' F H' (([] : List Cell).map some) → Same S S' → E (.ref Cn) none H'
abbrev DEx := Str → G → Prop
def Lx (K : PySem.W.Frag) (al : List Addr) (S F : Hp) (E : DEx) (W : WX) : Prop := ∀ (n : Str) (Cn : Addr) (al' : List Addr) (S' H' : Hp) (σ' : L2.St) (g' : G), PySem.W.nsIn K mainGlobals n = some (some (.ref Cn)) → Rep K al' S' F H' σ' g' → Grow al S al' S' → E n g' → W (.ref Cn) none σ' H'
theorem Lx.grow {K : PySem.W.Frag} {al al1 : List Addr} {S S1 F : Hp} {E : DEx} {W : WX} (k : Lx K al S F E W) (gr : Grow al S al1 S1) : Lx K al1 S1 F E W :=
  fun n Cn a s h σ g hn R g2 q => k n Cn a s h σ g hn R (gr.trans g2) q
abbrev DXt := De → DEx → G → Prop
def DXr (K : PySem.W.Frag) (W : WX) (τ : TS) (t : DXt) : Prop := ∀ (al : List Addr) (S F H : Hp) (σ : L2.St) (g : G) (D : De) (DV : Ends) (E : DEx), Rep K al S F H σ g → t D E g → Lk K al S F D DV → Lx K al S F E W → τ DV σ H
structure DX (X : Cx) (W : WX) (st : Stmt) (τ : TS) (t : DXt) : Prop where
  pe : PS X st τ
  r : DXr X.K W τ t
structure DXs (X : Cx) (W : WX) (st : List Stmt) (τ : TS) (t : DXt) : Prop where
  pe : PSs X st τ
  r : DXr X.K W τ t
/-- an expression that raises -/
structure DEX (X : Cx) (W : WX) (e : Expr) (τ : TE) (t : DEx → G → Prop) : Prop where
  pe : PE X e τ
  r : ∀ (al : List Addr) (S F H : Hp) (σ : L2.St) (g : G) (E : DEx) (QV : VK), Rep X.K al S F H σ g → t E g → Lx X.K al S F E W → τ σ H QV
section
variable {X : Cx} {W : WX} {st : Stmt} {rest A B : List Stmt} {τ τ' : TS} {t : DSt} {tx ux : DXt} {e : Expr} {τe : TE} {te : DEx → G → Prop} {pos : Pos}
def xPlain (t : DSt) : DXt := fun D _ g => t D g
theorem dx_plain (h : DS X st τ t) : DX X W st τ (xPlain t) := ⟨h.pe, fun al S F H σ g D DV E R q k _ => h.r al S F H σ g D DV R q k⟩
theorem dxs_plain (h : DSs X rest τ t) : DXs X W rest τ (xPlain t) := ⟨h.pe, fun al S F H σ g D DV E R q k _ => h.r al S F H σ g D DV R q k⟩
def xSeq (t u : DXt) : DXt := fun D E g => t { D with nx := fun g' => u D E g' } E g
theorem dxs_cons (h1 : DX X W st τ tx) (h2 : DXs X W rest τ' ux) : DXs X W (st :: rest) (tSeq τ τ') (xSeq tx ux) := by
  refine ⟨pss_cons h1.pe h2.pe, fun al S F H σ g D DV E R q k kx => ?_⟩
  refine h1.r al S F H σ g { D with nx := fun g' => ux D E g' } { DV with nx := τ' DV } E R q ⟨fun al1 S1 H1 σ1 g1 R1 gr1 q1 => ?_, k.rt, k.bk, k.ct⟩ kx
  exact h2.r al1 S1 F H1 σ1 g1 D DV E R1 q1 (k.grow gr1) (kx.grow gr1)
theorem dxs_one (h : DX X W st τ tx) : DXs X W [st] τ tx := ⟨pss_one h.pe, h.r⟩
theorem dxs_nil : DXs X W [] tNext (xPlain dNext) := dxs_plain dss_nil
def xIf (c : DTt) (t u : DXt) : DXt := fun D E g => c g fun b g1 => if b = true then t D E g1 else u D E g1
theorem dx_if {c : Expr} {τc : TT} {tc : DTt} (hc : DT X c τc tc) (ha : DXs X W A τ tx) (hb : DXs X W B τ' ux) : DX X W (.If c A B pos) (tIfS τc τ τ') (xIf tc tx ux) := by
  refine ⟨ps_if hc.pe ha.pe hb.pe, fun al S F H σ g D DV E R q k kx => ?_⟩
  refine hc.r al S F H σ g _ _ R q fun al1 S1 H1 g1 b1 R1 gr1 q1 => ?_
  cases b1 with
  | true =>
    simp only [if_true] at q1 ⊢
    exact ha.r al1 S1 F H1 σ g1 _ _ _ R1 q1 (k.grow gr1) (kx.grow gr1)
  | false =>
    simp only [Bool.false_eq_true, if_false] at q1 ⊢
    exact hb.r al1 S1 F H1 σ g1 _ _ _ R1 q1 (k.grow gr1) (kx.grow gr1)
def xExpr (t : DEx → G → Prop) : DXt := fun _ E g => t E g
theorem dx_expr (h : DEX X W e τe te) (hs : swapsWith e none pos.line X.env = pure false := by rfl) : DX X W (.Expr e pos) (tDrop τe) (xExpr te) :=
  ⟨ps_expr h.pe hs, fun al S F H σ g D DV E R q k kx => h.r al S F H σ g E _ R q kx⟩
end
/-! calls of defs that refuse -/
section
variable {K : PySem.W.Frag} {τs : TA} {ts : DAt}
def xCall (C : RC) (t : DAt) : DEx → G → Prop := fun E g => t g fun ws g1 => match treesW ws with
  | some us => ∃ n, C us n ∧ E n g1
  | none => False
end
section
variable {X : Cx} {W : WX} {e : Expr} {es : List Expr} {τs : TA} {ts : DAt} {pos p : Pos}
theorem dex_call {k : Nat} {f : Addr} {fd : FuncData} {ps : List Str} {C : RC} {x : Str} (tk : Takes X W) (F : FnOk X.prog X.w X.K X.mg X.base (L2.CX X.prog X.w) k f fd ps (spr X.K C)) (hr : Room k X.A) (hm : X.mg x = some (.ref f)) (hk : PySem.W.keepIn X.K (.ref f) = true) (hb : Binds X.K fd ps [])
    (hN : ∀ ts n, C ts n → ∃ Cn : Addr, PySem.W.nsIn X.K mainGlobals n = some (some (.ref Cn)))
    (ha : DA X (e :: es) τs ts) (hg : Gl X x := by rfl) (hdb : (x == ("__debug__" : Str)) = false := by decide) (he : starEach (e :: es) X.env = (false, eval e X.env) :: starEach es X.env := by rfl) (hpl : (backTo pos (starEach es X.env)).any (·.1) = false := by rfl) :
    DEX X W (.Call (.Name x p) (e :: es) [] pos) (tCallS (spr X.K C) (WE W) τs) (xCall C ts) := by
  refine ⟨pe_callS F hr hg hm hk hb (fun σ => passAt tk σ) ha.pe hdb he hpl, fun al S Fr H σ g E QV R q kx => ?_⟩
  refine ha.r al S Fr H σ g _ _ R q fun al1 S1 H1 g1 vs ws R1 gr1 e1 q1 => ?_
  split at q1
  · rename_i us eu
    obtain ⟨n, hC, hE⟩ := q1
    obtain ⟨Cn, hCn⟩ := hN us n hC
    refine ⟨S1, frOf al1 Fr H1 g1.mem [], ws, us, n, Cn, R1.toRepM.none0, denW_trees eu e1, eu, hC, hCn, fun S2 H2 M2 sS => ?_⟩
    exact kx n Cn al1 S2 H2 σ g1 hCn (R1.withM2 ⟨⟨[], by simp⟩, sS⟩ (R1.toRepM.back sS M2.same M2.fr M2.dis)) (gr1.trans ⟨⟨[], by simp⟩, sS⟩) hE
  · exact q1.elim
end
/-! a def that refuses -/
section
variable {P : Program} {w : World} {K : PySem.W.Frag} {mg : Str → Option Value} {base : Heap}
theorem xfn_ok {x qual : Str} {st : Stmt} {f : Addr} {fd : FuncData} {N ps : List Str} {k : Nat} {C : RC} (Fn : Fun K x qual st f fd) (Sc : FnScope N ps (defScope st)) (hlen : ∀ ts n, C ts n → ts.length = ps.length)
    (hb : ∀ (cdv : Value) (A : Around) (outer : List Env) (s : Shared) (H : Hp) (E : XK), Room k (A.deeper (PyProof.Rows.envOfC qual (defScope st) s.heap.objs.size f cdv)) →
      Takes (cxOf (L2.CX P w) P w K mg base N qual (defScope st) f cdv A outer s H E) (fun cls d _ H' => E cls d H') →
      ∃ τ t, DXs (cxOf (L2.CX P w) P w K mg base N qual (defScope st) f cdv A outer s H E) (fun cls d _ H' => E cls d H') (defBody st) τ t ∧ ∀ ts n, C ts n → t ⟨fun _ => False, fun _ _ => False, fun _ => False, fun _ => False⟩ (fun m _ => m = n) ⟨ts.map (fun t => some (W.t t)) ++ List.replicate (N.length - ts.length) none, []⟩) :
    FnOk P w K mg base (L2.CX P w) (k + 1) f fd ps (spr K C) := by
  refine Fn.okX Sc (fun vs H Q E h => ?_) fun cdv A outer s H vs Q E hr h => ?_
  · obtain ⟨S, F, ws, ts, n, Cn, M, d, eu, c, hCn, q⟩ := h
    rw [← d.length, treesW_eq eu, List.length_map]
    exact hlen _ _ c
  · obtain ⟨S, F, ws, ts, n, Cn, M, d, eu, c, hCn, q⟩ := h
    obtain ⟨τ, t, D, ht⟩ := hb cdv A outer s H E hr (takes_of rfl rfl rfl rfl)
    refine ⟨τ, D.pe, ?_⟩
    have R := start_rep (N := N) M d
    have ew := treesW_eq eu
    subst ew
    have hw : (ts.map W.t).map some = ts.map (fun t => some (W.t t)) := by rw [List.map_map]; rfl
    rw [hw, List.length_map] at R
    refine D.r [] S F H _ _ _ _ _ R (ht ts n c) ⟨fun _ _ _ _ _ _ _ z => z.elim, fun _ _ _ _ _ _ _ _ _ _ z => z.elim, fun _ _ _ _ _ _ _ z => z.elim, fun _ _ _ _ _ _ _ z => z.elim⟩ fun n' Cn' al' S' H' σ' g' hn' R' gr' e' => ?_
    subst e'
    have hn2 : PySem.W.nsIn K mainGlobals n' = some (some (.ref Cn')) := hn'
    rw [hCn] at hn2
    cases hn2
    have M' := R'.toRepM.sub (r := []) (m2 := []) List.nodup_nil (fun j hj => by simp at hj) rfl (fun i c e => by simp at e)
    exact q S' H' M' gr'.s
end
end DL

namespace DL
open PySem PySem.Spec L2
/-! an own class of exception, told by its name -/
structure XC (K : PySem.W.Frag) (mg : Str → Option Value) (n : Str) (C : Addr) : Prop where
  ns : PySem.W.nsIn K mainGlobals n = some (some (.ref C))
  gm : mg n = some (.ref C)
  kept : PySem.W.keepIn K (.ref C) = true
  sb : PySem.W.subIn K (.ref C) (.type "BaseException") = some true
  ty : PySem.W.typeIn K (.ref C) = some (.type "type")
/-- .. made by name and text -/
structure XM (K : PySem.W.Frag) (mg : Str → Option Value) (n : Str) (C : Addr) : Prop extends XC K mg n C where
  ex : PySem.W.excIn K C [.type "ValueError", .type "Exception", .type "BaseException", .type "object"] "ValueError.__new__" = true
section
variable {X : Cx} {W : WX} {pos pos' p p2 : Pos}
/-- raise X("..") -/
theorem dx_raise {x m : Str} {j : Nat} {C : Addr} (hc : X.calm = true) (tk : Takes X W) (c : XM X.K X.mg x C) (hg : Gl X x := by rfl) (hdb : (x == ("__debug__" : Str)) = false := by decide) :
    DX X W (.Raise (some (.Call (.Name x p) [.Constant (.str m) j p2] [] pos)) none pos') (fun _ σ H => W (.ref C) none σ H) (fun _ E g => E x g) :=
  ⟨ps_raise hc tk (pmk_own PySem.F.excBase_ValueError c.ex c.gm c.kept (raises_own c.sb c.ty) hg hdb), fun al S F H σ g D DV E R q k kx => kx x C al S H σ g c.ns R (Grow.refl _ _) q⟩
end
/-! isinstance of a caught exception, by several own classes -/
theorem call_isX {X : Cx} {C : Addr} (c : ExcC X.K C) : CallR X (.builtin "isinstance") (fun xs H Q => ∃ (a tp : Addr) (cs : List V) (us : List Value) (b : Bool), xs = [.ref a, .ref tp] ∧ H a = some (ExI C a) ∧ H tp = some (.tup cs) ∧ Paired ClsV cs us ∧ PySem.W.kitAny X.K (.ref C) us = some b ∧ Q (.bl b) H) := by
  intro pins s σ H args vals Q I rv0 h
  obtain ⟨a, tp, cs, cv, b, rfl, ha, ht, hp, hb, q⟩ := h
  obtain ⟨u1, u2, rfl, r1, r2⟩ := vals2 rv0
  obtain rfl : u1 = Value.ref a := r1
  obtain rfl : u2 = Value.ref tp := r2
  have look := I.hok a _ ha
  obtain ⟨⟨oe, fv, h1, z, hd⟩, _, _⟩ := look
  have inst : PySem.W.InstAt s.heap a oe C none := by
    obtain ⟨k1, k2, k3, k4⟩ := oe
    obtain ⟨z1, z2⟩ := z
    dsimp only at z1 z2 hd
    subst z1 z2 hd
    exact ⟨h1, rfl, rfl, trivial⟩
  have tup := I.hok tp _ ht
  obtain ⟨_, its, rv, o, g1, g2, n, g3⟩ := (show ObjOk X.prog X.w H s.heap tp (.tup cs) from tup)
  have es := ClsV.all hp rv
  subst es
  obtain ⟨oc, od, dt, sl⟩ := o
  dsimp only at g2 g3
  subst g2 g3
  exact PySem.W.kia_tup (PySem.W.handS_kitx_exc c.hg c.hk c.hs c.hd c.ha c.hn c.ht c.hm) I.kIn inst g1 hb (fun z => nomatch z) fun tk => ⟨.bl b, H, I.tok tk, rfl, q⟩
theorem call_isX1 {X : Cx} {C : Addr} (c : ExcC X.K C) : CallR X (.builtin "isinstance") (fun xs H Q => ∃ (a : Addr) (cv : V) (u : Value) (b : Bool), xs = [.ref a, cv] ∧ H a = some (ExI C a) ∧ ClsV cv u ∧ PySem.W.kitOne X.K (.ref C) u = some b ∧ Q (.bl b) H) := by
  intro pins s σ H args vals Q I rv0 h
  obtain ⟨a, cv, u, b, rfl, ha, hp, hb, q⟩ := h
  obtain ⟨u1, u2, rfl, r1, r2⟩ := vals2 rv0
  obtain rfl : u1 = Value.ref a := r1
  have e2 := hp.eq r2
  subst e2
  have look := I.hok a _ ha
  obtain ⟨⟨oe, fv, h1, z, hd⟩, _, _⟩ := look
  have inst : PySem.W.InstAt s.heap a oe C none := by
    obtain ⟨k1, k2, k3, k4⟩ := oe
    obtain ⟨z1, z2⟩ := z
    dsimp only at z1 z2 hd
    subst z1 z2 hd
    exact ⟨h1, rfl, rfl, trivial⟩
  exact PySem.W.kia_one (PySem.W.handS_kitx_exc c.hg c.hk c.hs c.hd c.ha c.hn c.ht c.hm) I.kIn inst hb (fun z => nomatch z) fun tk => ⟨.bl b, H, I.tok tk, rfl, q⟩
end DL

namespace DL
open PySem PySem.Spec L2 PyProof.Rows
/-! a caught exception stays looked at behind its suite -/
section
variable {X : Cx} {pins : List (Addr × Obj)} {σ : L2.St} {H : Hp} {s : Shared} {a C : Addr} {oe : Obj}
theorem keepPin {more : List (Addr × Obj)} (J : Inv (X.suite a ((a, oe) :: (X.pn ++ pins))) more σ H s) (ok : X.Ok) : Inv X ((a, oe) :: pins) σ H s where
  ok := ok
  os := J.os
  bare := J.bare
  base := J.base
  loc := J.loc
  cell := J.cell
  free := J.free
  freeC := J.freeC
  hok := J.hok
  len := J.len
  pin := fun q hq => J.pin q (by
    refine List.mem_append_left _ ?_
    rcases List.mem_append.mp hq with z | z
    · exact List.mem_cons_of_mem _ (List.mem_append_left _ z)
    · rcases List.mem_cons.mp z with y | z
      · rw [y]
        exact List.mem_cons_self
      · exact List.mem_cons_of_mem _ (List.mem_append_right _ z))
theorem track (J : Inv X ((a, oe) :: pins) σ H s) (old : X.s_0.heap.get? a = none) (apart : ∀ q ∈ X.pn ++ pins, q.1 ≠ a) (hz : Zc (.ref C) none oe) (hf : ∃ vs, oe.data = .fields vs) : Inv X pins σ (upd H a (ExI C a)) s := by
  obtain ⟨ha, na, nl, nf, nc⟩ := J.pin (a, oe) (List.mem_append_right _ List.mem_cons_self)
  dsimp only at ha na nl nf nc
  have other : ∀ {b : Addr} {o : HO}, H b = some o → b ≠ a := fun {b o} q z => by
    rw [z, na] at q
    cases q
  have was : ∀ {b : Addr} {o : Obj}, X.s_0.heap.get? b = some o → b ≠ a := fun {b o} q z => by
    rw [z, old] at q
    cases q
  have cne : ∀ y c, X.env.cells.lookup y = some c → c ≠ a := fun y c q z => by
    obtain ⟨v, o, h1, h2⟩ := J.cell y c q
    rw [z, ha] at h1
    cases h1
    exact nc v h2
  refine ⟨J.ok, J.os, J.bare, ⟨J.base.keep, J.base.slot, ?_, J.base.there, ?_, ?_, ?_⟩, J.loc, J.cell, ?_, ?_, ?_, ?_, J.len⟩
  · intro b o h1 h2 h3
    rw [upd_ne (was h1)]
    exact J.base.free b o h1 h2 h3
  · intro b xs h1
    have h2 := J.base.tups b xs h1
    rw [upd_ne (other h2), h2]
  · intro b o u h1
    have h2 := J.base.frzs b o u h1
    rw [upd_ne (other h2), h2]
  · intro b ps h1
    obtain ⟨m, h2⟩ := J.base.tbls b ps h1
    exact ⟨m, by rw [upd_ne (other h2), h2]⟩
  · rw [upd_ne (fun z => nl z.symm)]
    exact J.free
  · intro y c q
    rw [upd_ne (cne y c q)]
    exact J.freeC y c q
  · intro q hq
    obtain ⟨p1, p2, p3⟩ := J.pin q (by
      rcases List.mem_append.mp hq with y | z
      · exact List.mem_append_left _ y
      · exact List.mem_append_right _ (List.mem_cons_of_mem _ z))
    exact ⟨p1, by rw [upd_ne (apart q hq)]; exact p2, p3⟩
  · intro b o q
    by_cases hb : b = a
    · subst hb
      rw [upd_same] at q
      cases q
      obtain ⟨vs, hd⟩ := hf
      refine ⟨⟨oe, vs, ha, hz, hd⟩, ⟨oe, ha⟩, ?_⟩
      rintro h1 h2 ⟨o', v', e1, e2⟩ k
      exact ⟨o', v', k o' e1, e2⟩
    · rw [upd_ne hb] at q
      have st := J.hok b o q
      refine st.stay ?_ ?_ ?_
      · exact fun _ _ _ z => z
      · intro c z
        rw [upd_ne (other z)]
        exact z
      · intro c xs z
        rw [upd_ne (other z)]
        exact z
end
/-- what the clause wishes: the suite, then the exception looked at -/
def wKeep (K : PySem.W.Frag) (c : Value) (i : Nat) (ts : Addr → TS) (D : Ends) : WX := fun cls d σ H => PySem.W.exmOne K cls c = some true ∧ ∃ C : Addr, cls = .ref C ∧ d = none ∧ ∀ a, H a = none →
  ts a { nx := fun σ' H' => D.nx (σ'.set i none) (upd H' a (ExI C a)), rt := fun _ _ => False, bk := fun _ _ => False, ct := fun _ _ => False } (σ.set i (some (.ref a))) H
section
variable {X : Cx} {x n : Str} {c : Value} {i : Nat} {body suite : List Stmt} {b₀ : Stmt} {np pos pos' : Pos} {tb : WX → TS} {ts : Addr → TS}
theorem ps_try_keep (hst : X.stack = X.env :: X.outer) (hfr : X.env.frame = some X.env.locals) (hex : X.ex = []) (nd : X.N.Nodup) (hi : X.N[i]? = some n) (loc : X.env.kindOf n = some .local) (nm : Names X x c)
    (body_ok : ∀ (W : WX) (pn : List (Addr × Obj)) (xe : Value → Shared → Prop), Takes (X.tr pn xe) W → PassesOwn (model X.prog X.w) X.A X.env xe → PSs (X.tr pn xe) body (tb W))
    (suite_ok : ∀ (a : Addr) (oe : Obj) (pn : List (Addr × Obj)), (∃ vs, oe.data = .fields vs) → PSs (X.suite a ((a, oe) :: pn)) (b₀ :: suite) (ts a)) :
    PS X (.Try body [.ExceptHandler (some (.Name x np)) (some n) (b₀ :: suite) pos'] [] [] pos) (fun D σ H => tb (wKeep X.K c i ts D) D σ H) := by
  refine ⟨fun pins s σ H D I wish => ?_⟩
  have frames : X.A.frames = some (X.env :: X.outer) := by
    rw [I.ok.frames, hst]
  let catch_ : Value → Shared → Prop := fun e s₁ =>
    wpAny (model X.prog X.w) X.A (noteFrame e X.env) (fun _ s₂ =>
      wpAny (model X.prog X.w) X.A (setFlight e none) (fun _ s₃ =>
        wpAny (model X.prog X.w) X.A (handleBy e X.env [.ExceptHandler (some (.Name x np)) (some n) (b₀ :: suite) pos']) (SP X pins D) X.xe s₃) X.xe s₂) X.xe s₁
  have takes : Takes (X.tr (X.pn ++ pins) catch_) (wKeep X.K c i ts D) := by
    rintro u s' ⟨a, B, sI, pins', σ', H', cls, d, rfl, J0, nb, up, sky, na, os, ag, match_, C, rfl, rfl, run⟩
    have J := J0.ofTry I.ok
    rw [show (X.tr (X.pn ++ pins) catch_).stack = X.env :: X.outer from hst] at sky
    refine sky.land (M := model X.prog X.w) Zc.steady frames hfr fun hp3 fl3 up3 => ?_
    have B0 : B.get? a = none := fl3.2.1
    have J3 : Inv X pins σ' H' { s' with heap := hp3 } := J.landed nb fl3.1 (up.trans up3) os ag
    obtain ⟨o3, v3, get3, z3, d3⟩ := fl3.there
    have noFrame : a ∉ frs (X.env :: X.outer) := by
      intro hm
      obtain ⟨_, o', e', hn⟩ := fl3.2.2.1.mem hm
      rw [get3] at e'
      cases e'
      exact hn _ d3
    have notLoc : a ≠ X.env.locals := fun z => noFrame (List.mem_filterMap.mpr ⟨X.env, List.mem_cons_self, by rw [hfr, z]⟩)
    have notFs : a ∉ X.fs := by
      intro hm
      obtain ⟨en, he, q⟩ := List.mem_filterMap.mp hm
      exact noFrame (List.mem_filterMap.mpr ⟨en, List.mem_cons_of_mem _ he, q⟩)
    have freshI : ∀ {b : Addr} {o : Obj}, sI.heap.get? b = some o → b ∉ frs X.stack → b ≠ a := fun {b o} e hb z => by
      have := nb b o e hb
      rw [z, B0] at this
      cases this
    have apart : ∀ q ∈ X.pn ++ pins, q.1 ≠ a := by
      intro q hq
      obtain ⟨g1, g2, g3, g4, g5⟩ := J.pin q hq
      refine freshI g1 ?_
      rw [hst]
      intro hm
      obtain ⟨e, he, hq2⟩ := List.mem_filterMap.mp hm
      rcases List.mem_cons.mp he with rfl | hout
      · rw [hfr] at hq2
        injection hq2 with z
        exact (g3 z.symm).elim
      · exact g4 (List.mem_filterMap.mpr ⟨e, hout, hq2⟩)
    have old : X.s_0.heap.get? a = none := by
      cases q : X.s_0.heap.get? a with
      | none => rfl
      | some o =>
        obtain ⟨o', q2⟩ := J.base.there a o q (by rw [hex]; exact fun z => nomatch z)
        exact absurd rfl (freshI q2 (by rw [hst]; exact noFrame))
    have S3 := J3.suite get3 d3 na notLoc notFs
    refine wpAny_handleBy_cons ?_ (by intro q; cases q)
    refine codeAny_handlers_test ?_
    have typ : PySem.W.Looks (model X.prog X.w) hp3 (typeOf (.ref a)) (.ref C) := fun A Q E s k q => wpAny_typeOf_ref (k _ _ get3) (by
      rw [z3.1]
      exact q)
    have yes := PySem.W.exm_one (M := model X.prog X.w) J3.kIn typ match_
    have named : ∀ {Q : Value → Shared → Prop} {E : Value → Shared → Prop}, Q c { s' with heap := hp3 } →
        wpAny (model X.prog X.w) (X.A.mark (some (.ref a))) (eval (.Name x np) X.env) Q E { s' with heap := hp3 } := by
      intro Q E q
      rcases nm with ⟨n1, n2, n3 | ⟨n3, n4, n5⟩⟩
      · exact ld_glob (X := X.suite a ((a, o3) :: (X.pn ++ pins))) S3 n1 n3 q n2
      · exact ld_blt (X := X.suite a ((a, o3) :: (X.pn ++ pins))) S3 n1 n3 n4 q n5 n2
    refine named (yes.here (codeAny_handlers_suite_as ?_))
    refine HandSPX.lands_againZ fl3 fun hp4 fl4 up4 => ?_
    have J4 : Inv X pins σ' H' { s' with heap := hp4 } := J.landed nb fl4.1 ((up.trans up3).trans up4) os ag
    obtain ⟨o4, v4, get4, z4, d4⟩ := fl4.there
    have S4 := J4.suite get4 d4 na notLoc notFs
    refine store_ok (X := X.suite a ((a, o4) :: (X.pn ++ pins))) (v := .ref a) S4 nd hi (.inl loc) rfl (fun s5 S5 => ?_) (.inr loc)
    have sr := (suite_ok a o4 (X.pn ++ pins) ⟨_, d4⟩).run [] s5 _ H' _ S5 (run a na)
    refine wpAny_mono sr (fun f s6 hsp => ?_) (fun _ _ z => False.elim z)
    cases f with
    | next =>
      obtain ⟨σe, He, Se, qe⟩ := hsp
      refine gone_ok (keepPin Se I.ok) nd hi loc fun s7 J7 => ?_
      exact ⟨_, _, track J7 old apart z4 ⟨_, d4⟩, qe⟩
    | brk =>
      obtain ⟨_, _, _, z⟩ := hsp
      exact z.elim
    | cont =>
      obtain ⟨_, _, _, z⟩ := hsp
      exact z.elim
    | ret u =>
      obtain ⟨_, _, _, _, _, z⟩ := hsp
      exact z.elim
  have br := (body_ok (wKeep X.K c i ts D) (X.pn ++ pins) catch_ takes PassesOwn.looking).run [] s σ H D (I.toTry _) wish
  refine wpAny_Try_except (wpAny_mono br (fun f s1 hsp => ?_) (fun e s1 he => he))
  cases f with
  | next =>
    obtain ⟨σb, Hb, J', q⟩ := hsp
    exact wpAny_execs_nil ⟨_, _, J'.ofTry I.ok, q⟩
  | brk =>
    obtain ⟨σb, Hb, J', q⟩ := hsp
    exact ⟨_, _, J'.ofTry I.ok, q⟩
  | cont =>
    obtain ⟨σb, Hb, J', q⟩ := hsp
    exact ⟨_, _, J'.ofTry I.ok, q⟩
  | ret u =>
    obtain ⟨v, σb, Hb, J', r, q⟩ := hsp
    exact ⟨v, _, _, J'.ofTry I.ok, r, q⟩
end
end DL

namespace DL
open PySem PySem.Spec L2 PyProof.Rows
/-! own classes by names -/
def subX (n m : Str) : Bool := n == m || (m == ("CountError" : Str) || m == ("ValueError" : Str))
abbrev IsC (K : PySem.W.Frag) (n : Str) (C : Addr) : Prop := PySem.W.nsIn K mainGlobals n = some (some (.ref C))
/-- what is raised (R) and what it is asked for (M) -/
structure XI (K : PySem.W.Frag) (mg : Str → Option Value) (R M : List Str) : Prop where
  exc : ∀ n ∈ R, ∀ C, IsC K n C → ExcC K C
  cls : ∀ m ∈ M, ∃ Cm : Addr, mg m = some (.ref Cm) ∧ ∀ n ∈ R, ∀ C, IsC K n C → PySem.W.kitOne K (.ref C) (.ref Cm) = some (subX n m)
  val : mg "ValueError" = none ∧ ∀ n ∈ R, ∀ C, IsC K n C → PySem.W.kitOne K (.ref C) (.type "ValueError") = some true
  exm : ∃ Cc : Addr, mg "CountError" = some (.ref Cc) ∧ ∀ n ∈ R, ∀ C, IsC K n C → PySem.W.exmOne K (.ref C) (.ref Cc) = some true
section
variable {X : Cx} {W : WX} {st : Stmt} {rest : List Stmt} {τ τ' : TS} {tx ux : DXt} {e : Expr}
/-- a suite's wish, told by its reading -/
def semX (K : PySem.W.Frag) (t : DXt) (W : WX) : TS := fun D σ H => ∃ (al : List Addr) (S F : Hp) (g : G) (Dd : De) (E : DEx), Rep K al S F H σ g ∧ t Dd E g ∧ Lk K al S F Dd D ∧ Lx K al S F E W
theorem DXs.sem {sts : List Stmt} {t : DXt} (h : DXs X W sts τ t) : PSs X sts (semX X.K t W) := ⟨fun pins s σ H D I ⟨al, S, F, g, Dd, E, R, q, k, kx⟩ => h.pe.run pins s σ H D I (h.r al S F H σ g Dd D E R q k kx)⟩
/-! try: .. except CountError as e: caught = e -/
def dTry (R : List Str) (i j : Nat) (t : DXt) : DSt := fun D g => t D (fun n g' => n ∈ R ∧ i < g'.sl.length ∧ D.nx ((g'.set j (.t (.exc n))).wipe [i])) g
theorem set_w {α : Type} (l : List α) {i j : Nat} (h : i ≠ j) (x y z : α) : (((l.set i x).set j y).set i z) = ((l.set j y).set i z) := by
  rw [List.set_comm x y h, List.set_set]
theorem ds_try {R M : List Str} (i j : Nat) {n z : Str} {body : List Stmt} {np ps1 ps2 ps3 pos pos' : Pos} {t : DXt} (hij : i ≠ j) (xi : XI X.K X.mg R M) (nd : X.N.Nodup)
    (body_ok : ∀ (W : WX) (pn : List (Addr × Obj)) (xe : Value → Shared → Prop), Takes (X.tr pn xe) W → ∃ τ, DXs (X.tr pn xe) W body τ t)
    (hst : X.stack = X.env :: X.outer := by rfl) (hfr : X.env.frame = some X.env.locals := by rfl) (hex : X.ex = [] := by rfl) (hi : X.N[i]? = some n := by rfl) (hj : X.N[j]? = some z := by rfl) (loc : X.env.kindOf n = some .local := by rfl) (locz : X.env.kindOf z = some .local := by rfl) (hg : Gl X "CountError" := by rfl)
    (hdn : (n == ("__debug__" : Str)) = false := by decide) (hcn : (n == ("__classdict__" : Str)) = false := by decide)
    (sok : ∀ (a : Addr) (pn : List (Addr × Obj)), swapsWith (.Name n ps1) (some (.Name z ps2)) ps3.line (X.suite a pn).env = pure false := by intro _ _; rfl) :
    ∃ τ, DS X (.Try body [.ExceptHandler (some (.Name "CountError" np)) (some n) [.Assign [.Name z ps2] (.Name n ps1) ps3] pos'] [] [] pos) τ (dTry R i j t) := by
  obtain ⟨Cc, mc, hc⟩ := xi.exm
  have nm : Names X "CountError" (.ref Cc) := ⟨hg, by decide, .inl mc⟩
  have hin : i < X.N.length := by
    rcases Nat.lt_or_ge i X.N.length with q | q
    · exact q
    · rw [List.getElem?_eq_none q] at hi
      cases hi
  have pe := ps_try_keep (X := X) (x := "CountError") (n := n) (c := .ref Cc) (i := i) (body := body) (suite := []) (b₀ := .Assign [.Name z ps2] (.Name n ps1) ps3) (np := np) (pos := pos) (pos' := pos') (tb := semX X.K t) (ts := fun _ => tAsg (tVar i) (gName j)) hst hfr hex nd hi loc nm
    (fun W pn xe tk _ => by
      obtain ⟨τ, d⟩ := body_ok W pn xe tk
      exact d.sem)
    (fun a oe pn _ => pss_one (ps_set (X := X.suite a ((a, oe) :: pn)) (i := j) nd hj (.inl locz) (pe_var (X := X.suite a ((a, oe) :: pn)) hi (.inl loc) hdn hcn) (sok a _) (.inr locz)))
  refine ⟨_, pe, fun al S F H σ g D DV R0 q k => ?_⟩
  refine ⟨al, S, F, g, D, _, R0, q, k, fun m Cm al1 S1 H1 σ1 g1 hm R1 gr1 hE => ?_⟩
  obtain ⟨hmR, hlen, hnx⟩ := hE
  refine ⟨hc m hmR Cm hm, Cm, rfl, rfl, fun a na => ?_⟩
  refine ⟨.ref a, ?_, ?_⟩
  · rw [List.getElem?_set_self (by rw [← R1.slen]; exact hlen)]
  · obtain ⟨R2, gr2⟩ := R1.layT (o := ExI Cm a) na
    have d2 : DenW X.K al1 (upd S1 a (ExI Cm a)) (.t (.exc m)) (.ref a) := by
      unfold DenW Den
      exact ⟨a, Cm, rfl, hm, upd_same⟩
    have R3 := (R2.setSlot (i := j) d2).wiped (vs := [i])
    have es : ((σ1.set i (some (V.ref a))).set j (some (V.ref a))).set i none = wipe (σ1.set j (some (V.ref a))) [i] := set_w _ hij _ _ _
    show DV.nx (((σ1.set i (some (V.ref a))).set j (some (V.ref a))).set i none) (upd H1 a (ExI Cm a))
    rw [es]
    exact k.nx _ _ _ _ _ R3 (gr1.trans gr2) hnx
end
/-! isinstance of what was caught -/
section
variable {X : Cx} {p p1 p2 pos : Pos} {R M : List Str}
structure DC (X : Cx) (R : List Str) (e : Expr) (τ : TE) (m : Str) : Prop where
  pe : PE X e τ
  r : ∃ (c : V) (u : Value), ClsV c u ∧ (∀ n ∈ R, ∀ C, IsC X.K n C → PySem.W.kitOne X.K (.ref C) u = some (subX n m)) ∧ ∀ (σ : L2.St) (H : Hp) (Q : VK), Q c H → τ σ H Q
theorem dc_cls {m : Str} (xi : XI X.K X.mg R M) (hm : m ∈ M := by decide) (hg : Gl X m := by rfl) (hd : (m == ("__debug__" : Str)) = false := by decide) : ∃ τ, DC X R (.Name m p) τ m := by
  obtain ⟨C, hC, h⟩ := xi.cls m hm
  exact ⟨_, pe_glob (v := .ref C) hg hC rfl hd, .ref C, .ref C, .own C, h, fun σ H Q q => q⟩
theorem subX_val (n : Str) : subX n "ValueError" = true := by unfold subX; simp
theorem dc_val (xi : XI X.K X.mg R M) (hg : Gl X "ValueError" := by rfl) : ∃ τ, DC X R (.Name "ValueError" p) τ "ValueError" := by
  refine ⟨_, pe_bltn (v := .ty "ValueError") hg xi.val.1 (by decide +kernel) rfl (by decide) (by decide), .ty "ValueError", .type "ValueError", .ty _, fun n hn C hC => ?_, fun σ H Q q => q⟩
  rw [subX_val]
  exact xi.val.2 n hn C hC
structure DCs (X : Cx) (R : List Str) (es : List Expr) (τ : TA) (ms : List Str) : Prop where
  pe : PA X es τ
  r : ∃ (cs : List V) (us : List Value), cs.length = ms.length ∧ Paired ClsV cs us ∧ (∀ n ∈ R, ∀ C, IsC X.K n C → PySem.W.kitAny X.K (.ref C) us = some (ms.any (subX n))) ∧ ∀ (σ : L2.St) (H : Hp) (Q : List V → Hp → Prop), Q cs H → τ σ H Q
theorem dcs_nil : ∃ τ, DCs X R [] τ [] := ⟨_, pa_nil, [], [], rfl, .nil, fun _ _ _ _ => rfl, fun σ H Q q => q⟩
theorem dcs_cons {e : Expr} {es : List Expr} {m : Str} {ms : List Str} (h1 : ∃ τ, DC X R e τ m) (h2 : ∃ τ, DCs X R es τ ms) (hs : starEach (e :: es) X.env = (false, eval e X.env) :: starEach es X.env := by rfl) : ∃ τ, DCs X R (e :: es) τ (m :: ms) := by
  obtain ⟨τ1, pe1, c, u, hc, hk, hq⟩ := h1
  obtain ⟨τ2, pe2, cs, us, hl, hcs, hks, hqs⟩ := h2
  refine ⟨_, pa_cons pe1 pe2 hs, c :: cs, u :: us, by rw [List.length_cons, List.length_cons, hl], .cons hc hcs, fun n hn C hC => ?_, fun σ H Q q => hq σ H _ (hqs σ H _ q)⟩
  rw [List.any_cons]
  refine kitAny_cons (hk n hn C hC) (fun hb => ?_) (fun hb => ?_)
  · rw [hb, Bool.false_or]
    exact hks n hn C hC
  · rw [hb, Bool.true_or]
def dIsX (R : List Str) (i : Nat) (ms : List Str) : Dt := fun g Q => match g.sl[i]? with | some (some (.t (.exc n))) => n ∈ R ∧ Q (.t (.bl (ms.any (subX n)))) g | _ => False
theorem call_isXe : CallR X (.builtin "isinstance") (fun xs H Q => ∃ C, ExcC X.K C ∧ ∃ (a tp : Addr) (cs : List V) (us : List Value) (b : Bool), xs = [.ref a, .ref tp] ∧ H a = some (ExI C a) ∧ H tp = some (.tup cs) ∧ Paired ClsV cs us ∧ PySem.W.kitAny X.K (.ref C) us = some b ∧ Q (.bl b) H) :=
  fun pins s σ H args vals Q I rv h => by
    obtain ⟨C, c, h⟩ := h
    exact call_isX c pins s σ H args vals Q I rv h
theorem call_isXo : CallR X (.builtin "isinstance") (fun xs H Q => ∃ C, ExcC X.K C ∧ ∃ (a : Addr) (cv : V) (u : Value) (b : Bool), xs = [.ref a, cv] ∧ H a = some (ExI C a) ∧ ClsV cv u ∧ PySem.W.kitOne X.K (.ref C) u = some b ∧ Q (.bl b) H) :=
  fun pins s σ H args vals Q I rv h => by
    obtain ⟨C, c, h⟩ := h
    exact call_isX1 c pins s σ H args vals Q I rv h
theorem de_isXT (i : Nat) {x : Str} {es : List Expr} {ms : List Str} {x1} (xi : XI X.K X.mg R M) (hm : X.mg "isinstance" = none) (hc : ∃ τ, DCs X R es τ ms) (hl : ms.length ≤ 100 := by decide)
    (hN : X.N[i]? = some x := by rfl) (hv : Vis X.env.scope x := by first | exact Or.inl rfl | exact Or.inr (Or.inl rfl) | exact Or.inr (Or.inr rfl)) (hd : (x == ("__debug__" : Str)) = false := by decide)
    (hcd : (x == ("__classdict__" : Str)) = false := by decide) (hg : Gl X "isinstance" := by rfl) (he : starEach [.Name x p1, .Tuple es x1 p2] X.env = (false, eval (.Name x p1) X.env) :: starEach [.Tuple es x1 p2] X.env := by rfl) (he2 : starEach [.Tuple es x1 p2] X.env = (false, eval (.Tuple es x1 p2) X.env) :: starEach [] X.env := by rfl) (hpl : (backTo pos (starEach [.Tuple es x1 p2] X.env)).any (·.1) = false := by rfl) :
    ∃ τ, DE X (.Call (.Name "isinstance" p) [.Name x p1, .Tuple es x1 p2] [] pos) τ (dIsX R i ms) := by
  obtain ⟨τs, pec, cs, us, hlc, hcs, hks, hqs⟩ := hc
  have ha : PA X [.Name x p1, .Tuple es x1 p2] (tCons (tVar i) (tCons (tTup τs) tNil)) := pa_cons (pe_var hN hv hd hcd) (pa_cons (pe_tup pec) pa_nil he2) he
  refine ⟨_, pe_callB call_isXe hg hm (by decide +kernel) ha (by decide) (by decide) he hpl, fun al S F H σ g Q QV R0 q k => ?_⟩
  unfold dIsX at q
  split at q
  · rename_i n hs
    obtain ⟨hn, q⟩ := q
    obtain ⟨v, h1, d⟩ := R0.slot i _ hs
    have d' := d
    unfold DenW Den at d'
    obtain ⟨a, C, rfl, hC, hS⟩ := d'
    refine ⟨.ref a, h1, hqs σ H _ ⟨?_, fun t nt => ?_⟩⟩
    · have : (100 : Nat) ≤ sizeLine := by decide
      omega
    · obtain ⟨R1, gr⟩ := R0.layT (o := .tup cs) nt
      refine ⟨C, xi.exc n hn C hC, a, t, cs, us, _, rfl, ?_, upd_same, hcs, hks n hn C hC, k al (upd S t (.tup cs)) (upd H t (.tup cs)) g (.bl (ms.any (subX n))) (.t (.bl (ms.any (subX n)))) R1 gr (by unfold DenW Den; rfl) q⟩
      have h2 := R0.same _ _ hS
      rw [upd_ne (ne_of_none h2 nt)]
      exact h2
  · exact q.elim
theorem de_isX1 (i : Nat) {x m : Str} {e : Expr} (xi : XI X.K X.mg R M) (hm : X.mg "isinstance" = none) (hc : ∃ τ, DC X R e τ m)
    (hN : X.N[i]? = some x := by rfl) (hv : Vis X.env.scope x := by first | exact Or.inl rfl | exact Or.inr (Or.inl rfl) | exact Or.inr (Or.inr rfl)) (hd : (x == ("__debug__" : Str)) = false := by decide)
    (hcd : (x == ("__classdict__" : Str)) = false := by decide) (hg : Gl X "isinstance" := by rfl) (he : starEach [.Name x p1, e] X.env = (false, eval (.Name x p1) X.env) :: starEach [e] X.env := by rfl) (he2 : starEach [e] X.env = (false, eval e X.env) :: starEach [] X.env := by rfl) (hpl : (backTo pos (starEach [e] X.env)).any (·.1) = false := by rfl) :
    ∃ τ, DE X (.Call (.Name "isinstance" p) [.Name x p1, e] [] pos) τ (dIsX R i [m]) := by
  obtain ⟨τs, pec, c, u, hcv, hks, hqs⟩ := hc
  have ha : PA X [.Name x p1, e] (tCons (tVar i) (tCons τs tNil)) := pa_cons (pe_var hN hv hd hcd) (pa_cons pec pa_nil he2) he
  refine ⟨_, pe_callB call_isXo hg hm (by decide +kernel) ha (by decide) (by decide) he hpl, fun al S F H σ g Q QV R0 q k => ?_⟩
  unfold dIsX at q
  split at q
  · rename_i n hs
    obtain ⟨hn, q⟩ := q
    obtain ⟨v, h1, d⟩ := R0.slot i _ hs
    have d' := d
    unfold DenW Den at d'
    obtain ⟨a, C, rfl, hC, hS⟩ := d'
    refine ⟨.ref a, h1, hqs σ H _ ⟨C, xi.exc n hn C hC, a, c, u, _, rfl, R0.same _ _ hS, hcv, hks n hn C hC, ?_⟩⟩
    rw [List.any_cons, List.any_nil, Bool.or_false] at q
    exact k al S H g (.bl (subX n m)) (.t (.bl (subX n m))) R0 (Grow.refl _ _) (by unfold DenW Den; rfl) q
  · exact q.elim
end
/-! a def that refuses, as the derivations hand it on -/
structure KnX (P : Program) (w : World) (K : PySem.W.Frag) (mg : Str → Option Value) (base : Heap) (k : Nat) (x : Str) (ps : List Str) (C : RC) : Prop where
  ex : ∃ f fd, FnOk P w K mg base (L2.CX P w) k f fd ps (spr K C) ∧ mg x = some (.ref f) ∧ PySem.W.keepIn K (.ref f) = true ∧ Binds K fd ps [] ∧ ∀ ts n, C ts n → ∃ Cn : Addr, PySem.W.nsIn K mainGlobals n = some (some (.ref Cn))
theorem KnX.mono {P : Program} {w : World} {K : PySem.W.Frag} {mg : Str → Option Value} {base : Heap} {j k : Nat} {x : Str} {ps : List Str} {C : RC} (h : KnX P w K mg base j x ps C) (hk : j ≤ k) : KnX P w K mg base k x ps C := by
  obtain ⟨f, fd, a, b, c, d, e⟩ := h.ex
  exact ⟨f, fd, a.mono hk, b, c, d, e⟩
end DL

namespace DL
open PySem PySem.Spec L2 PyProof.Rows
/-! more that raises -/
section
variable {X : Cx} {W : WX} {st : Stmt} {A B : List Stmt} {τ τ' : TS} {tx ux : DXt} {e a b : Expr} {τe τb : TE} {te : DEx → G → Prop} {pos : Pos}
structure DTX (X : Cx) (W : WX) (e : Expr) (τ : TT) (t : DEx → G → Prop) : Prop where
  pe : PT X e τ
  r : ∀ (al : List Addr) (S F H : Hp) (σ : L2.St) (g : G) (E : DEx) (QV : Bool → Hp → Prop), Rep X.K al S F H σ g → t E g → Lx X.K al S F E W → τ σ H QV
end
/-- a law's own classes: what is raised, what it is asked for -/
structure XF (K : PySem.W.Frag) (mg : Str → Option Value) (R M : List Str) : Prop where
  xi : XI K mg R M
  nm : ∀ n ∈ R, ∃ C, XM K mg n C
theorem only {K : PySem.W.Frag} {n : Str} {c C : Addr} (b : PySem.W.nsIn K mainGlobals n = some (some (.ref c))) (h : IsC K n C) : c = C := by
  have h' : PySem.W.nsIn K mainGlobals n = some (some (.ref C)) := h
  rw [b] at h'
  cases h'
  rfl
theorem kit_self {K : PySem.W.Frag} {c : Addr} : PySem.W.kitOne K (.ref c) (.ref c) = some true := by
  unfold PySem.W.kitOne
  rw [if_pos (beq_self_eq_true _)]
theorem kit_own {K : PySem.W.Frag} {n c : Addr} {b : Bool} (ne : n ≠ c) (ic : PySem.W.isClsIn K c = true) (tc : PySem.W.typeIn K (.ref c) = some (.type "type")) (s : PySem.W.subIn K (.ref n) (.ref c) = some b) : PySem.W.kitOne K (.ref n) (.ref c) = some b := by
  have e0 : (Value.ref n == Value.ref c) = false := Bool.eq_false_iff.mpr fun z => ne (Value.ref.inj (beq_iff_eq.mp z))
  have ic' : (PySem.W.clsIn K c).isSome = true := ic
  have e2 : ((PySem.W.clsIn K c).isSome && PySem.W.typeIn K (.ref c) == some (.type "type")) = true := by
    rw [ic', tc] <;> rfl
  unfold PySem.W.kitOne
  rw [e0, if_neg Bool.false_ne_true]
  show (if ((PySem.W.clsIn K c).isSome && PySem.W.typeIn K (.ref c) == some (.type "type")) = true then PySem.W.subIn K (.ref n) (.ref c) else none) = some b
  rw [if_pos e2]
  exact s
theorem kit_val {K : PySem.W.Frag} {n : Addr} (s : PySem.W.subIn K (.ref n) (.type "ValueError") = some true) : PySem.W.kitOne K (.ref n) (.type "ValueError") = some true := by
  unfold PySem.W.kitOne
  have e0 : (Value.ref n == Value.type "ValueError") = false := Bool.eq_false_iff.mpr fun z => by
    have := beq_iff_eq.mp z
    cases this
  rw [e0, if_neg Bool.false_ne_true]
  show (if PySem.W.kitMeta "ValueError" = true then PySem.W.subIn K (.ref n) (.type "ValueError") else none) = some true
  rw [if_pos (by decide +kernel)]
  exact s
def xRaise (n : Str) : DXt := fun _ E g => E n g
/-! steps -/
section
variable {D : De} {E : DEx} {g : G} {t u : DXt}
theorem x_seq (h : t { D with nx := fun g' => u D E g' } E g) : xSeq t u D E g := h
theorem x_plain {t : DSt} (h : t D g) : xPlain t D E g := h
theorem x_if {c : DTt} (h : c g fun b g1 => if b = true then t D E g1 else u D E g1) : xIf c t u D E g := h
theorem x_expr {t : DEx → G → Prop} (h : t E g) : xExpr t D E g := h
theorem x_call {C : RC} {ts : DAt} (h : ts g fun ws g1 => onTs ws fun us => ∃ n, C us n ∧ E n g1) : xCall C ts E g := h
theorem x_raise {n : Str} (h : E n g) : xRaise n D E g := h
theorem x_try {R : List Str} {i j : Nat} (h : t D (fun n g' => n ∈ R ∧ i < g'.sl.length ∧ D.nx ((g'.set j (.t (.exc n))).wipe [i])) g) : dTry R i j t D g := h
theorem i_isX {R ms : List Str} {i : Nat} {n : Str} {Q : W → G → Prop} (e : g.sl[i]? = some (some (.t (.exc n)))) (hn : n ∈ R) (h : Q (.t (.bl (ms.any (subX n)))) g) : dIsX R i ms g Q := by
  unfold dIsX
  rw [e]
  exact ⟨hn, h⟩
end
end DL

namespace DL
open PySem PySem.Spec L2 PyProof.Rows
/-! a loop that may raise -/
section
variable {X : Cx} {W : WX} {tg iter : Expr} {τ : TS} {t : DXt} {pos : Pos}
end
end DL

namespace DL
open PySem PySem.Spec L2
/-! sorted(set(a list of ints)) -/
section
open PyProof.Rows
variable {P : Program} {w : World} {A : Around} {E : Value → Shared → Prop} {s : Shared}
end
/-- the set of the ints of a list, m of them -/
def SetI (w : World) (a : Addr) (xs : List Int) (m : Nat) : HO := .ext fun h => SetR w h a (fun j => decide (j ∈ xs)) m
section
variable {X : Cx}
/-- set(l) -/
def rSetL (K : PySem.W.Frag) (w : World) : List V → Hp → VK → Prop := fun vs H Q => ∃ (a : Addr) (xs : List Int), vs = [V.ref a] ∧ SqL K H a (xs.map V.int) ∧ xs.length ≤ 1000 ∧ ∀ p m, H p = none → m ≤ xs.length → Q (.ref p) (upd H p (SetI w p xs m))
end
/-! sorted(set(l)), read -/
section
variable {X : Cx} {e : Expr} {es : List Expr} {τs : TA} {ts : DAt} {p p2 pos pos2 : Pos}
end
/-! a list in a list of lists -/
section
variable {X : Cx} {a b : Expr} {τa τb : TE} {ta tb : Dt} {pos : Pos} {kk : Nat}
end
end DL

namespace DL
open PySem PySem.Spec L2
/-! cells lent to a pure def: looked at as trees while it runs, cells again behind it; what comes back is flat -/
def T.isFlat (t : T) : Bool := t.flat.isSome
theorem den_flat {K : PySem.W.Frag} {S S' : Hp} {t : T} {v : V} (h : t.isFlat = true) (d : Den K S t v) : Den K S' t v := by
  cases t <;> first | (unfold Den at d ⊢; exact d) | cases h
theorem dens_flat {K : PySem.W.Frag} {S S' : Hp} : ∀ {ts : List T} {vs : List V}, (∀ t ∈ ts, t.isFlat = true) → Paired (Den K S) ts vs → Paired (Den K S') ts vs
  | _, _, _, .nil => .nil
  | _, _, h, .cons d r => .cons (den_flat (h _ (by simp)) d) (dens_flat (fun t ht => h t (by simp [ht])) r)
section
variable {K : PySem.W.Frag} {al : List Addr} {S S' F H H' : Hp} {m : Sto}
open Classical in
noncomputable def stOf (al : List Addr) (S H : Hp) (m : Sto) (ws : List W) : Hp := fun a => if ∃ (n : Nat) (c : Cell), W.h n ∈ ws ∧ m[n]? = some (some c) ∧ al[n]? = some a then H a else S a
open Classical in
noncomputable def fOf (S1 F1 : Hp) : Hp := fun a => if (S1 a).isSome = true then none else F1 a
theorem RepM.st_same (R : RepM K al S F H m) (ws : List W) : Same S (stOf al S H m ws) := fun a o e => by
  unfold stOf
  split
  · exact R.same a o e
  · exact e
theorem RepM.st_h (R : RepM K al S F H m) (ws : List W) : Same (stOf al S H m ws) H := fun a o e => by
  unfold stOf at e
  split at e
  · exact e
  · exact R.same a o e
theorem RepM.lent (R : RepM K al S F H m) (ws : List W) : RepM K [] (stOf al S H m ws) (fOf (stOf al S H m ws) (frOf al F H m [])) H (([] : List Cell).map some) := by
  refine ⟨R.st_h ws, fun a u e => ?_, fun a u e => ?_, rfl, fun n c e => by simp at e, fun n k c d a e => by simp at e⟩
  · unfold fOf at e
    split at e
    · cases e
    · unfold frOf at e
      split at e
      · exact e
      · cases e
  · unfold fOf
    rw [if_pos (by rw [e]; rfl)]
/-- what is kept behind the call -/
theorem RepM.kept (R : RepM K al S F H m) (ws : List W) {S2 : Hp} (h1 : Same (stOf al S H m ws) S2) (h2 : Same S2 H') (h3 : Same (fOf (stOf al S H m ws) (frOf al F H m [])) H') : RepM K al S F H' m := by
  have any : ∀ a o, H a = some o → ((F a).isSome = true ∨ ∃ (n : Nat) (c : Cell), m[n]? = some (some c) ∧ n ∉ ([] : List Nat) ∧ al[n]? = some a) → H' a = some o := fun a o e hx => by
    cases q : stOf al S H m ws a with
    | some u =>
      have := R.st_h ws a u q
      rw [e] at this
      cases this
      exact h2 a _ (h1 a _ q)
    | none =>
      refine h3 a o ?_
      unfold fOf
      rw [q, if_neg (by simp)]
      unfold frOf
      rw [if_pos hx]
      exact e
  refine ⟨fun a o e => h2 a o (h1 a o (R.st_same ws a o e)), fun a o e => any a o (R.fr a o e) (.inl (by rw [e]; rfl)), R.dis, R.len, fun n c e => ?_, R.inj⟩
  obtain ⟨a, o, g1, g2, g3, g4, g5⟩ := R.cell n c e
  exact ⟨a, o, g1, g2, g3, any a o g4 (.inr ⟨n, c, e, by simp, g1⟩), g5⟩
/-- a new cell behind the call -/
theorem RepM.newC (R : RepM K al S F H m) (ws : List W) (R' : RepM K al S F H' m) {S2 : Hp} (h1 : Same (stOf al S H m ws) S2) {p : Addr} {vs : List V} {us : List T} (n1 : S2 p = none) (n2 : fOf (stOf al S H m ws) (frOf al F H m []) p = none) (hp : H' p = some (.lst vs)) (d : Paired (Den K S) us vs) :
    RepM K (al ++ [p]) S F H' (m ++ [some (.lt us)]) ∧ Grow al S (al ++ [p]) S := by
  have q : stOf al S H m ws p = none := by
    cases q : stOf al S H m ws p with
    | none => rfl
    | some u => rw [h1 p u q] at n1; cases n1
  have nS : S p = none := by
    cases e : S p with
    | none => rfl
    | some u => rw [R.st_same ws p u e] at q; cases q
  have frN : ∀ u, H p = some u → ¬ ((F p).isSome = true ∨ ∃ (n : Nat) (c : Cell), m[n]? = some (some c) ∧ n ∉ ([] : List Nat) ∧ al[n]? = some p) := fun u hu hx => by
    unfold fOf at n2
    rw [q, if_neg (by simp)] at n2
    unfold frOf at n2
    rw [if_pos hx, hu] at n2
    cases n2
  have nF : F p = none := by
    cases e : F p with
    | none => rfl
    | some u => exact absurd (.inl (by rw [e]; rfl)) (frN u (R.fr p u e))
  have nC : ∀ (n : Nat) (c : Cell), m[n]? = some (some c) → al[n]? ≠ some p := fun n c e z => by
    obtain ⟨a, o, g1, _, _, g4, _⟩ := R.cell n c e
    rw [z] at g1
    cases g1
    exact frN o g4 (.inr ⟨n, c, e, by simp, z⟩)
  have R2 : RepM K al S (upd F p (.lst vs)) H' m := by
    refine ⟨R'.same, fun b u e => ?_, fun b u e => ?_, R'.len, fun n c e => ?_, R'.inj⟩
    · by_cases hb : b = p
      · subst hb
        rw [upd_same] at e
        cases e
        exact hp
      · rw [upd_ne hb] at e
        exact R'.fr b u e
    · by_cases hb : b = p
      · subst hb
        rw [nS] at e
        cases e
      · rw [upd_ne hb]
        exact R'.dis b u e
    · obtain ⟨a, o, g1, g2, g3, g4, g5⟩ := R'.cell n c e
      exact ⟨a, o, g1, g2, by rw [upd_ne fun z => nC n c e (by rw [g1, z])]; exact g3, g4, g5⟩
  exact R2.frC nF ⟨vs, rfl, d⟩
end
/-- a pure def that is lent cells -/
def onFlat (g1 : G) (r : R0) (Q : W → G → Prop) : Prop := match r with
  | .t x => x.isFlat = true ∧ Q (.t x) g1
  | .f (.lt us) => (∀ u ∈ us, u.isFlat = true) ∧ Q (.h g1.mem.length) (g1.push (.lt us))
  | _ => False
def onC (g1 : G) (Q : W → G → Prop) : W → List Cell → List Cell → Prop
  | .t t, _, [] => onFlat g1 (.t t) Q
  | .h 0, _, [c] => onFlat g1 (.f c) Q
  | _, _, _ => False
section
variable {K : PySem.W.Frag} {τs : TA} {ts : DAt}
theorem den_trees {al : List Addr} {S : Hp} : ∀ {ts : List T} {vs : List V}, Paired (Den K S) ts vs → Paired (DenW K al S) (ts.map W.t) vs
  | _, _, .nil => .nil
  | _, _, .cons d r => .cons d (den_trees r)
variable {X : Cx} {e : Expr} {es : List Expr} {pos : Pos}
end
/-! steps -/
theorem o_flH {g1 : G} {Q : W → G → Prop} {us : List T} (h1 : ∀ u ∈ us, u.isFlat = true) (h : Q (.h g1.mem.length) (g1.push (.lt us))) : onFlat g1 (.f (.lt us)) Q := ⟨h1, h⟩
theorem isFlat_ints (ns : List Int) : ∀ u ∈ ns.map T.int, u.isFlat = true := fun u hu => by
  obtain ⟨i, _, rfl⟩ := List.mem_map.mp hu
  rfl
end DL

namespace DL
open PySem PySem.Spec L2
/-! lists of whole numbers: a <= b -/
section
variable {X : Cx} {a b : Expr} {τa τb : TE} {ta tb : Dt} {pos : Pos} {kk : Nat}
end
end DL

namespace DL
open PySem PySem.Spec L2
/-! handles looked at as trees, down to a depth -/
def allS {α : Type} : List (Option α) → Option (List α)
  | [] => some []
  | some x :: r => (match allS r with | some xs => some (x :: xs) | none => none)
  | none :: _ => none
def G.treeD (g : G) : Nat → W → Option T
  | _, .t t => some t
  | 0, .h _ => none
  | d + 1, .h n => match g.mem[n]? with
    | some (some (.lt ts)) => some (.lst ts)
    | some (some (.dt ks ts)) => some (.dk ks ts)
    | some (some (.lw ws)) => (match allS (ws.map (g.treeD d)) with | some ts => some (.lst ts) | none => none)
    | some (some (.tw ws)) => (match allS (ws.map (g.treeD d)) with | some ts => some (.tup ts) | none => none)
    | some (some (.ob n fs ws)) => (match allS (ws.map (g.treeD d)) with | some ts => some (.ob n fs ts) | none => none)
    | _ => none
theorem allS_cons {α : Type} {x : α} {xs : List α} {r : List (Option α)} (h : allS r = some xs) : allS (some x :: r) = some (x :: xs) := by
  unfold allS
  rw [h]
theorem allS_map {α : Type} : ∀ xs : List α, allS (xs.map some) = some xs
  | [] => rfl
  | x :: xs => allS_cons (allS_map xs)
/-- a heap that holds what is stable and the cells -/
structure Holds (K : PySem.W.Frag) (al : List Addr) (S : Hp) (m : Sto) (S1 : Hp) : Prop where
  s : Same S S1
  c : ∀ (n : Nat) (c : Cell), m[n]? = some (some c) → ∃ a o, al[n]? = some a ∧ S1 a = some o ∧ CellOk K al S c o
theorem allS_den {K : PySem.W.Frag} {al : List Addr} {S S1 : Hp} {f : W → Option T} (h : ∀ w t v, f w = some t → DenW K al S w v → Den K S1 t v) : ∀ {ws : List W} {ts : List T} {vs : List V}, allS (ws.map f) = some ts → Paired (DenW K al S) ws vs → Paired (Den K S1) ts vs
  | [], _, _, e, p => by
    cases p
    cases e
    exact .nil
  | w :: ws, ts, vs, e, p => by
    cases p with
    | cons p1 p2 =>
      rw [List.map_cons] at e
      cases e1 : f w with
      | none => rw [e1] at e; cases e
      | some t =>
        rw [e1] at e
        unfold allS at e
        split at e
        · rename_i xs e2
          cases e
          exact .cons (h w t _ e1 p1) (allS_den h e2 p2)
        · cases e
theorem treeD_den {K : PySem.W.Frag} {al : List Addr} {S S1 : Hp} {g : G} (hS : Holds K al S g.mem S1) : ∀ (d : Nat) (w : W) (t : T) (v : V), g.treeD d w = some t → DenW K al S w v → Den K S1 t v
  | 0, .t x, t, v, e, dv => by
    cases e
    exact Den.mono hS.s _ _ dv
  | 0, .h n, t, v, e, dv => by cases e
  | d + 1, .t x, t, v, e, dv => by
    cases e
    exact Den.mono hS.s _ _ dv
  | d + 1, .h n, t, v, e, dv => by
    unfold G.treeD at e
    obtain ⟨a, ha, rfl⟩ := dv
    split at e
    · rename_i ts em
      cases e
      obtain ⟨a', o, h1, h2, vs, rfl, h3⟩ := hS.c n _ em
      rw [ha] at h1
      cases h1
      unfold Den
      exact ⟨a, vs, rfl, h2, Dens.iff.mpr (Denp.grow hS.s h3)⟩
    · rename_i ks ts em
      cases e
      obtain ⟨a', o, h1, h2, vs, rfl, h3, h4⟩ := hS.c n _ em
      rw [ha] at h1
      cases h1
      unfold Den
      exact ⟨a, vs, rfl, h2, h3, Dens.iff.mpr (Denp.grow hS.s h4)⟩
    · rename_i ws em
      split at e
      · rename_i ts e2
        cases e
        obtain ⟨a', o, h1, h2, vs, rfl, h3⟩ := hS.c n _ em
        rw [ha] at h1
        cases h1
        unfold Den
        exact ⟨a, vs, rfl, h2, Dens.iff.mpr (allS_den (fun w t v x y => treeD_den hS d w t v x y) e2 h3)⟩
      · cases e
    · rename_i ws em
      split at e
      · rename_i ts e2
        cases e
        obtain ⟨a', o, h1, h2, vs, rfl, h3⟩ := hS.c n _ em
        rw [ha] at h1
        cases h1
        unfold Den
        exact ⟨a, vs, rfl, .inl (.inl h2), Dens.iff.mpr (allS_den (fun w t v x y => treeD_den hS d w t v x y) e2 h3)⟩
      · cases e
    · rename_i n2 fs ws em
      split at e
      · rename_i ts e2
        cases e
        obtain ⟨a', o, h1, h2, C, dx, vs, hn, rfl, hl, h3⟩ := hS.c n _ em
        rw [ha] at h1
        cases h1
        have p := allS_den (S1 := S1) (fun w t v x y => treeD_den hS d w t v x y) e2 h3
        unfold Den
        exact ⟨a, C, dx, vs, rfl, hn, h2, by rw [hl, h3.length, p.length], Dens.iff.mpr p⟩
      · cases e
    · cases e
theorem Rep.holds {K : PySem.W.Frag} {al : List Addr} {S F H : Hp} {σ : L2.St} {g : G} (R : Rep K al S F H σ g) : Holds K al S g.mem H :=
  ⟨R.same, fun n c e => let ⟨a, o, h1, _, _, h4, h5⟩ := R.cell n c e; ⟨a, o, h1, h4, h5⟩⟩
/-! == of what holds handles -/
section
variable {X : Cx} {a b : Expr} {τa τb : TE} {ta tb : Dt} {pos : Pos} {kk : Nat}
end
/-! is, of truths -/
section
variable {X : Cx} {a b : Expr} {τa τb : TE} {ta tb : Dt} {pos : Pos}
end
/-! a tuple that holds handles -/
section
variable {X : Cx} {a b : Expr} {es : List Expr} {τa τb : TE} {τs : TA} {ta tb : Dt} {ts : DAt} {pos : Pos}
end
/-! all cells lent to a pure def -/
section
variable {K : PySem.W.Frag} {al : List Addr} {S S' F H H' : Hp} {m : Sto}
open Classical in
noncomputable def stAll (al : List Addr) (S H : Hp) (m : Sto) : Hp := fun a => if ∃ (n : Nat) (c : Cell), m[n]? = some (some c) ∧ al[n]? = some a then H a else S a
theorem RepM.all_same (R : RepM K al S F H m) : Same S (stAll al S H m) := fun a o e => by
  unfold stAll
  split
  · exact R.same a o e
  · exact e
theorem RepM.all_h (R : RepM K al S F H m) : Same (stAll al S H m) H := fun a o e => by
  unfold stAll at e
  split at e
  · exact e
  · exact R.same a o e
theorem RepM.all_holds (R : RepM K al S F H m) : Holds K al S m (stAll al S H m) := ⟨R.all_same, fun n c e => by
  obtain ⟨a, o, h1, _, _, h4, h5⟩ := R.cell n c e
  refine ⟨a, o, h1, ?_, h5⟩
  unfold stAll
  rw [if_pos ⟨n, c, e, h1⟩]
  exact h4⟩
theorem RepM.lentAll (R : RepM K al S F H m) : RepM K [] (stAll al S H m) (fOf (stAll al S H m) (frOf al F H m [])) H (([] : List Cell).map some) := by
  refine ⟨R.all_h, fun a u e => ?_, fun a u e => ?_, rfl, fun n c e => by simp at e, fun n k c d a e => by simp at e⟩
  · unfold fOf at e
    split at e
    · cases e
    · unfold frOf at e
      split at e
      · exact e
      · cases e
  · unfold fOf
    rw [if_pos (by rw [e]; rfl)]
theorem RepM.keptAll (R : RepM K al S F H m) {S2 : Hp} (h1 : Same (stAll al S H m) S2) (h2 : Same S2 H') (h3 : Same (fOf (stAll al S H m) (frOf al F H m [])) H') : RepM K al S F H' m := by
  have any : ∀ a o, H a = some o → ((F a).isSome = true ∨ ∃ (n : Nat) (c : Cell), m[n]? = some (some c) ∧ n ∉ ([] : List Nat) ∧ al[n]? = some a) → H' a = some o := fun a o e hx => by
    cases q : stAll al S H m a with
    | some u =>
      have := R.all_h a u q
      rw [e] at this
      cases this
      exact h2 a _ (h1 a _ q)
    | none =>
      refine h3 a o ?_
      unfold fOf
      rw [q, if_neg (by simp)]
      unfold frOf
      rw [if_pos hx]
      exact e
  refine ⟨fun a o e => h2 a o (h1 a o (R.all_same a o e)), fun a o e => any a o (R.fr a o e) (.inl (by rw [e]; rfl)), R.dis, R.len, fun n c e => ?_, R.inj⟩
  obtain ⟨a, o, g1, g2, g3, g4, g5⟩ := R.cell n c e
  exact ⟨a, o, g1, g2, g3, any a o g4 (.inr ⟨n, c, e, by simp, g1⟩), g5⟩
end
section
variable {K : PySem.W.Frag} {τs : TA} {ts : DAt}
variable {X : Cx} {e : Expr} {es : List Expr} {pos : Pos}
end
def onNest (g1 : G) (ws : List W) (P : List T → Prop) : Prop := match allS (ws.map (g1.treeD 6)) with
  | some ts => P ts
  | none => False
theorem o_nest {g1 : G} {ws : List W} {us : List T} {P : List T → Prop} (e : allS (ws.map (g1.treeD 6)) = some us) (h : P us) : onNest g1 ws P := by unfold onNest; rw [e]; exact h
end DL

namespace DL
open PySem PySem.Spec L2
/-! xs.index(x): trees -/
section
variable {X : Cx} {o e : Expr} {es : List Expr} {τo : TE} {τs : TA} {to : Dt} {ts : DAt} {apos cpos : Pos} {kk : Nat}
end
/-! all cells freeze: what a slot holds becomes a tree -/
end DL

namespace DL
open PySem PySem.Spec L2
/-! sorted(a dict by whole numbers) -/
def rSortedDI : List V → Hp → VK → Prop := fun xs H Q => ∃ (a : Addr) (kvs : List (L2.Key × V)) (ks : List Int), xs = [.ref a] ∧ Rd H a (.dK kvs) ∧ kvs.map (·.1) = ks.map Sum.inl ∧ ks.length < 64 ∧
    ∀ (ys : List Int) (p : Addr), ys.Perm ks → ys.Pairwise (· ≤ ·) → H p = none → Q (.ref p) (upd H p (.lst (ys.map V.int)))
def fSortD : FN := fun g ws Q => match ws with
  | [w] => ∃ (ns : List Int) (ts : List T), g.dct? w = some (ns.map Sum.inl, ts) ∧ ns.length < 64 ∧ ∀ ns' : List Int, ns'.Perm ns → ns'.Pairwise (· ≤ ·) → Q (.t (.lst (ns'.map T.int))) g
  | _ => False
theorem opN_sortD {K : PySem.W.Frag} : OpN K rSortedDI fSortD := by
  intro al S F H σ g xs ws Q QV R ds q k
  unfold fSortD at q
  split at q
  · obtain ⟨v, rfl, d⟩ := p1 ds
    obtain ⟨ns, ts, e, h64, q⟩ := q
    obtain ⟨a, vs, rfl, h1, h2, h3⟩ := R.viewD d e
    refine ⟨a, _, ns, rfl, .inl h1, ?_, h64, fun ns' p hp hs np => ?_⟩
    · rw [List.map_fst_zip]
      have := h3.length
      omega
    · obtain ⟨R2, gr2, d2⟩ := R.layL np (ts := ns'.map T.int) (den_ints ns')
      exact k _ _ _ _ _ _ R2 gr2 d2 (q ns' hp hs)
  · exact q.elim
section
variable {X : Cx} {e : Expr} {es : List Expr} {τs : TA} {ts : DAt} {p pos : Pos}
theorem de_sortD (hc : X.calm = true) (hm : X.mg "sorted" = none) (ha : DA X (e :: es) τs ts) (hg : Gl X "sorted" := by rfl) (he : starEach (e :: es) X.env = (false, eval e X.env) :: starEach es X.env := by rfl) (hpl : (backTo pos (starEach es X.env)).any (·.1) = false := by rfl) :
    DE X (.Call (.Name "sorted" p) (e :: es) [] pos) (tCB rSortedDI τs) (dN fSortD ts) := de_cB (call_sortedDI hc) opN_sortD hm ha (by decide +kernel) hg (by decide) (by decide) he hpl
end
/-! range(i, j, -1) -/
def rgD (hi : Int) (n : Nat) : List W := (List.range n).map fun k => W.t (.int (hi + (k : Nat) * (-1)))
theorem iter_rangeD {K : PySem.W.Frag} {al : List Addr} {S : Hp} (hi : Int) (n : Nat) : IterOk K (Itc hi (-1) n) (rgD hi n) (fun _ => True) al S := by
  intro al' S' F' H' σ' g' i R' gr' _
  unfold rgD
  refine ⟨fun w hw => ?_, fun hi => ?_⟩
  · rw [List.getElem?_map] at hw
    by_cases hi : i < n
    · rw [List.getElem?_range hi] at hw
      cases hw
      refine ⟨hi, fun x H'' ⟨eH, ex⟩ => ?_⟩
      subst eH ex
      exact ⟨al', S', R', Grow.refl _ _, by unfold DenW Den; rfl⟩
    · rw [List.getElem?_eq_none (by simpa using hi)] at hw; cases hw
  · rw [List.length_map, List.length_range] at hi
    exact hi
def diR3 (t : DAt) : DIt := fun g Q => t g fun ws g1 => match ws with | [.t (.int i), .t (.int j), .t (.int c)] => c = -1 ∧ (-(2 ^ 62) ≤ i ∧ i < 2 ^ 62 ∧ -(2 ^ 62) ≤ j ∧ j < 2 ^ 62) ∧ Q (rgD i (i - j).toNat) (fun _ => True) g1 | _ => False
theorem p3 {K : PySem.W.Frag} {al : List Addr} {S : Hp} {xs : List V} {a b c : W} (h : Paired (DenW K al S) [a, b, c] xs) : ∃ u v x, xs = [u, v, x] ∧ DenW K al S a u ∧ DenW K al S b v ∧ DenW K al S c x := by
  cases h with
  | cons h1 t =>
    obtain ⟨v, x, rfl, h2, h3⟩ := p2 t
    exact ⟨_, v, x, rfl, h1, h2, h3⟩
section
variable {X : Cx} {tg : Expr} {pos : Pos}
theorem di_range3 {a b c : Expr} {τs : TA} {ts : DAt} {p : Pos} (hm : X.mg "range" = none) (ha : DA X [a, b, c] τs ts) (hg : Gl X "range" := by rfl) (hs : starEach [a, b, c] X.env = (false, eval a X.env) :: starEach [b, c] X.env := by rfl) (hpl : (backTo pos (starEach [b, c] X.env)).any (·.1) = false := by rfl) : DI X tg (.Call (.Name "range" p) [a, b, c] [] pos) (iRng3 τs) (diR3 ts) := by
  refine ⟨pi_range3 hg hm ha.pe hs hpl, fun al S F H σ g Q QV R q k => ?_⟩
  refine ha.r al S F H σ g _ _ R q fun al1 S1 H1 g1 vs ws R1 gr1 e1 q1 => ?_
  unfold diR3 at *
  split at q1
  · obtain ⟨u, v, x, rfl, d1, d2, d3⟩ := p3 e1
    obtain ⟨rfl, ⟨b1, b2, b3, b4⟩, q2⟩ := q1
    unfold DenW Den at d1 d2 d3
    subst d1 d2 d3
    exact ⟨_, _, _, _, rfl, RgC.neg b1 b2 b3 b4, k _ _ _ _ _ _ _ R1 gr1 (iter_rangeD _ _) q2⟩
  · exact q1.elim
end
def onR3 (ws : List W) (P : List W → Prop) : Prop := match ws with | [.t (.int i), .t (.int j), .t (.int c)] => c = -1 ∧ (-(2 ^ 62) ≤ i ∧ i < 2 ^ 62 ∧ -(2 ^ 62) ≤ j ∧ j < 2 ^ 62) ∧ P (rgD i (i - j).toNat) | _ => False
theorem i_itR3 {g : G} {t : DAt} {P : List W → (G → Prop) → G → Prop} (h : t g fun ws g1 => onR3 ws fun us => P us (fun _ => True) g1) : diR3 t g P := by
  unfold diR3 onR3 at *
  exact h
theorem i_sortD {g : G} {Q : W → G → Prop} {w : W} {ns : List Int} {ts : List T} (e : g.dct? w = some (ns.map Sum.inl, ts)) (hl : ns.length < 64) (h : ∀ ns' : List Int, ns'.Perm ns → ns'.Pairwise (· ≤ ·) → Q (.t (.lst (ns'.map T.int))) g) : fSortD g [w] Q := ⟨ns, ts, e, hl, h⟩
/-! a pure def that is lent all cells, and hands back a new flat list -/
def dCallF (C : PC) (t : DAt) : Dt := fun g Q => t g fun ws g1 => match allS (ws.map (g1.treeD 6)) with
  | some ts => C ts fun r => onFlat g1 r Q
  | none => False
theorem stAll_eq (al : List Addr) (S H : Hp) (m : Sto) : stAll al S H m = stOf al S H m ((List.range m.length).map W.h) := by
  funext a
  unfold stAll stOf
  have e : (∃ (n : Nat) (c : Cell), m[n]? = some (some c) ∧ al[n]? = some a) ↔ ∃ (n : Nat) (c : Cell), W.h n ∈ (List.range m.length).map W.h ∧ m[n]? = some (some c) ∧ al[n]? = some a := by
    constructor
    · rintro ⟨n, c, h1, h2⟩
      exact ⟨n, c, List.mem_map.mpr ⟨n, List.mem_range.mpr (List.getElem?_eq_some_iff.mp h1).1, rfl⟩, h1, h2⟩
    · rintro ⟨n, c, _, h1, h2⟩
      exact ⟨n, c, h1, h2⟩
  by_cases h : ∃ (n : Nat) (c : Cell), m[n]? = some (some c) ∧ al[n]? = some a
  · rw [if_pos h, if_pos (e.mp h)]
  · rw [if_neg h, if_neg (fun z => h (e.mpr z))]
section
variable {K : PySem.W.Frag} {τs : TA} {ts : DAt}
theorem der_callF {C : PC} {E : XK} (h : DAr K τs ts) : DEr K (tCall (sps K C.s) [] E τs) (dCallF C ts) := by
  intro al S F H σ g Q QV R q k
  refine h al S F H σ g _ _ R q fun al1 S1 H1 g1 vs ws R1 gr1 e1 q1 => ?_
  rw [List.append_nil]
  split at q1
  · rename_i us eu
    refine ⟨[], stAll al1 S1 H1 g1.mem, fOf (stAll al1 S1 H1 g1.mem) (frOf al1 F H1 g1.mem []), [], us.map W.t, onC g1 Q,
      R1.toRepM.lentAll, den_trees (allS_den (fun w t v x y => treeD_den R1.toRepM.all_holds 6 w t v x y) eu e1), ⟨us, treesW_map us, rfl, ?_⟩, fun al2 S2 H2 m1 cs v w M2 l2 sS d2 q2 => ?_⟩
    · refine cast (congrArg (C us) ?_) q1
      funext r
      cases r <;> rfl
    · rw [List.nil_append] at M2 d2
      have lm : m1 = [] := List.length_eq_zero_iff.mp l2
      subst lm
      have keep := R1.toRepM.keptAll sS M2.same M2.fr
      unfold onC at q2
      split at q2
      · rename_i t
        obtain ⟨hf, q3⟩ := q2
        exact k _ _ _ _ _ (.t t) (R1.withM2 (Grow.refl _ _) keep) gr1 (den_flat hf d2) q3
      · rename_i c
        cases c with
        | lt xs =>
          obtain ⟨hf, q3⟩ := q2
          obtain ⟨p, o, h1, h2, h3, h4, h5⟩ := M2.cell 0 (.lt xs) rfl
          obtain ⟨p', hp, rfl⟩ := d2
          rw [h1] at hp
          cases hp
          obtain ⟨ys, rfl, d⟩ := h5
          obtain ⟨M3, gr3⟩ := R1.toRepM.newC _ keep (by rw [← stAll_eq]; exact sS) h2 (by rw [← stAll_eq]; exact h3) h4 (dens_flat hf d)
          refine k _ _ _ _ _ (.h g1.mem.length) (R1.withM2 gr3 M3) (gr1.trans gr3) ⟨p, ?_, rfl⟩ q3
          rw [← R1.len, List.getElem?_append_right (Nat.le_refl _), Nat.sub_self]
          rfl
        | _ => exact q2.elim
      · exact q2.elim
  · exact q1.elim
variable {X : Cx} {e : Expr} {es : List Expr} {pos : Pos}
theorem de_callF {k : Nat} {f : Addr} {fd : FuncData} {ps : List Str} {C : PC} {x : Str} {p : Pos} (F : FnOk X.prog X.w X.K X.mg X.base CX0 k f fd ps (sps X.K C.s)) (hr : Room k X.A) (hm : X.mg x = some (.ref f)) (hk : PySem.W.keepIn X.K (.ref f) = true) (hb : Binds X.K fd ps [])
    (ha : DA X (e :: es) τs ts) (hg : Gl X x := by rfl) (hdb : (x == ("__debug__" : Str)) = false := by decide) (he : starEach (e :: es) X.env = (false, eval e X.env) :: starEach es X.env := by rfl) (hpl : (backTo pos (starEach es X.env)).any (·.1) = false := by rfl) :
    DE X (.Call (.Name x p) (e :: es) [] pos) (tCall (sps X.K C.s) [] E0 τs) (dCallF C ts) :=
  ⟨pe_call F hr hg hm hk hb .nil pass0 ha.pe hdb he hpl, der_callF ha.r⟩
end
theorem i_callF {g : G} {Q : W → G → Prop} {C : PC} {t : DAt} (h : t g fun ws g1 => onNest g1 ws fun us => C us fun r => onFlat g1 r Q) : dCallF C t g Q := h
end DL

namespace DL
open PySem PySem.Spec L2
/-! steps at what stands plainly: no side goals -/
section
variable {Q : W → G → Prop} {w : W} {r : List (Option W)} {m : Sto} {x : T}
variable {g : G} {us : List T}
variable {P : List T → Prop}
variable {P1 : T → Prop} {ks : List Key}
theorem tf_lt (h : P1 (.lst us)) : onT (.f (.lt us)) P1 := h
theorem tf_dt (h : P1 (.dk ks us)) : onT (.f (.dt ks us)) P1 := h
theorem hf_lt (h : Q (.h g.mem.length) (g.push (.lt us))) : onH g (.f (.lt us)) Q := ⟨rfl, h⟩
theorem hf_dt (h : Q (.h g.mem.length) (g.push (.dt ks us))) : onH g (.f (.dt ks us)) Q := ⟨rfl, h⟩
variable {t : DGst} {P2 : G → Prop}
theorem gt_2 {b0 b1 : T} (h : t [b0, b1] g P2) : dgTup 2 t (.t (.tup [b0, b1])) g P2 := ⟨rfl, h⟩
theorem gt_3 {b0 b1 b2 : T} (h : t [b0, b1, b2] g P2) : dgTup 3 t (.t (.tup [b0, b1, b2])) g P2 := ⟨rfl, h⟩
theorem gt_4 {b0 b1 b2 b3 : T} (h : t [b0, b1, b2, b3] g P2) : dgTup 4 t (.t (.tup [b0, b1, b2, b3])) g P2 := ⟨rfl, h⟩
theorem gt_5 {b0 b1 b2 b3 b4 : T} (h : t [b0, b1, b2, b3, b4] g P2) : dgTup 5 t (.t (.tup [b0, b1, b2, b3, b4])) g P2 := ⟨rfl, h⟩
theorem gt_6 {b0 b1 b2 b3 b4 b5 : T} (h : t [b0, b1, b2, b3, b4, b5] g P2) : dgTup 6 t (.t (.tup [b0, b1, b2, b3, b4, b5])) g P2 := ⟨rfl, h⟩
variable {P3 : List W → (G → Prop) → Prop}
end
end DL

namespace DL
open PySem PySem.Spec L2
local macro_rules | `(tactic| walk_at "dn") => `(tactic| simp only [purse_set2, purse_set3, purse_set4, purse_set5, purse_app, purse_len, purse_start, purse_l, G.set, G.put, G.push, G.wipe, wipeW, G.rs, rsW, List.set_cons_zero, List.set_cons_succ, List.map_cons, List.map_nil, List.length_cons, List.length_nil, List.nil_append, List.cons_append, List.replicate_succ, List.replicate_zero, Nat.reduceAdd, Nat.reduceSub, List.getD_cons_zero, List.getD_cons_succ, Option.getD_some, Option.getD_none])
local macro_rules | `(tactic| walk_at "d1") => `(tactic| first
  | ((with_reducible refine' i_var ?e ?_); (case e => rfl))
  | with_reducible refine i_cons ?_
  | with_reducible refine i_c ?_
  | with_reducible refine i_nil ?_
  | ((with_reducible refine' o_Ts ?e ?_); (case e => rfl))
  | with_reducible refine i_d2 ?_
  | with_reducible refine o_B ?_
  | with_reducible refine i_seq ?_
  | with_reducible refine i_B ?_
  | with_reducible refine i_gN ?_
  | with_reducible refine i_ifS ?_
  | with_reducible refine i_drop ?_
  | with_reducible refine i_next ?_
  | with_reducible refine i_asg ?_
  | with_reducible refine k_F ?_
  | with_reducible refine k_T ?_
  | with_reducible refine i_callT ?_
  | ((with_reducible refine' i_ix ?e ?v ?_); (case e => rfl); (case v => first | assumption | rfl))
  | with_reducible refine i_d1 ?_
  | with_reducible refine i_dN ?_
  | with_reducible refine o_T ?_
  | with_reducible refine i_fI0 ?_
  | with_reducible refine i_addI ?_
  | walk_at "dn"
  | apply_rules -exfalso -symm (transparency := .reducible) (maxDepth := 100000) only [i_neg, o_I, i_or, i_and, i_not, i_andV, i_orV, i_notV, i_if, i_yes, k_True, k_False, i_eqI, i_neI, i_addHI, i_callH, o_H, i_ret, i_retN, i_gCons, i_gNil, i_min2, i_max2, i_par, o_W2, i_intI, i_intB, i_lc, i_for, i_while, i_itL, i_itR1, i_itR2, o_I1, o_I2, e_t, i_M, i_M0, i_gSub, i_finH, i_finT, i_sl, i_slH, i_slT, i_noPart, i_part, i_dput, i_newD, i_lstH, i_lst, i_tup, i_break, i_cont, i_callS, i_gwCons, i_gwNil, i_lstW, i_listRgH, i_listRg, i_R1, i_getD, tf_lt, tf_dt, hf_lt, hf_dt, gt_2, gt_3, gt_4, gt_5, gt_6]
  | ((with_reducible refine' i_len ?e ?_); (case e => rfl))
  | ((with_reducible refine' i_aug ?e ?_); (case e => rfl))
  | ((with_reducible refine' o_Lq ?e ?_); (case e => rfl))
  | ((with_reducible refine' e_h ?e ?p ?_); (case e => rfl); (case p => rfl))
  | ((with_reducible refine' i_frzT ?e ?_); (case e => rfl))
  | ((with_reducible refine' i_frzH ?e ?m ?t ?_); (case e => rfl); (case m => rfl); (case t => rfl))
  | ((with_reducible refine' i_din ?k ?e ?_); (case k => rfl); (case e => rfl))
  | ((with_reducible refine' i_dnotin ?k ?e ?_); (case k => rfl); (case e => rfl))
  | ((with_reducible refine' i_ixHW ?e ?v ?_); (case e => first | rfl | assumption); (case v => first | assumption | rfl))
  | ((with_reducible refine' i_ixHT ?e ?v ?_); (case e => first | rfl | assumption); (case v => first | assumption | rfl))
  | ((with_reducible refine' i_lenHT ?e ?_); (case e => first | rfl | assumption))
  | ((with_reducible refine' i_lenHW ?e ?_); (case e => first | rfl | assumption))
  | ((with_reducible refine' i_frzH ?e ?m ?t ?_); (case e => rfl); (case m => rfl); (case t => rfl))
  | ((with_reducible refine' i_unw ?e ?n ?_); (case e => rfl); (case n => rfl))
  | ((with_reducible refine' i_gList ?e ?n ?_); (case e => rfl); (case n => rfl))
  | ((with_reducible refine' i_none ?k ?_); (case k => rfl)))
local macro_rules | `(tactic| walk_at "dl") => `(tactic| ((try walk_at "dn"); repeat walk_at "d1"))
/-! parts that grow: plain -/
inductive Pth (E : List (Nat × Nat)) : Nat → Nat → Prop
  | refl (a : Nat) : Pth E a a
  | step {a b c : Nat} : Pth E a b → (b, c) ∈ E → Pth E a c
theorem Pth.trans {E : List (Nat × Nat)} {a b c : Nat} (h : Pth E a b) (k : Pth E b c) : Pth E a c := by
  induction k with
  | refl => exact h
  | step _ he ih => exact .step ih he
theorem Pth.one {E : List (Nat × Nat)} {a b : Nat} (h : (a, b) ∈ E) : Pth E a b := .step (.refl a) h
theorem Pth.via {E E' : List (Nat × Nat)} (he : ∀ a b, (a, b) ∈ E → Pth E' a b) {a b : Nat} (h : Pth E a b) : Pth E' a b := by
  induction h with
  | refl => exact .refl _
  | step _ hm ih => exact ih.trans (he _ _ hm)
theorem Pth.map {E : List (Nat × Nat)} (f : Nat → Nat) {a b : Nat} (h : Pth E a b) : Pth (E.map fun ab => (f ab.1, f ab.2)) (f a) (f b) := by
  induction h with
  | refl => exact .refl _
  | step _ hm ih => exact .step ih (List.mem_map.mpr ⟨_, hm, rfl⟩)
structure Grown (loose : Bool) (order : List Nat) (rows : List (Nat × Nat)) : Prop where
  perm : order.Perm (List.range order.length)
  lo : 2 ≤ order.length
  hi : order.length ≤ 16
  first : order[0]? = some 0
  last : order[order.length - 1]? = some 1
  inr : ∀ ab ∈ rows, ab.1 < order.length ∧ ab.2 < order.length ∧ ab.1 ≠ 1
  fw : ∀ q, q < order.length → Pth rows 0 q
  bw : ∀ q, q < order.length → Pth rows q 1
  asc : loose = true → ∀ ab ∈ rows, ∀ i j : Nat, order[i]? = some ab.1 → order[j]? = some ab.2 → i < j
theorem Grown.nd {loose : Bool} {order : List Nat} {rows : List (Nat × Nat)} (G : Grown loose order rows) : order.Nodup := (G.perm.nodup_iff).mpr List.nodup_range
theorem at_ins {order : List Nat} {p s i x : Nat} (hp : p ≤ order.length) (h : (order.take p ++ [s] ++ order.drop p)[i]? = some x) : (i < p ∧ order[i]? = some x) ∨ (i = p ∧ x = s) ∨ (p < i ∧ order[i - 1]? = some x) := by
  have hl : (order.take p).length = p := by rw [List.length_take]; omega
  rw [List.append_assoc] at h
  rcases Nat.lt_trichotomy i p with hi | hi | hi
  · rw [List.getElem?_append_left (by omega), List.getElem?_take_of_lt hi] at h
    exact .inl ⟨hi, h⟩
  · subst hi
    rw [List.getElem?_append_right (by omega), hl, Nat.sub_self] at h
    simp at h
    exact .inr (.inl ⟨rfl, h.symm⟩)
  · rw [List.getElem?_append_right (by omega), hl] at h
    obtain ⟨d, hd⟩ : ∃ d, i - p = d + 1 := ⟨i - p - 1, by omega⟩
    rw [hd] at h
    simp at h
    refine .inr (.inr ⟨hi, ?_⟩)
    rw [← h]
    congr 1
    omega
/-- a place put into a row -/
theorem Grown.split {loose : Bool} {order : List Nat} {rows : List (Nat × Nat)} (G : Grown loose order rows) {at0 a b p : Nat} (hat : rows[at0]? = some (a, b)) (hs : order.length < 16) (h1 : 1 ≤ p) (h2 : p ≤ order.length - 1)
    (hl : loose = true → ∀ i j : Nat, order[i]? = some a → order[j]? = some b → i < p ∧ p ≤ j) : Grown loose (order.take p ++ [order.length] ++ order.drop p) (rows.set at0 (a, order.length) ++ [(order.length, b)]) := by
  have len : (order.take p ++ [order.length] ++ order.drop p).length = order.length + 1 := by
    rw [List.length_append, List.length_append, List.length_take, List.length_drop]
    simp only [List.length_cons, List.length_nil]
    omega
  have hlo := G.lo
  have hab := G.inr _ (List.mem_of_getElem? hat)
  have hat' : at0 < rows.length := (List.getElem?_eq_some_iff.mp hat).1
  have mA : (a, order.length) ∈ rows.set at0 (a, order.length) ++ [(order.length, b)] := by
    rw [List.mem_append]; exact .inl (List.mem_iff_getElem?.mpr ⟨at0, List.getElem?_set_self hat'⟩)
  have mB : (order.length, b) ∈ rows.set at0 (a, order.length) ++ [(order.length, b)] := by simp
  have via : ∀ x y, (x, y) ∈ rows → Pth (rows.set at0 (a, order.length) ++ [(order.length, b)]) x y := fun x y h => by
    obtain ⟨i, hi⟩ := List.getElem?_of_mem h
    by_cases e : i = at0
    · subst e
      rw [hat] at hi
      cases hi
      exact (Pth.one mA).trans (Pth.one mB)
    · refine Pth.one ?_
      rw [List.mem_append]
      exact .inl (List.mem_iff_getElem?.mpr ⟨i, by rw [List.getElem?_set_ne (fun z => e z.symm)]; exact hi⟩)
  have mem' : ∀ ab ∈ rows.set at0 (a, order.length) ++ [(order.length, b)], ab ∈ rows ∨ ab = (a, order.length) ∨ ab = (order.length, b) := fun ab h => by
    rcases List.mem_append.mp h with h | h
    · rcases List.mem_or_eq_of_mem_set h with h | h
      · exact .inl h
      · exact .inr (.inl h)
    · simp at h; exact .inr (.inr h)
  refine ⟨?_, by omega, by omega, ?_, ?_, ?_, ?_, ?_, ?_⟩
  · rw [len, List.range_succ]
    have h1 : (order.take p ++ [order.length] ++ order.drop p).Perm (order.take p ++ order.drop p ++ [order.length]) := by
      rw [List.append_assoc, List.append_assoc]
      exact List.Perm.append_left _ List.perm_append_comm
    rw [List.take_append_drop] at h1
    exact h1.trans (List.Perm.append_right _ G.perm)
  · rw [List.append_assoc, List.getElem?_append_left (by rw [List.length_take]; omega), List.getElem?_take_of_lt (by omega)]
    exact G.first
  · rw [len, Nat.add_sub_cancel, List.getElem?_append_right (by rw [List.length_append, List.length_take]; simp only [List.length_cons, List.length_nil]; omega), List.length_append, List.length_take, List.getElem?_drop]
    simp only [List.length_cons, List.length_nil]
    rw [← G.last]
    congr 1
    omega
  · intro ab h
    rw [len]
    rcases mem' ab h with h | rfl | rfl
    · have := G.inr ab h
      omega
    · exact ⟨by omega, by omega, hab.2.2⟩
    · exact ⟨by simp, by have := hab.2.1; simp at this ⊢; omega, by simp; omega⟩
  · intro q hq
    rw [len] at hq
    by_cases e : q = order.length
    · subst e
      exact .step (Pth.via via (G.fw a hab.1)) mA
    · exact Pth.via via (G.fw q (by omega))
  · intro q hq
    rw [len] at hq
    by_cases e : q = order.length
    · subst e
      exact (Pth.one mB).trans (Pth.via via (G.bw b hab.2.1))
    · exact Pth.via via (G.bw q (by omega))
  · intro hlo2 ab h i j hi hj
    have hx : ∀ (i x : Nat), order[i]? = some x → x < order.length := fun i x e => by
      have := (G.perm.mem_iff).mp (List.mem_of_getElem? e)
      simpa using this
    rcases mem' ab h with h | rfl | rfl
    · have hr := G.inr ab h
      rcases at_ins (by omega) hi with ⟨i1, i2⟩ | ⟨i1, i2⟩ | ⟨i1, i2⟩
      · rcases at_ins (by omega) hj with ⟨j1, j2⟩ | ⟨j1, j2⟩ | ⟨j1, j2⟩
        · exact G.asc hlo2 ab h i j i2 j2
        · omega
        · have := G.asc hlo2 ab h i (j - 1) i2 j2
          omega
      · omega
      · rcases at_ins (by omega) hj with ⟨j1, j2⟩ | ⟨j1, j2⟩ | ⟨j1, j2⟩
        · have := G.asc hlo2 ab h (i - 1) j i2 j2
          omega
        · omega
        · have := G.asc hlo2 ab h (i - 1) (j - 1) i2 j2
          omega
    · dsimp only at hi hj
      have hj2 : j = p := by
        rcases at_ins (by omega) hj with ⟨j1, j2⟩ | ⟨j1, j2⟩ | ⟨j1, j2⟩
        · have := hx j _ j2; omega
        · exact j1
        · have := hx _ _ j2; omega
      obtain ⟨jb, hjb⟩ := List.getElem?_of_mem ((G.perm.mem_iff).mpr (by simpa using hab.2.1 : b ∈ List.range order.length))
      rcases at_ins (by omega) hi with ⟨i1, i2⟩ | ⟨i1, i2⟩ | ⟨i1, i2⟩
      · omega
      · have := hab.1; simp at this; omega
      · have := hl hlo2 (i - 1) jb i2 hjb
        omega
    · dsimp only at hi hj
      have hi2 : i = p := by
        rcases at_ins (by omega) hi with ⟨j1, j2⟩ | ⟨j1, j2⟩ | ⟨j1, j2⟩
        · have := hx i _ j2; omega
        · exact j1
        · have := hx _ _ j2; omega
      obtain ⟨ia, hia⟩ := List.getElem?_of_mem ((G.perm.mem_iff).mpr (by simpa using hab.1 : a ∈ List.range order.length))
      rcases at_ins (by omega) hj with ⟨j1, j2⟩ | ⟨j1, j2⟩ | ⟨j1, j2⟩
      · have := hl hlo2 ia j hia j2
        omega
      · have := hab.2.1; simp at this; omega
      · omega
/-- a row put between places -/
theorem Grown.more {loose : Bool} {order : List Nat} {rows : List (Nat × Nat)} (G : Grown loose order rows) {a b i j : Nat} (ha : order[i]? = some a) (hb : order[j]? = some b) (hi : i < order.length - 1) (hl : loose = true → i < j) : Grown loose order (rows ++ [(a, b)]) := by
  have hlo := G.lo
  have hx : ∀ (i x : Nat), order[i]? = some x → x < order.length := fun i x e => by
    have := (G.perm.mem_iff).mp (List.mem_of_getElem? e)
    simpa using this
  have uniq : ∀ (x k l : Nat), order[k]? = some x → order[l]? = some x → k = l := fun x k l e1 e2 => by
    obtain ⟨h1, g1⟩ := List.getElem?_eq_some_iff.mp e1
    obtain ⟨h2, g2⟩ := List.getElem?_eq_some_iff.mp e2
    exact (List.getElem_inj G.nd).mp (g1.trans g2.symm)
  have via : ∀ x y, (x, y) ∈ rows → Pth (rows ++ [(a, b)]) x y := fun x y h => .one (by rw [List.mem_append]; exact .inl h)
  refine ⟨G.perm, G.lo, G.hi, G.first, G.last, ?_, fun q hq => Pth.via via (G.fw q hq), fun q hq => Pth.via via (G.bw q hq), ?_⟩
  · intro ab h
    rcases List.mem_append.mp h with h | h
    · exact G.inr ab h
    · simp at h
      subst h
      refine ⟨hx i a ha, hx j b hb, fun z => ?_⟩
      simp only at z
      subst z
      have := uniq 1 i _ ha G.last
      omega
  · intro hlo2 ab h k l hk hl2
    rcases List.mem_append.mp h with h | h
    · exact G.asc hlo2 ab h k l hk hl2
    · simp at h
      subst h
      rw [uniq a k i hk ha, uniq b l j hl2 hb]
      exact hl hlo2
/-- a part as it is told -/
structure PartSpec (loose : Bool) (n : Nat) (E : List (Nat × Nat)) : Prop where
  lo : 2 ≤ n
  hi : n ≤ 16
  inr : ∀ ab ∈ E, ab.1 < n ∧ ab.2 < n ∧ ab.1 ≠ 1
  fw : ∀ q, q < n → Pth E 0 q
  bw : ∀ q, q < n → Pth E q 1
  asc : loose = true → ∃ f : Nat → Nat, ∀ ab ∈ E, f ab.1 < f ab.2
theorem Grown.named {loose : Bool} {order : List Nat} {rows : List (Nat × Nat)} (G : Grown loose order rows) {xs : List Nat} (hx : xs.Perm (List.range (order.length - 2))) :
    PartSpec loose order.length (rows.map fun ab => (([0, 1] ++ xs.map (2 + ·)).getD ab.1 0, ([0, 1] ++ xs.map (2 + ·)).getD ab.2 0)) := by
  have hlo := G.lo
  have hlx : xs.length = order.length - 2 := by rw [hx.length_eq, List.length_range]
  have hp : ([0, 1] ++ xs.map (2 + ·)).Perm (List.range order.length) := by
    have e : List.range order.length = [0, 1] ++ (List.range (order.length - 2)).map (2 + ·) := by
      have : order.length = 2 + (order.length - 2) := by omega
      rw [this, List.range_add]
      simp [List.range, List.range.loop]
    rw [e]
    exact List.Perm.append_left _ (hx.map _)
  generalize hN : [0, 1] ++ xs.map (2 + ·) = names at hp
  have hn0 : names.getD 0 0 = 0 := by rw [← hN]; rfl
  have hn1 : names.getD 1 0 = 1 := by rw [← hN]; rfl
  have hln : names.length = order.length := by rw [hp.length_eq, List.length_range]
  have nd : names.Nodup := hp.nodup_iff.mpr List.nodup_range
  have inN : ∀ a, a < order.length → names.getD a 0 < order.length := fun a ha => by
    have h1 : names.getD a 0 ∈ names := by
      rw [List.getD_eq_getElem?_getD, List.getElem?_eq_getElem (by omega)]
      exact List.getElem_mem _
    simpa using hp.mem_iff.mp h1
  have surj : ∀ q, q < order.length → ∃ p, p < order.length ∧ names.getD p 0 = q := fun q hq => by
    obtain ⟨p, hpq⟩ := List.getElem?_of_mem (hp.mem_iff.mpr (by simpa using hq : q ∈ List.range order.length))
    have := (List.getElem?_eq_some_iff.mp hpq).1
    exact ⟨p, by omega, by rw [List.getD_eq_getElem?_getD, hpq]; rfl⟩
  have inj : ∀ a b, a < order.length → b < order.length → names.getD a 0 = names.getD b 0 → a = b := fun a b ha hb e => by
    rw [List.getD_eq_getElem?_getD, List.getD_eq_getElem?_getD, List.getElem?_eq_getElem (by omega), List.getElem?_eq_getElem (by omega)] at e
    exact (List.getElem_inj nd).mp e
  refine ⟨G.lo, G.hi, ?_, ?_, ?_, ?_⟩
  · intro ab h
    obtain ⟨cd, hc, rfl⟩ := List.mem_map.mp h
    have hr := G.inr cd hc
    refine ⟨inN _ hr.1, inN _ hr.2.1, fun z => hr.2.2 (inj _ 1 hr.1 (by omega) ?_)⟩
    rw [hn1]; exact z
  · intro q hq
    obtain ⟨p, hp1, rfl⟩ := surj q hq
    have := Pth.map (fun a => names.getD a 0) (G.fw p hp1)
    rw [hn0] at this
    exact this
  · intro q hq
    obtain ⟨p, hp1, rfl⟩ := surj q hq
    have := Pth.map (fun a => names.getD a 0) (G.bw p hp1)
    rw [hn1] at this
    exact this
  · intro hl
    refine ⟨fun q => order.idxOf (names.idxOf q), fun ab h => ?_⟩
    obtain ⟨cd, hc, rfl⟩ := List.mem_map.mp h
    have hr := G.inr cd hc
    have ix : ∀ a, a < order.length → names.idxOf (names.getD a 0) = a := fun a ha => by
      have h1 : names.getD a 0 ∈ names := by
        rw [List.getD_eq_getElem?_getD, List.getElem?_eq_getElem (by omega)]
        exact List.getElem_mem _
      have h2 := List.idxOf_lt_length_of_mem h1
      have h3 : names[names.idxOf (names.getD a 0)] = names.getD a 0 := List.getElem_idxOf h2
      refine inj _ _ (by omega) ha ?_
      rw [List.getD_eq_getElem?_getD, List.getElem?_eq_getElem h2]
      exact h3
    dsimp only
    rw [ix _ hr.1, ix _ hr.2.1]
    have om : ∀ a, a < order.length → order[order.idxOf a]? = some a := fun a ha => by
      have h1 : a ∈ order := G.perm.mem_iff.mpr (by simpa using ha)
      have h2 := List.idxOf_lt_length_of_mem h1
      rw [List.getElem?_eq_getElem h2]
      congr 1
      exact List.getElem_idxOf h2
    exact G.asc hl cd hc _ _ (om _ hr.1) (om _ hr.2.1)
structure Row where
  p : Int
  s : Int
  e : Int
  c : Int
structure Web where
  places : List Int
  rows : List Row
def Row.t (r : Row) : T := .tup [.int r.p, .int r.s, .int r.e, .int r.c]
def Web.t (w : Web) : T := .tup [.lst (w.places.map T.int), .lst (w.rows.map Row.t)]
def row0 : Row := ⟨0, 0, 0, 0⟩
def Web.row (w : Web) (k : Nat) : Row := w.rows.getD k row0
def Web.rowsOf (w : Web) (p : Int) : List Nat := (List.range w.rows.length).filter fun k => decide ((w.row k).p = p)
def natT (k : Nat) : T := .int (k : Nat)
theorem row_at {w : Web} {k : Nat} (h : k < w.rows.length) : atI (w.rows.map Row.t) (k : Int) = some (w.row k).t := atI_map Row.t (atI_getD row0 h)
theorem mem_rowsOf {w : Web} {p : Int} {k : Nat} : k ∈ w.rowsOf p ↔ k < w.rows.length ∧ (w.row k).p = p := by
  unfold Web.rowsOf
  rw [List.mem_filter, List.mem_range]
  simp
def C_rows_of : PC := fun ts Q => ∃ (w : Web) (p : Int), ts = [w.t, .int p] ∧ w.rows.length ≤ 1000 ∧ Q (.f (.lt ((w.rowsOf p).map natT)))
theorem ln_rows_of : ∀ ts Q, C_rows_of ts Q → ts.length = ["web", "part"].length := by rintro ts Q ⟨_, _, rfl, _⟩; rfl
def rd_rows_of : DSt :=
  dRet (dLc finH (diR1 (dCons (dN fLen (dCons (d2 fIx (dVar 0) (dC (.int 1))) (dNil))) (dNil))) (dgN 2) (dB (d2 (fEq false) (d2 fIx (d2 fIx (d2 fIx (dVar 0) (dC (.int 1))) (dVar 2)) (dC (.int 0))) (dVar 1))) (dVar 2) [2])

theorem rp_rows_of : ∀ ts Q, C_rows_of ts Q → rd_rows_of ⟨FinP Q (.t .non), FinP Q, fun _ => False, fun _ => False⟩ ⟨ts.map (fun t => some (W.t t)) ++ List.replicate (3 - ts.length) none, []⟩ := by
  rintro ts Q ⟨w, p, rfl, hl, hQ⟩
  unfold rd_rows_of Web.t
  walk_at "dl"
  rw [List.length_map]
  refine ⟨by omega, ?_⟩
  refine lcP (List.range w.rows.length) (fun k => W.t (natT k)) (fun k => decide ((w.row k).p = p)) natT (by rw [Int.toNat_natCast, rgW0]; rfl) (by rw [List.length_range]; exact lineLe (by omega)) trivial ?_ rfl ?_
  · intro k hk Y N hY hN
    have hk' : k < w.rows.length := by simpa using hk
    have hr := row_at hk'
    unfold natT Row.t at *
    walk_at "dl"
    refine k_d (fun h => ?_) (fun h => ?_)
    · walk_at "dl"
      exact hY (decide_eq_true h) _ rfl
    · exact hN (decide_eq_false h) _ rfl
  · walk_at "dl"
    exact hQ
/-! reached -/
inductive Reach (E : List (Int × Int)) (s : Int) : Int → Prop
  | refl : Reach E s s
  | step {a b : Int} : Reach E s a → (a, b) ∈ E → Reach E s b
def Web.edge (w : Web) (tn : Bool) (k : Nat) : Int × Int := if tn = true then ((w.row k).e, (w.row k).s) else ((w.row k).s, (w.row k).e)
def Web.edges (w : Web) (p : Int) (tn : Bool) : List (Int × Int) := (w.rowsOf p).map (w.edge tn)
def ins (ks : List Int) (b : Int) : List Int := if b ∈ ks then ks else ks ++ [b]
def pass1 (ks : List Int) (ab : Int × Int) : List Int := if ab.1 ∈ ks then ins ks ab.2 else ks
theorem ins_mem {ks : List Int} {b x : Int} : x ∈ ins ks b ↔ x ∈ ks ∨ x = b := by
  unfold ins
  split
  · constructor
    · exact .inl
    · rintro (h | rfl)
      · exact h
      · assumption
  · rw [List.mem_append, List.mem_singleton]
theorem ins_nd {ks : List Int} {b : Int} (h : ks.Nodup) : (ins ks b).Nodup := by
  unfold ins
  split
  · exact h
  · rename_i hb
    rw [List.nodup_append]
    exact ⟨h, by simp, by intro a ha c hc; simp at hc; subst hc; intro z; subst z; exact hb ha⟩
theorem ins_len (ks : List Int) (b : Int) : ks.length ≤ (ins ks b).length := by
  unfold ins; split
  · exact Nat.le_refl _
  · simp
theorem pass1_sub {ks : List Int} {ab : Int × Int} {x : Int} (h : x ∈ ks) : x ∈ pass1 ks ab := by
  unfold pass1; split
  · exact ins_mem.mpr (.inl h)
  · exact h
theorem pass_sub {E : List (Int × Int)} : ∀ {ks : List Int} {x : Int}, x ∈ ks → x ∈ E.foldl pass1 ks := by
  induction E with
  | nil => intro ks x h; exact h
  | cons ab E ih => intro ks x h; rw [List.foldl_cons]; exact ih (pass1_sub h)
theorem pass1_len (ks : List Int) (ab : Int × Int) : ks.length ≤ (pass1 ks ab).length := by
  unfold pass1; split
  · exact ins_len _ _
  · exact Nat.le_refl _
theorem pass_len {E : List (Int × Int)} : ∀ ks : List Int, ks.length ≤ (E.foldl pass1 ks).length := by
  induction E with
  | nil => intro ks; exact Nat.le_refl _
  | cons ab E ih => intro ks; rw [List.foldl_cons]; exact Nat.le_trans (pass1_len _ _) (ih _)
theorem pass_nd {E : List (Int × Int)} : ∀ {ks : List Int}, ks.Nodup → (E.foldl pass1 ks).Nodup := by
  induction E with
  | nil => intro ks h; exact h
  | cons ab E ih =>
    intro ks h
    rw [List.foldl_cons]
    refine ih ?_
    unfold pass1; split
    · exact ins_nd h
    · exact h
theorem pass_reach {E : List (Int × Int)} {s : Int} : ∀ (E2 : List (Int × Int)) {ks : List Int}, (∀ ab ∈ E2, ab ∈ E) → (∀ x ∈ ks, Reach E s x) → ∀ x ∈ E2.foldl pass1 ks, Reach E s x
  | [], _, _, h => h
  | ab :: E2, ks, hE, h => by
    rw [List.foldl_cons]
    refine pass_reach E2 (fun c hc => hE c (by simp [hc])) fun x hx => ?_
    unfold pass1 at hx
    split at hx
    · rename_i ha
      rcases ins_mem.mp hx with hx | rfl
      · exact h x hx
      · exact .step (h _ ha) (hE ab (by simp))
    · exact h x hx
theorem pass_has {E : List (Int × Int)} : ∀ {ks : List Int} {a b : Int}, (a, b) ∈ E → a ∈ ks → b ∈ E.foldl pass1 ks := by
  induction E with
  | nil => intro ks a b h; simp at h
  | cons ab E ih =>
    intro ks a b h ha
    rw [List.foldl_cons]
    rcases List.mem_cons.mp h with rfl | h
    · refine pass_sub ?_
      unfold pass1
      rw [if_pos ha]
      exact ins_mem.mpr (.inr rfl)
    · exact ih h (pass1_sub ha)
theorem ins_eq {ks : List Int} {b : Int} (h : (ins ks b).length = ks.length) : ins ks b = ks := by
  unfold ins at h ⊢
  split at h
  · rename_i hb; rw [if_pos hb]
  · simp at h
theorem pass_eq {E : List (Int × Int)} : ∀ {ks : List Int}, (E.foldl pass1 ks).length = ks.length → E.foldl pass1 ks = ks := by
  induction E with
  | nil => intro ks _; rfl
  | cons ab E ih =>
    intro ks h
    rw [List.foldl_cons] at h ⊢
    have h1 := pass1_len ks ab
    have h2 := pass_len (E := E) (pass1 ks ab)
    have h3 : (pass1 ks ab).length = ks.length := by omega
    have h4 : pass1 ks ab = ks := by
      unfold pass1 at h3 ⊢
      split at h3
      · rename_i ha; rw [if_pos ha]; exact ins_eq h3
      · rename_i ha; rw [if_neg ha]
    rw [h4] at h ⊢
    exact ih h
theorem reach_closed {E : List (Int × Int)} {s : Int} {ks : List Int} (hs : s ∈ ks) (hc : ∀ a b, (a, b) ∈ E → a ∈ ks → b ∈ ks) {x : Int} (h : Reach E s x) : x ∈ ks := by
  induction h with
  | refl => exact hs
  | step _ he ih => exact hc _ _ he ih
/-- a set of ints, as a dict's cell -/
def bset (ks : List Int) : Cell := .dt (ks.map Sum.inl) (ks.map fun _ => T.bl true)
theorem hasK_ints {b : Int} : ∀ ks : List Int, hasK (ks.map Sum.inl) (Sum.inl b) = decide (b ∈ ks)
  | [] => by simp [hasK]
  | k :: ks => by
    have ih := hasK_ints (b := b) ks
    unfold hasK at ih ⊢
    rw [List.map_cons, List.any_cons, ih]
    by_cases h : k = b
    · subst h; simp
    · have h1 : ¬ (Sum.inl k : Key) = Sum.inl b := fun z => h (Sum.inl.inj z)
      have h2 : ¬ b = k := fun z => h z.symm
      simp [h1, h2, List.mem_cons]
theorem look_bset {b : Int} (ks : List Int) : (look (ks.map Sum.inl) (ks.map fun _ => T.bl true) (Sum.inl b)).isSome = decide (b ∈ ks) := by
  rw [← has_look (Sum.inl b) (by simp), hasK_ints]
theorem putAll_same {k : Key} {x : T} : ∀ ks : List Key, putAll k x ks (ks.map fun _ => x) = ks.map fun _ => x
  | [] => rfl
  | j :: ks => by
    rw [List.map_cons]
    unfold putAll
    rw [putAll_same ks]
    split <;> rfl
theorem putKs_bset {b : Int} (ks : List Int) : putKs (ks.map Sum.inl) (Sum.inl b) = (ins ks b).map Sum.inl := by
  unfold putKs ins
  rw [hasK_ints]
  by_cases h : b ∈ ks
  · rw [if_pos (decide_eq_true h), if_pos h]
  · rw [if_neg (by simpa using h), if_neg h, List.map_append]; rfl
theorem putXs_bset {b : Int} (ks : List Int) : putXs (ks.map Sum.inl) (ks.map fun _ => T.bl true) (Sum.inl b) (T.bl true) = (ins ks b).map fun _ => T.bl true := by
  unfold putXs ins
  rw [hasK_ints]
  by_cases h : b ∈ ks
  · rw [if_pos (decide_eq_true h), if_pos h]
    have := putAll_same (k := Sum.inl b) (x := T.bl true) (ks.map Sum.inl)
    rw [List.map_map] at this
    exact this
  · rw [if_neg (by simpa using h), if_neg h, List.map_append]; rfl
def C_reached : PC := fun ts Q => ∃ (w : Web) (p s : Int) (tn : Bool), ts = [w.t, .int p, .int s, .bl tn] ∧ w.rows.length ≤ 1000 ∧ ∀ ks : List Int, ks.Nodup → (∀ x, x ∈ ks ↔ Reach (w.edges p tn) s x) → Q (.f (bset ks))
theorem ln_reached : ∀ ts Q, C_reached ts Q → ts.length = ["web", "part", "start", "turned"].length := by rintro ts Q ⟨_, _, _, _, rfl, _⟩; rfl
def rd_reached : DSt :=
  dSeq (dAsg (dDisp [(dVar 2, dC (.bl true))]) (dgN 4))
  (dSeq (dAsg (dC (.int 0)) (dgN 5))
  (dSeq (dWhile (dB (d2 (fI0 fun i j => .bl (decide (i < j))) (dVar 5) (dN fLen (dCons (dVar 4) (dNil))))) (dSeq (dAsg (dN fLen (dCons (dVar 4) (dNil))) (dgN 5))
  (dFor (diL (dCallT C_rows_of (dCons (dVar 0) (dCons (dVar 1) (dNil))))) (dgN 6) (dSeq (dPar 7 8 (dCons (d2 fIx (d2 fIx (d2 fIx (dVar 0) (dC (.int 1))) (dVar 6)) (dC (.int 1))) (dCons (d2 fIx (d2 fIx (d2 fIx (dVar 0) (dC (.int 1))) (dVar 6)) (dC (.int 2))) (dNil))))
  (dSeq (dIfS (dB (dVar 3)) (dPar 7 8 (dCons (dVar 8) (dCons (dVar 7) (dNil)))) (dNext))
  (dIfS (dB (d2 (fDin false) (dVar 7) (dVar 4))) (dDput (dVar 4) (dVar 8) (dC (.bl true))) (dNext)))))))
  (dRet (dVar 4))))

/-! one written pair -/
def onKey (w : W) (P : Key → Prop) : Prop := match w with | .t kt => (match keyT kt with | some k => P k | none => False) | _ => False
def onTr (w : W) (P : T → Prop) : Prop := match w with | .t x => P x | _ => False
theorem o_Key {kt : T} {k : Key} {P : Key → Prop} (e : keyT kt = some k) (h : P k) : onKey (.t kt) P := by unfold onKey; dsimp only; rw [e]; exact h
theorem i_disp1 {tk tv : Dt} {g : G} {Q : W → G → Prop} (h : tk g fun w g1 => onKey w fun k => tv g1 fun w2 g2 => onTr w2 fun x => 1 ≤ 15 ∧ Q (.h g2.mem.length) (g2.push (.dt [k] [x]))) : dDisp [(tk, tv)] g Q := h
theorem rp_reached : ∀ ts Q, C_reached ts Q → rd_reached ⟨FinP Q (.t .non), FinP Q, fun _ => False, fun _ => False⟩ ⟨ts.map (fun t => some (W.t t)) ++ List.replicate (9 - ts.length) none, []⟩ := by
  rintro ts Q ⟨w, p, s, tn, rfl, hl, hQ⟩
  unfold rd_reached Web.t
  walk_at "dl"
  refine i_disp1 ?_
  walk_at "dl"
  refine o_Key rfl ?_
  walk_at "dl"
  refine ⟨by decide, ?_⟩
  walk_at "dl"
  have sub0 : ∀ ks : List Int, (∀ x ∈ ks, x ∈ s :: (w.edges p tn).map (·.2)) → ks.Nodup → ks.length ≤ 1001 := fun ks h nd => by
    have h1 := nd.length_le_of_subset h
    have h2 : (w.edges p tn).length ≤ w.rows.length := by
      unfold Web.edges Web.rowsOf
      rw [List.length_map]
      exact Nat.le_trans (List.length_filter_le _ _) (by rw [List.length_range]; exact Nat.le_refl _)
    rw [List.length_cons, List.length_map] at h1
    omega
  have rsub : ∀ x, Reach (w.edges p tn) s x → x ∈ s :: (w.edges p tn).map (·.2) := fun x h => by
    cases h with
    | refl => simp
    | step _ he => exact List.mem_cons_of_mem _ (List.mem_map.mpr ⟨_, he, rfl⟩)
  refine ⟨fun n g' => ∃ (ks : List Int) (m : Nat) (o6 o7 o8 : Option W), g' = ⟨[some (.t (.tup [.lst (w.places.map T.int), .lst (w.rows.map Row.t)])), some (.t (.int p)), some (.t (.int s)), some (.t (.bl tn)), some (.h 0), some (.t (.int m)), o6, o7, o8], [some (bset ks)]⟩ ∧
      ks.Nodup ∧ s ∈ ks ∧ (∀ x ∈ ks, Reach (w.edges p tn) s x) ∧ m ≤ ks.length ∧ (m = ks.length → ∀ a b, (a, b) ∈ w.edges p tn → a ∈ ks → b ∈ ks) ∧ n = 2000 - m, ⟨_, [s], 0, none, none, none, rfl, by simp, by simp, ?_, by simp, by simp, rfl⟩, ?_⟩
  · intro x hx
    simp at hx
    subst hx
    exact .refl
  · rintro n g' ⟨ks, m, o6, o7, o8, rfl, nd, hs, hr, hm, hcl, rfl⟩
    have hb : ks.length ≤ 1001 := sub0 ks (fun x hx => rsub x (hr x hx)) nd
    unfold bset
    walk_at "dl"
    rw [List.length_map]
    refine k_d (fun hlt => ?_) (fun hge => ?_)
    · walk_at "dl"
      rw [List.length_map]
      refine ⟨w, p, rfl, hl, ?_⟩
      walk_at "dl"
      refine forP (w.rowsOf p) (fun k => W.t (natT k)) (fun ks k => pass1 ks (w.edge tn k))
        (fun ks' g' => ∃ (o6 o7 o8 : Option W), g' = ⟨[some (.t (.tup [.lst (w.places.map T.int), .lst (w.rows.map Row.t)])), some (.t (.int p)), some (.t (.int s)), some (.t (.bl tn)), some (.h 0), some (.t (.int ks.length)), o6, o7, o8], [some (bset ks')]⟩)
        ks (by rw [List.map_map]; rfl) ⟨o6, o7, o8, rfl⟩ (fun _ _ _ => rfl) ?_ ?_
      · rintro pre k post hsp g' ⟨o6, o7, o8, rfl⟩ N hN
        have hk : k < w.rows.length := (mem_rowsOf.mp (by rw [hsp]; simp : k ∈ w.rowsOf p)).1
        have hrow := row_at hk
        generalize hks : pre.foldl (fun ks k => pass1 ks (w.edge tn k)) ks = ks2 at hN
        have hb2 : ks2.length ≤ 1001 := by
          have e1 : ks2 = ((pre.map (w.edge tn)).foldl pass1 ks) := by rw [← hks, List.foldl_map]
          have hin : ∀ ab ∈ pre.map (w.edge tn), ab ∈ w.edges p tn := fun ab hab => by
            obtain ⟨j, hj, rfl⟩ := List.mem_map.mp hab
            exact List.mem_map.mpr ⟨j, by rw [hsp]; simp [hj], rfl⟩
          rw [e1]
          exact sub0 _ (fun x hx => rsub x (pass_reach _ hin hr x hx)) (pass_nd nd)
        unfold natT Row.t bset at *
        walk_at "dl"
        cases tn with
        | true =>
          walk_at "dl"
          rw [look_bset]
          refine k_d (fun hin => ?_) (fun hin => ?_)
          · walk_at "dl"
            refine o_dput rfl rfl (by rw [List.length_map]; exact lineLt (by omega)) ?_
            walk_at "dn"
            rw [putKs_bset, putXs_bset]
            have e : pass1 ks2 (w.edge true k) = ins ks2 _ := if_pos hin
            rw [e] at hN
            exact hN _ ⟨_, _, _, rfl⟩
          · walk_at "dl"
            have e : pass1 ks2 (w.edge true k) = ks2 := if_neg hin
            rw [e] at hN
            exact hN _ ⟨_, _, _, rfl⟩
        | false =>
          walk_at "dl"
          rw [look_bset]
          refine k_d (fun hin => ?_) (fun hin => ?_)
          · walk_at "dl"
            refine o_dput rfl rfl (by rw [List.length_map]; exact lineLt (by omega)) ?_
            walk_at "dn"
            rw [putKs_bset, putXs_bset]
            have e : pass1 ks2 (w.edge false k) = ins ks2 _ := if_pos hin
            rw [e] at hN
            exact hN _ ⟨_, _, _, rfl⟩
          · walk_at "dl"
            have e : pass1 ks2 (w.edge false k) = ks2 := if_neg hin
            rw [e] at hN
            exact hN _ ⟨_, _, _, rfl⟩
      · rintro g' ⟨o6, o7, o8, rfl⟩
        have e1 : (w.rowsOf p).foldl (fun ks k => pass1 ks (w.edge tn k)) ks = (w.edges p tn).foldl pass1 ks := by unfold Web.edges; rw [List.foldl_map]
        rw [e1]
        refine ⟨2000 - ks.length, by omega, _, ks.length, o6, o7, o8, rfl, pass_nd nd, pass_sub hs, pass_reach _ (fun _ h => h) hr, pass_len ks, fun he a b hab ha => ?_, rfl⟩
        have e2 := pass_eq he.symm
        rw [e2] at ha ⊢
        rw [← e2]
        exact pass_has hab ha
    · walk_at "dl"
      have he : m = ks.length := by omega
      exact hQ ks nd fun x => ⟨hr x, reach_closed hs (hcl he)⟩
def Web.place (w : Web) (i : Int) : Int := w.places.getD i.toNat 0
def Web.rowOk (w : Web) (r : Row) : Prop := 0 ≤ r.p ∧ r.p < w.places.length ∧ 0 ≤ r.s ∧ 0 ≤ r.e ∧ r.s < w.place r.p ∧ r.e < w.place r.p ∧ r.s ≠ 1 ∧ r.c < w.places.length ∧ (r.c = -1 ∨ r.p < r.c)
theorem place_at {w : Web} {i : Int} (h0 : 0 ≤ i) (h1 : i < w.places.length) : atI (w.places.map T.int) i = some (.int (w.place i)) := by
  obtain ⟨n, rfl⟩ := Int.eq_ofNat_of_zero_le h0
  exact atI_map T.int (atI_getD 0 (by omega))
def C_fits_row : PC := fun ts Q => ∃ (w : Web) (r : Row), ts = [w.t, r.t] ∧ (w.rowOk r → Q (.t (.bl true))) ∧ (¬ w.rowOk r → Q (.t (.bl false)))
theorem ln_fits_row : ∀ ts Q, C_fits_row ts Q → ts.length = ["web", "row"].length := by rintro ts Q ⟨_, _, rfl, _⟩; rfl
def rd_fits_row : DSt :=
  dSeq (dAsg (dVar 0) (dgTup 2 (dgCons (dgN 2) (dgCons (dgN 3) (dgNil)))))
  (dSeq (dAsg (dVar 1) (dgTup 4 (dgCons (dgN 4) (dgCons (dgN 5) (dgCons (dgN 6) (dgCons (dgN 7) (dgNil)))))))
  (dSeq (dIfS (dOr (dB (d2 (fI0 fun i j => .bl (decide (i < j))) (dVar 4) (dC (.int 0)))) (dOr (dB (d2 (fI0 fun i j => .bl (decide (j ≤ i))) (dVar 4) (dN fLen (dCons (dVar 2) (dNil))))) (dOr (dB (d2 (fI0 fun i j => .bl (decide (i < j))) (dN fMin (dCons (dVar 5) (dCons (dVar 6) (dNil)))) (dC (.int 0)))) (dB (d2 (fI0 fun i j => .bl (decide (j ≤ i))) (dN fMax (dCons (dVar 5) (dCons (dVar 6) (dNil)))) (d2 fIx (dVar 2) (dVar 4))))))) (dRet (dC (.bl false))) (dNext))
  (dRet (dAndV (d2 (fEq true) (dVar 5) (dC (.int 1))) (dAndV (d2 (fI0 fun i j => .bl (decide (i < j))) (dVar 7) (dN fLen (dCons (dVar 2) (dNil)))) (dOrV (d2 (fEq false) (dVar 7) (d1 fNeg (dC (.int 1)))) (d2 (fI0 fun i j => .bl (decide (j < i))) (dVar 7) (dVar 4))))))))

theorem rp_fits_row : ∀ ts Q, C_fits_row ts Q → rd_fits_row ⟨FinP Q (.t .non), FinP Q, fun _ => False, fun _ => False⟩ ⟨ts.map (fun t => some (W.t t)) ++ List.replicate (8 - ts.length) none, []⟩ := by
  rintro ts Q ⟨w, r, rfl, hT, hF⟩
  unfold rd_fits_row Web.t Row.t
  unfold Web.rowOk at hT hF
  walk_at "dl"
  refine k_d (fun h1 => ?_) (fun h1 => ?_)
  · walk_at "dl"
    exact hF (by omega)
  · walk_at "dl"
    rw [List.length_map]
    refine k_d (fun h2 => ?_) (fun h2 => ?_)
    · walk_at "dl"
      exact hF (by omega)
    · have hp := place_at (w := w) (i := r.p) (by omega) (by omega)
      walk_at "dl"
      refine k_d (fun h3 => ?_) (fun h3 => ?_)
      · walk_at "dl"
        exact hF (by split at h3 <;> omega)
      · walk_at "dl"
        refine k_d (fun h4 => ?_) (fun h4 => ?_)
        · walk_at "dl"
          exact hF (by split at h4 <;> omega)
        · have h5 : 0 ≤ r.s ∧ 0 ≤ r.e ∧ r.s < w.place r.p ∧ r.e < w.place r.p := by split at h3 <;> split at h4 <;> omega
          walk_at "dl"
          refine k_n (fun h6 => ?_) (fun h6 => ?_)
          · walk_at "dl"
            rw [List.length_map]
            refine k_d (fun h7 => ?_) (fun h7 => ?_)
            · walk_at "dl"
              refine k_d (fun h8 => ?_) (fun h8 => ?_)
              · walk_at "dl"
                exact hT (by omega)
              · walk_at "dl"
                by_cases h9 : r.p < r.c
                · rw [decide_eq_true h9]
                  exact hT (by omega)
                · rw [decide_eq_false h9]
                  exact hF (by omega)
            · walk_at "dl"
              exact hF (by omega)
          · walk_at "dl"
            exact hF (by omega)
/-! is_web -/
def Web.partOk (w : Web) (p : Nat) : Prop := (∀ q : Int, 0 ≤ q → q < w.place p → Reach (w.edges p false) 0 q ∧ Reach (w.edges p true) 1 q) ∧ (0 < p → ∃ r ∈ w.rows, r.c = (p : Int))
def Web.Ok (w : Web) : Prop := (1 ≤ w.places.length ∧ w.places.length ≤ 4 ∧ 1 ≤ w.rows.length ∧ w.rows.length ≤ 60) ∧ (∀ p ∈ w.places, 2 ≤ p ∧ p ≤ 16) ∧ (∀ r ∈ w.rows, w.rowOk r) ∧ (∀ p : Nat, p < w.places.length → w.partOk p)
theorem row_mem {w : Web} {k : Nat} (h : k < w.rows.length) : w.row k ∈ w.rows := by
  unfold Web.row
  rw [List.getD_eq_getElem?_getD, List.getElem?_eq_getElem h]
  exact List.getElem_mem h
theorem place_mem {w : Web} {p : Nat} (h : p < w.places.length) : w.place p ∈ w.places := by
  unfold Web.place
  rw [Int.toNat_natCast, List.getD_eq_getElem?_getD, List.getElem?_eq_getElem h]
  exact List.getElem_mem h
theorem reach_in {w : Web} {p : Nat} {tn : Bool} {s : Int} (hr : ∀ r ∈ w.rows, w.rowOk r) (hs : 0 ≤ s ∧ s < w.place p) {x : Int} (h : Reach (w.edges p tn) s x) : 0 ≤ x ∧ x < w.place p := by
  cases h with
  | refl => exact hs
  | step _ he =>
    obtain ⟨k, hk, ek⟩ := List.mem_map.mp he
    obtain ⟨h1, h2⟩ := mem_rowsOf.mp hk
    have h3 := hr _ (row_mem h1)
    unfold Web.rowOk at h3
    rw [h2] at h3
    unfold Web.edge at ek
    split at ek
    · have : x = (w.row k).s := (Prod.mk.inj ek).2.symm
      omega
    · have : x = (w.row k).e := (Prod.mk.inj ek).2.symm
      omega
theorem full_iff {ks : List Int} {n : Int} (h0 : 0 ≤ n) (nd : ks.Nodup) (h : ∀ x ∈ ks, 0 ≤ x ∧ x < n) : (ks.length : Int) = n ↔ ∀ q : Int, 0 ≤ q → q < n → q ∈ ks := by
  obtain ⟨m, rfl⟩ := Int.eq_ofNat_of_zero_le h0
  have rg : ((List.range m).map fun k => ((k : Nat) : Int)).Nodup := by
    rw [List.nodup_iff_pairwise_ne, List.pairwise_map]
    exact List.Pairwise.imp (fun h z => h (by exact Int.ofNat.inj z)) List.nodup_range
  constructor
  · intro hl q h1 h2
    refine Classical.byContradiction fun hq => ?_
    have h3 : (q :: ks).Nodup := List.nodup_cons.mpr ⟨hq, nd⟩
    have h4 := h3.length_le_of_subset (l₂ := (List.range m).map fun k => ((k : Nat) : Int)) (by
      intro x hx
      rw [List.mem_map]
      rcases List.mem_cons.mp hx with rfl | hx
      · exact ⟨x.toNat, by rw [List.mem_range]; omega, by omega⟩
      · have := h x hx
        exact ⟨x.toNat, by rw [List.mem_range]; omega, by omega⟩)
    rw [List.length_cons, List.length_map, List.length_range] at h4
    omega
  · intro hq
    have h4 := rg.length_le_of_subset (l₂ := ks) (by
      intro x hx
      obtain ⟨k, hk, rfl⟩ := List.mem_map.mp hx
      rw [List.mem_range] at hk
      exact hq _ (by omega) (by omega))
    have h5 := nd.length_le_of_subset (l₂ := (List.range m).map fun k => ((k : Nat) : Int)) (by
      intro x hx
      have := h x hx
      rw [List.mem_map]
      exact ⟨x.toNat, by rw [List.mem_range]; omega, by omega⟩)
    rw [List.length_map, List.length_range] at h4 h5
    omega
/-- a loop that looks at each thing and leaves at the first that is not so -/
theorem forA {D : De} {g1 : G} {gt : DGt} {tb : DSt} {ws : List W} {St : G → Prop} {ι : Type} (items : List ι) (enc : ι → W) (ok : ι → Prop) (R : G → Prop) (hws : ws = items.map enc) (h0 : R g1) (hSt : ∀ g, R g → St g)
    (hstep : ∀ x ∈ items, ∀ g', R g' → ∀ N : G → Prop, (ok x → ∀ g'', R g'' → N g'') → gt (enc x) g' fun g2 => tb { D with nx := N, ct := N, bk := D.nx } g2)
    (hQ : (∀ x ∈ items, ok x) → ∀ g', R g' → D.nx g') : forI ws St g1 gt tb D := by
  subst hws
  refine ⟨fun i g' => (∀ x ∈ items.take i, ok x) ∧ R g', ⟨by simp, h0⟩, fun i g' h => hSt _ h.2, fun i w g' hw h => ?_, fun g' h => ?_⟩
  · rw [List.getElem?_map] at hw
    cases e : items[i]? with
    | none => rw [e] at hw; cases hw
    | some x =>
      rw [e] at hw
      cases hw
      refine hstep x (List.mem_of_getElem? e) g' h.2 _ fun hx g'' h'' => ⟨fun y hy => ?_, h''⟩
      rw [List.take_add_one, e, List.mem_append] at hy
      rcases hy with hy | hy
      · exact h.1 y hy
      · simp at hy; subst hy; exact hx
  · rw [List.length_map, List.take_length] at h
    exact hQ h.1 g' h.2
def C_is_web : PC := fun ts Q => ∃ (w : Web), ts = [w.t] ∧ w.rows.length ≤ 1000 ∧ w.places.length ≤ 1000 ∧ (w.Ok → Q (.t (.bl true))) ∧ (¬ w.Ok → Q (.t (.bl false)))
theorem ln_is_web : ∀ ts Q, C_is_web ts Q → ts.length = ["web"].length := by rintro ts Q ⟨_, rfl, _⟩; rfl
theorem inT_ints {x : Int} (xs : List Int) : inT (.int x) (xs.map T.int) = decide (x ∈ xs) := by
  unfold inT
  induction xs with
  | nil => simp
  | cons y ys ih =>
    rw [List.map_cons, List.any_cons, ih]
    simp only [T.flat, eqV]
    by_cases h : y = x
    · subst h; simp
    · have h2 : ¬ x = y := fun z => h z.symm
      simp [h, h2, List.mem_cons]
theorem flat_ints (xs : List Int) : ∀ t ∈ xs.map T.int, t.flat.isSome = true := by
  intro t ht
  obtain ⟨x, _, rfl⟩ := List.mem_map.mp ht
  rfl
def rd_is_web : DSt :=
  dSeq (dAsg (dVar 0) (dgTup 2 (dgCons (dgN 1) (dgCons (dgN 2) (dgNil)))))
  (dSeq (dIfS (dOr (dB (d2 (fI0 fun i j => .bl (decide (i < j))) (dN fLen (dCons (dVar 1) (dNil))) (dC (.int 1)))) (dOr (dB (d2 (fI0 fun i j => .bl (decide (j < i))) (dN fLen (dCons (dVar 1) (dNil))) (dC (.int 4)))) (dOr (dB (d2 (fI0 fun i j => .bl (decide (i < j))) (dN fLen (dCons (dVar 2) (dNil))) (dC (.int 1)))) (dB (d2 (fI0 fun i j => .bl (decide (j < i))) (dN fLen (dCons (dVar 2) (dNil))) (dC (.int 60))))))) (dRet (dC (.bl false))) (dNext))
  (dSeq (dIfS (dOr (dB (d2 (fI0 fun i j => .bl (decide (i < j))) (dN fMin (dCons (dVar 1) (dNil))) (dC (.int 2)))) (dB (d2 (fI0 fun i j => .bl (decide (j < i))) (dN fMax (dCons (dVar 1) (dNil))) (dC (.int 16))))) (dRet (dC (.bl false))) (dNext))
  (dSeq (dFor (diL (dVar 2)) (dgN 3) (dIfS (dNot (dB (dCallT C_fits_row (dCons (dVar 0) (dCons (dVar 3) (dNil)))))) (dRet (dC (.bl false))) (dNext)))
  (dSeq (dFor (diR1 (dCons (dN fLen (dCons (dVar 1) (dNil))) (dNil))) (dgN 4) (dSeq (dIfS (dOr (dB (d2 (fEq true) (dN fLen (dCons (dCallT C_reached (dCons (dVar 0) (dCons (dVar 4) (dCons (dC (.int 0)) (dCons (dC (.bl false)) (dNil)))))) (dNil))) (d2 fIx (dVar 1) (dVar 4)))) (dB (d2 (fEq true) (dN fLen (dCons (dCallT C_reached (dCons (dVar 0) (dCons (dVar 4) (dCons (dC (.int 1)) (dCons (dC (.bl true)) (dNil)))))) (dNil))) (d2 fIx (dVar 1) (dVar 4))))) (dRet (dC (.bl false))) (dNext))
  (dIfS (dAnd (dB (d2 (fI0 fun i j => .bl (decide (j < i))) (dVar 4) (dC (.int 0)))) (dB (d2 (fIn true) (dVar 4) (dLc finT (diL (dVar 2)) (dgN 3) (dYes) (d2 fIx (dVar 3) (dC (.int 3))) [3])))) (dRet (dC (.bl false))) (dNext))))
  (dRet (dC (.bl true)))))))

theorem rp_is_web : ∀ ts Q, C_is_web ts Q → rd_is_web ⟨FinP Q (.t .non), FinP Q, fun _ => False, fun _ => False⟩ ⟨ts.map (fun t => some (W.t t)) ++ List.replicate (5 - ts.length) none, []⟩ := by
  rintro ts Q ⟨w, rfl, hl, hl2, hT, hF⟩
  unfold rd_is_web Web.t
  walk_at "dl"
  rw [List.length_map]
  refine k_d (fun h1 => ?_) (fun h1 => ?_)
  · walk_at "dl"
    exact hF fun z => by have := z.1; omega
  walk_at "dl"
  rw [List.length_map]
  refine k_d (fun h2 => ?_) (fun h2 => ?_)
  · walk_at "dl"
    exact hF fun z => by have := z.1; omega
  walk_at "dl"
  rw [List.length_map]
  refine k_d (fun h3 => ?_) (fun h3 => ?_)
  · walk_at "dl"
    exact hF fun z => by have := z.1; omega
  walk_at "dl"
  rw [List.length_map]
  refine k_d (fun h4 => ?_) (fun h4 => ?_)
  · walk_at "dl"
    exact hF fun z => by have := z.1; omega
  walk_at "dl"
  refine i_min (ns := w.places) rfl (by omega) fun mn m1 m2 => ?_
  walk_at "dl"
  refine k_d (fun h5 => ?_) (fun h5 => ?_)
  · walk_at "dl"
    exact hF fun z => by have := z.2.1 mn m1; omega
  walk_at "dl"
  refine i_max (ns := w.places) rfl (by omega) fun mx m3 m4 => ?_
  walk_at "dl"
  refine k_d (fun h6 => ?_) (fun h6 => ?_)
  · walk_at "dl"
    exact hF fun z => by have := z.2.1 mx m3; omega
  walk_at "dl"
  refine forA w.rows (fun r => W.t r.t) w.rowOk (fun g' => ∃ o3 o4, g' = ⟨[some (.t w.t), some (.t (.lst (w.places.map T.int))), some (.t (.lst (w.rows.map Row.t))), o3, o4], []⟩) (by rw [List.map_map]; rfl) ⟨none, none, rfl⟩ (by rintro g ⟨_, _, rfl⟩; rfl) ?_ ?_
  · rintro r hr g' ⟨o3, o4, rfl⟩ N hN
    walk_at "dl"
    refine ⟨w, r, rfl, fun hok => ?_, fun hno => ?_⟩
    · walk_at "dl"
      exact hN hok _ ⟨_, _, rfl⟩
    · walk_at "dl"
      exact hF fun z => hno (z.2.2.1 r hr)
  rintro hrows g' ⟨o3, o4, rfl⟩
  walk_at "dl"
  rw [List.length_map]
  refine ⟨by omega, ?_⟩
  have hpl : ∀ p ∈ w.places, 2 ≤ p ∧ p ≤ 16 := fun p hp => ⟨by have := m2 p hp; omega, by have := m4 p hp; omega⟩
  refine forA (List.range w.places.length) (fun k => W.t (natT k)) w.partOk (fun g' => ∃ o3 o4, g' = ⟨[some (.t w.t), some (.t (.lst (w.places.map T.int))), some (.t (.lst (w.rows.map Row.t))), o3, o4], []⟩) (by rw [Int.toNat_natCast, rgW0]; rfl) ⟨_, _, rfl⟩ (by rintro g ⟨_, _, rfl⟩; trivial) ?_ ?_
  · rintro p hp g' ⟨o3, o4, rfl⟩ N hN
    have hp' : p < w.places.length := by simpa using hp
    have hpp := hpl _ (place_mem hp')
    have hat := place_at (w := w) (i := (p : Int)) (by omega) (by omega)
    unfold natT
    walk_at "dl"
    refine ⟨w, p, 0, false, rfl, hl, fun ks nd hks => ?_⟩
    unfold bset
    walk_at "dl"
    rw [List.length_map]
    have f1 := full_iff (n := w.place p) (by omega) nd (fun x hx => reach_in hrows (by omega) ((hks x).mp hx))
    refine k_n (fun h7 => ?_) (fun h7 => ?_)
    · walk_at "dl"
      exact hF fun z => h7 (f1.mpr fun q h8 h9 => (hks q).mpr ((z.2.2.2 p hp').1 q h8 h9).1)
    walk_at "dl"
    refine ⟨w, p, 1, true, rfl, hl, fun ks2 nd2 hks2 => ?_⟩
    unfold bset
    walk_at "dl"
    rw [List.length_map]
    have f2 := full_iff (n := w.place p) (by omega) nd2 (fun x hx => reach_in hrows (by omega) ((hks2 x).mp hx))
    refine k_n (fun h8 => ?_) (fun h8 => ?_)
    · walk_at "dl"
      exact hF fun z => h8 (f2.mpr fun q h9 h10 => (hks2 q).mpr ((z.2.2.2 p hp').1 q h9 h10).2)
    have hreach : ∀ q : Int, 0 ≤ q → q < w.place p → Reach (w.edges p false) 0 q ∧ Reach (w.edges p true) 1 q := fun q h9 h10 => ⟨(hks q).mp (f1.mp h7 q h9 h10), (hks2 q).mp (f2.mp h8 q h9 h10)⟩
    walk_at "dl"
    refine k_d (fun h9 => ?_) (fun h9 => ?_)
    · walk_at "dl"
      refine lcP w.rows (fun r => W.t r.t) (fun _ => true) (fun r => .int r.c) (by rw [List.map_map]; rfl) (lineLe (by omega)) rfl ?_ rfl ?_
      · intro r hr Y N2 hY hN2
        have h10 : atI [T.int r.p, T.int r.s, T.int r.e, T.int r.c] 3 = some (.int r.c) := rfl
        unfold Row.t
        walk_at "dl"
        exact hY rfl _ rfl
      · walk_at "dl"
        rw [List.filter_eq_self.mpr (fun _ _ => rfl), show (w.rows.map fun r => T.int r.c) = (w.rows.map Row.c).map T.int by rw [List.map_map]; rfl]
        walk_at "dl"
        refine i_notIn rfl rfl (flat_ints _) ?_
        rw [inT_ints]
        walk_at "dl"
        refine k_n (fun h10 => ?_) (fun h10 => ?_)
        · walk_at "dl"
          refine hF fun z => h10 ?_
          obtain ⟨r, hr, er⟩ := (z.2.2.2 p hp').2 (by omega)
          exact List.mem_map.mpr ⟨r, hr, er⟩
        · walk_at "dl"
          refine hN ⟨hreach, fun _ => ?_⟩ _ ⟨_, _, rfl⟩
          obtain ⟨r, hr, er⟩ := List.mem_map.mp h10
          exact ⟨r, hr, er⟩
    · walk_at "dl"
      exact hN ⟨hreach, fun z => by omega⟩ _ ⟨_, _, rfl⟩
  · rintro hparts g' ⟨o3, o4, rfl⟩
    walk_at "dl"
    exact hT ⟨by omega, hpl, hrows, fun p hp => hparts p (by simpa using hp)⟩
def C_must_be_web : PC := fun ts Q => ∃ (w : Web), ts = [w.t] ∧ w.Ok ∧ Q (.t .non)
theorem ln_must_be_web : ∀ ts Q, C_must_be_web ts Q → ts.length = ["web"].length := by rintro ts Q ⟨_, rfl, _⟩; rfl
def rd_must_be_web : DSt :=
  dIfS (dNot (dB (dCallT C_is_web (dCons (dVar 0) (dNil))))) (dNever) (dNext)

theorem rp_must_be_web : ∀ ts Q, C_must_be_web ts Q → rd_must_be_web ⟨FinP Q (.t .non), FinP Q, fun _ => False, fun _ => False⟩ ⟨ts.map (fun t => some (W.t t)) ++ List.replicate (1 - ts.length) none, []⟩ := by
  rintro ts Q ⟨w, rfl, hok, hQ⟩
  have h := hok.1
  unfold rd_must_be_web
  walk_at "dl"
  refine ⟨w, rfl, by omega, by omega, fun _ => ?_, fun z => absurd hok z⟩
  walk_at "dl"
  exact hQ
/-! generator 2: numbers mixed, cells, draws -/
theorem mulB {a b : Int} {m n : Nat} (ha : Builtin.Int.intBits a ≤ m) (hb : Builtin.Int.intBits b ≤ n) (h : m + n ≤ 134217728) : IntMulOk a b := IntMulOk.of_le ha hb h
theorem bits64 {k : Int} (h1 : -(2 ^ 64) < k) (h2 : k < 2 ^ 64) : Builtin.Int.intBits k ≤ 64 := intBits_le_64 h1 h2
theorem mulR {a b : Int} (h1 : -(2 ^ 64) < b) (h2 : b < 2 ^ 64) : IntMulOk a b := IntMulOk.of_right (intBits_le_64 h1 h2)
theorem mulL {a b : Int} (h1 : -(2 ^ 64) < a) (h2 : a < 2 ^ 64) : IntMulOk a b := IntMulOk.of_left (intBits_le_64 h1 h2)
theorem fmod_rng {a n : Int} (h : 0 < n) : 0 ≤ a.fmod n ∧ a.fmod n < n := ⟨Int.fmod_nonneg_of_pos a h, Int.fmod_lt_of_pos a h⟩
def Fit (a : Int) : Prop := Builtin.Int.intBits a ≤ 1048640
def C__law_mix : PC := fun ts Q => ∃ a k : Int, ts = [.int a, .int k] ∧ Fit a ∧ 0 ≤ k ∧ k ≤ 1000000 ∧ ∀ r : Int, 0 ≤ r → r < 2147483587 → Q (.t (.int r))
theorem ln__law_mix : ∀ ts Q, C__law_mix ts Q → ts.length = ["a", "b"].length := by rintro ts Q ⟨_, _, rfl, _⟩; rfl
def rd__law_mix : DSt :=
  dSeq (dAsg (d2 (fI (fun _ j => j ≠ 0) fun i j => .int (i.fmod j)) (d2 (fI IntMulOk fun i j => .int (i * j)) (d2 fAdd (d2 fAdd (d2 (fI IntMulOk fun i j => .int (i * j)) (dVar 0) (dVar 0)) (d2 (fI IntMulOk fun i j => .int (i * j)) (dVar 1) (dVar 0))) (d2 (fI IntMulOk fun i j => .int (i * j)) (d2 (fI IntMulOk fun i j => .int (i * j)) (dC (.int 7)) (dVar 1)) (dVar 1))) (dC (.int 1103515245))) (dC (.int 2147483629))) (dgN 2))
  (dRet (d2 (fI (fun _ j => j ≠ 0) fun i j => .int (i.fmod j)) (d2 (fI IntMulOk fun i j => .int (i * j)) (dVar 2) (dVar 2)) (dC (.int 2147483587))))

theorem rp__law_mix : ∀ ts Q, C__law_mix ts Q → rd__law_mix ⟨FinP Q (.t .non), FinP Q, fun _ => False, fun _ => False⟩ ⟨ts.map (fun t => some (W.t t)) ++ List.replicate (3 - ts.length) none, []⟩ := by
  rintro ts Q ⟨a, k, rfl, ha, hk0, hk1, hQ⟩
  unfold rd__law_mix
  walk_at "dl"
  refine i_fI (mulB ha ha (by decide)) ?_
  walk_at "dl"
  refine i_fI (mulL (by omega) (by omega)) ?_
  walk_at "dl"
  refine i_fI (mulL (by decide) (by decide)) ?_
  walk_at "dl"
  refine i_fI (mulR (by omega) (by omega)) ?_
  walk_at "dl"
  refine i_fI (mulR (by decide) (by decide)) ?_
  walk_at "dl"
  refine i_fI (by decide) ?_
  have r1 := fmod_rng (a := (a * a + k * a + 7 * k * k) * 1103515245) (n := 2147483629) (by decide)
  generalize ((a * a + k * a + 7 * k * k) * 1103515245).fmod 2147483629 = n1 at r1
  walk_at "dl"
  refine i_fI (mulL (by omega) (by omega)) ?_
  walk_at "dl"
  refine i_fI (by decide) ?_
  have r2 := fmod_rng (a := n1 * n1) (n := 2147483587) (by decide)
  walk_at "dl"
  exact hQ _ r2.1 r2.2
def C__law_cell_at : PC := fun ts Q => ∃ (ns : List Int) (k : Nat), ts = [.sq (ns.map T.int), .int k] ∧ (∀ z ∈ ns, Builtin.Int.intBits z ≤ 1048576) ∧ ∀ z : Int, Builtin.Int.intBits z ≤ 1048576 → Q (.t (.int z))
theorem ln__law_cell_at : ∀ ts Q, C__law_cell_at ts Q → ts.length = ["a", "b"].length := by rintro ts Q ⟨_, _, rfl, _⟩; rfl
def rd__law_cell_at : DSt :=
  dSeq (dIfS (dB (d2 (fI0 fun i j => .bl (decide (i < j))) (dVar 1) (dN fLen (dCons (dVar 0) (dNil))))) (dRet (d2 fIx (dVar 0) (dVar 1))) (dNext))
  (dRet (dC (.int 0)))

theorem rp__law_cell_at : ∀ ts Q, C__law_cell_at ts Q → rd__law_cell_at ⟨FinP Q (.t .non), FinP Q, fun _ => False, fun _ => False⟩ ⟨ts.map (fun t => some (W.t t)) ++ List.replicate (2 - ts.length) none, []⟩ := by
  rintro ts Q ⟨ns, k, rfl, hns, hQ⟩
  unfold rd__law_cell_at
  walk_at "dl"
  rw [List.length_map]
  refine k_d (fun h => ?_) (fun h => ?_)
  · have hk : k < ns.length := by omega
    have hc : atI (ns.map T.int) (k : Int) = some (.int ns[k]) := atI_map T.int (atI_nat (List.getElem?_eq_getElem hk))
    walk_at "dl"
    exact hQ _ (hns _ (List.getElem_mem hk))
  · walk_at "dl"
    exact hQ 0 (by decide)
def LeftOk (a f : Int) : Prop := Fit a ∧ (f = 0 ∨ (f = 1 ∧ 0 ≤ a))
def C__law_left : PC := fun ts Q => ∃ (ns : List Int) (k : Nat), ts = [.sq (ns.map T.int), .int k] ∧ (∀ z ∈ ns, Builtin.Int.intBits z ≤ 1048576) ∧ ∀ a f : Int, LeftOk a f → Q (.f (.lt [.int a, .int f, .int 0]))
theorem ln__law_left : ∀ ts Q, C__law_left ts Q → ts.length = ["a", "b"].length := by rintro ts Q ⟨_, _, rfl, _⟩; rfl
def rd__law_left : DSt :=
  dSeq (dAsg (dCallT C__law_cell_at (dCons (dVar 0) (dCons (dVar 1) (dNil)))) (dgN 2))
  (dSeq (dIfS (dB (d2 (fI0 fun i j => .bl (decide (i < j))) (dVar 2) (d2 (fI CPow fun i j => .int (i ^ j.toNat)) (dC (.int 10)) (dC (.int 18))))) (dRet (dLstH (dCons (dVar 2) (dCons (dC (.int 0)) (dCons (dC (.int 0)) (dNil)))))) (dNext))
  (dRet (dLstH (dCons (d2 (fI0 fun i j => .int (i - j)) (dVar 2) (d2 (fI CPow fun i j => .int (i ^ j.toNat)) (dC (.int 10)) (dC (.int 18)))) (dCons (dC (.int 1)) (dCons (dC (.int 0)) (dNil)))))))

theorem rp__law_left : ∀ ts Q, C__law_left ts Q → rd__law_left ⟨FinP Q (.t .non), FinP Q, fun _ => False, fun _ => False⟩ ⟨ts.map (fun t => some (W.t t)) ++ List.replicate (3 - ts.length) none, []⟩ := by
  rintro ts Q ⟨ns, k, rfl, hns, hQ⟩
  unfold rd__law_left
  walk_at "dl"
  refine ⟨ns, k, rfl, hns, fun z hz => ?_⟩
  walk_at "dl"
  refine i_fI (by unfold CPow; decide) ?_
  walk_at "dl"
  refine k_d (fun h => ?_) (fun h => ?_)
  · walk_at "dl"
    refine ⟨by decide, ?_⟩
    walk_at "dl"
    exact hQ z 0 ⟨Nat.le_trans hz (by decide), .inl rfl⟩
  · walk_at "dl"
    refine i_fI (by unfold CPow; decide) ?_
    walk_at "dl"
    refine ⟨by decide, ?_⟩
    walk_at "dl"
    have hb := intBits_sub_le hz (bits64 (k := 10 ^ 18) (by decide) (by decide))
    refine hQ _ 1 ⟨Nat.le_trans hb (by decide), .inr ⟨rfl, ?_⟩⟩
    have : ¬ z < 10 ^ 18 := h
    show 0 ≤ z - 10 ^ 18
    omega
/-! a draw -/
def leftC (a f k : Int) : Cell := .lt [.int a, .int f, .int k]
def C__law_draw : SC := fun ws m QC => ∃ (base a f : Int) (k : Nat), ws = [.h 0, .t (.int base)] ∧ m = [leftC a f k] ∧ LeftOk a f ∧ k ≤ 100000 ∧ 0 < base ∧ base < 1000000 ∧
  ∀ r a' : Int, 0 ≤ r → r < base → LeftOk a' f → QC (.t (.int r)) [leftC a' f ((k + 1 : Nat) : Int)] []
theorem ln__law_draw : ∀ ws m Q, C__law_draw ws m Q → ws.length = ["a", "b"].length := by rintro ws m Q ⟨_, _, _, _, rfl, _⟩; rfl
def rd__law_draw : DSt :=
  dSeq (dAsg (d2 fAdd (d2 fIx (dVar 0) (dC (.int 2))) (dC (.int 1))) (dgSub (dVar 0) (dC (.int 2))))
  (dSeq (dIfS (dB (d2 (fEq false) (d2 fIx (dVar 0) (dC (.int 1))) (dC (.int 0)))) (dSeq (dAsg (dCallT C__law_mix (dCons (d2 fIx (dVar 0) (dC (.int 0))) (dCons (d2 fIx (dVar 0) (dC (.int 2))) (dNil)))) (dgN 2))
  (dRet (d2 (fI (fun _ j => j ≠ 0) fun i j => .int (i.fmod j)) (d2 (fI (fun _ j => j ≠ 0) fun i j => .int (i.fmod j)) (d2 (fI IntMulOk fun i j => .int (i * j)) (dVar 2) (d2 fAdd (dVar 2) (dC (.int 2)))) (dC (.int 2147483579))) (dVar 1)))) (dNext))
  (dSeq (dAsg (d2 (fI (fun _ j => j ≠ 0) fun i j => .int (i.fmod j)) (d2 fIx (dVar 0) (dC (.int 0))) (dVar 1)) (dgN 3))
  (dSeq (dAsg (d2 (fI CDivN fun i j => .int (i.fdiv j)) (d2 fIx (dVar 0) (dC (.int 0))) (dVar 1)) (dgSub (dVar 0) (dC (.int 0))))
  (dRet (dVar 3)))))

theorem fin_one {QC : W → List Cell → List Cell → Prop} {x : T} {c : Cell} {sl : List (Option W)} {mem : Sto} (hp : c.plain = true) (q : QC (.t x) [c] []) : FinS 1 QC (.t x) ⟨sl, some c :: mem⟩ := by
  refine fin_s [] [c] [] (.t x) (by decide) ?_ rfl rfl rfl ?_ q
  · intro j hj
    have : j = 0 := by simpa using hj
    subst this
    show 0 < (some c :: mem).length
    simp
  · intro i c' e
    match i, e with
    | 0, e => cases e; exact ⟨0, _, rfl, up_plain hp _, rfl⟩
    | i + 1, e => simp at e
theorem rp__law_draw : ∀ ws m QC, C__law_draw ws m QC → rd__law_draw ⟨FinS m.length QC (.t .non), FinS m.length QC, fun _ => False, fun _ => False⟩ ⟨ws.map some ++ List.replicate (4 - ws.length) none, m.map some⟩ := by
  rintro ws m QC ⟨base, a, f, k, rfl, rfl, hL, hk, hb0, hb1, hQ⟩
  unfold rd__law_draw leftC
  walk_at "dl"
  refine o_put rfl (ixN_nat (n := 3) (k := 2) (by decide)) ?_
  walk_at "dl"
  refine k_d (fun hf => ?_) (fun hf => ?_)
  · walk_at "dl"
    refine ⟨a, _, rfl, hL.1, by omega, by omega, fun r r0 r1 => ?_⟩
    walk_at "dl"
    refine i_fI (mulL (by omega) (by omega)) ?_
    walk_at "dl"
    refine i_fI (by decide) ?_
    walk_at "dl"
    refine i_fI (by omega) ?_
    have hr := fmod_rng (a := (r * (r + 2)).fmod 2147483579) hb0
    walk_at "dl"
    have q := hQ _ a hr.1 hr.2 hL
    rw [show ((k + 1 : Nat) : Int) = (k : Int) + 1 by omega] at q
    exact fin_one rfl q
  · walk_at "dl"
    refine i_fI (by omega) ?_
    have hr := fmod_rng (a := a) hb0
    walk_at "dl"
    refine i_fI ⟨by omega, by omega⟩ ?_
    walk_at "dl"
    refine o_put rfl (ixN_nat (n := 3) (k := 0) (by decide)) ?_
    walk_at "dl"
    have ha : f = 1 ∧ 0 ≤ a := by
      rcases hL.2 with h | h
      · exact absurd h hf
      · exact h
    have q := hQ _ (a.fdiv base) hr.1 hr.2 ⟨intBits_fdiv_le hL.1, .inr ⟨ha.1, Int.fdiv_nonneg ha.2 (by omega)⟩⟩
    rw [show ((k + 1 : Nat) : Int) = (k : Int) + 1 by omega] at q
    exact fin_one rfl q
/-! generator 2: a part grown by new places and rows -/
structure G2 (n : Nat) (E : List (Nat × Nat)) : Prop where
  lo : 2 ≤ n
  ne : 1 ≤ E.length
  inr : ∀ ab ∈ E, ab.1 < n ∧ ab.2 < n ∧ ab.1 ≠ 1
  fw : ∀ q, q < n → Pth E 0 q
  bw : ∀ q, q < n → Pth E q 1
def bump (k x : Nat) : Nat := if k ≤ x then x + 1 else x
theorem pth_sub {E F : List (Nat × Nat)} (h : ∀ ab ∈ E, Pth F ab.1 ab.2) {a b : Nat} (p : Pth E a b) : Pth F a b := by
  induction p with
  | refl => exact .refl _
  | step _ e ih => exact ih.trans (h _ e)
theorem pth_one {E : List (Nat × Nat)} {a b : Nat} (h : (a, b) ∈ E) : Pth E a b := .step (.refl _) h
theorem g2_start : G2 2 [(0, 1)] := by
  refine ⟨by decide, by decide, fun ab h => by simp at h; subst h; decide, fun q hq => ?_, fun q hq => ?_⟩
  · match q, hq with
    | 0, _ => exact .refl _
    | 1, _ => exact pth_one (by simp)
  · match q, hq with
    | 0, _ => exact pth_one (by simp)
    | 1, _ => exact .refl _
theorem G2.row {n : Nat} {E : List (Nat × Nat)} (h : G2 n E) {a b : Nat} (ha : a < n) (hb : b < n) (h1 : a ≠ 1) : G2 n (E ++ [(a, b)]) := by
  have hs : ∀ {x y}, Pth E x y → Pth (E ++ [(a, b)]) x y := fun p => pth_sub (fun ab hab => pth_one (List.mem_append_left _ hab)) p
  refine ⟨h.lo, by rw [List.length_append]; have := h.ne; omega, fun ab hab => ?_, fun q hq => hs (h.fw q hq), fun q hq => hs (h.bw q hq)⟩
  rcases List.mem_append.mp hab with hab | hab
  · exact h.inr ab hab
  · simp at hab
    subst hab
    exact ⟨ha, hb, h1⟩
theorem pth_map {E : List (Nat × Nat)} (f : Nat → Nat) {a b : Nat} (p : Pth E a b) : Pth (E.map fun ab => (f ab.1, f ab.2)) (f a) (f b) := by
  induction p with
  | refl => exact .refl _
  | step _ e ih => exact .step ih (List.mem_map.mpr ⟨_, e, rfl⟩)
theorem bump_onto {k n x : Nat} (hk : k ≤ n) (hx : x < n + 1) (hne : x ≠ k) : ∃ y, y < n ∧ bump k y = x := by
  by_cases h : x < k
  · exact ⟨x, by omega, by unfold bump; rw [if_neg (by omega)]⟩
  · exact ⟨x - 1, by omega, by unfold bump; rw [if_pos (by omega)]; omega⟩
theorem G2.split {n : Nat} {E : List (Nat × Nat)} (h : G2 n E) {k j : Nat} {ab : Nat × Nat} (hk2 : 2 ≤ k) (hkn : k ≤ n) (hj : E[j]? = some ab) :
    G2 (n + 1) (((E.map fun ab => (bump k ab.1, bump k ab.2)) ++ [(k, bump k ab.2)]).set j (bump k ab.1, k)) := by
  have hlt : ∀ x, x < n → bump k x < n + 1 := fun x hx => by unfold bump; split <;> omega
  have h0 : bump k 0 = 0 := by unfold bump; rw [if_neg (by omega)]
  have h1 : bump k 1 = 1 := by unfold bump; rw [if_neg (by omega)]
  have hjl : j < E.length := (List.getElem?_eq_some_iff.mp hj).1
  have hab := h.inr ab (List.mem_of_getElem? hj)
  have hne1 : ∀ x, x ≠ 1 → bump k x ≠ 1 := fun x hx => by unfold bump; split <;> omega
  generalize hM : (E.map fun ab => (bump k ab.1, bump k ab.2)) = M
  have hMl : M.length = E.length := by rw [← hM, List.length_map]
  have hMj : M[j]? = some (bump k ab.1, bump k ab.2) := by rw [← hM, List.getElem?_map, hj]; rfl
  generalize hF : (M ++ [(k, bump k ab.2)]).set j (bump k ab.1, k) = F
  have f1 : (bump k ab.1, k) ∈ F := by
    rw [← hF]
    exact List.mem_of_getElem? (List.getElem?_set_self (by rw [List.length_append]; omega))
  have f2 : (k, bump k ab.2) ∈ F := by
    rw [← hF]
    refine List.mem_of_getElem? (i := M.length) ?_
    rw [List.getElem?_set_ne (by omega), List.getElem?_append_right (Nat.le_refl _), Nat.sub_self]
    rfl
  have f3 : ∀ cd ∈ M, Pth F cd.1 cd.2 := fun cd hcd => by
    obtain ⟨i, hi⟩ := List.getElem?_of_mem hcd
    by_cases e : i = j
    · subst e
      rw [hMj] at hi
      cases hi
      exact .step (pth_one f1) f2
    · refine pth_one ?_
      rw [← hF]
      refine List.mem_of_getElem? (i := i) ?_
      have := (List.getElem?_eq_some_iff.mp hi).1
      rw [List.getElem?_set_ne (fun z => e z.symm), List.getElem?_append_left this]
      exact hi
  have hp : ∀ {x y}, Pth E x y → Pth F (bump k x) (bump k y) := fun p => pth_sub f3 (by rw [← hM]; exact pth_map (bump k) p)
  refine ⟨by have := h.lo; omega, ?_, fun cd hcd => ?_, fun q hq => ?_, fun q hq => ?_⟩
  · rw [← hF, List.length_set, List.length_append]
    show 1 ≤ M.length + 1
    omega
  · rw [← hF] at hcd
    rcases List.mem_or_eq_of_mem_set hcd with hcd | hcd
    · rcases List.mem_append.mp hcd with hcd | hcd
      · rw [← hM] at hcd
        obtain ⟨z, hz, rfl⟩ := List.mem_map.mp hcd
        obtain ⟨z1, z2, z3⟩ := h.inr z hz
        exact ⟨hlt _ z1, hlt _ z2, hne1 _ z3⟩
      · simp at hcd
        subst hcd
        exact ⟨by show k < n + 1; omega, hlt _ hab.2.1, by show k ≠ 1; omega⟩
    · subst hcd
      exact ⟨hlt _ hab.1, by show k < n + 1; omega, hne1 _ hab.2.2⟩
  · by_cases e : q = k
    · subst e
      have := hp (h.fw ab.1 hab.1)
      rw [h0] at this
      exact .step this f1
    · obtain ⟨y, hy, rfl⟩ := bump_onto hkn hq e
      have := hp (h.fw y hy)
      rw [h0] at this
      exact this
  · by_cases e : q = k
    · subst e
      have := hp (h.bw ab.2 hab.2.1)
      rw [h1] at this
      exact (pth_one f2).trans this
    · obtain ⟨y, hy, rfl⟩ := bump_onto hkn hq e
      have := hp (h.bw y hy)
      rw [h1] at this
      exact this
theorem G2.spec {n : Nat} {E : List (Nat × Nat)} (h : G2 n E) (hn : n ≤ 16) : PartSpec false n E := ⟨h.lo, hn, h.inr, h.fw, h.bw, fun z => by cases z⟩
/-! generator 2: _law_part -/
theorem callS_drawJ {j : Nat} {base a f : Int} {k : Nat} {sl : List (Option W)} {mem : Sto} {Q : W → G → Prop} (em : mem[j]? = some (some (leftC a f k))) (hL : LeftOk a f) (hk : k ≤ 100000) (h0 : 0 < base) (h1 : base < 1000000)
    (h : ∀ r a' : Int, 0 ≤ r → r < base → LeftOk a' f → Q (.t (.int r)) ⟨sl, mem.set j (some (leftC a' f ((k + 1 : Nat) : Int)))⟩) : callS C__law_draw [.h j, .t (.int base)] ⟨sl, mem⟩ Q := by
  refine ⟨[j], [leftC a f k], [.h 0, .t (.int base)], by simp, rfl, rfl, fun i c e => ?_, base, a, f, k, rfl, rfl, hL, hk, h0, h1, fun r a' r0 r1 hL' => ⟨.t (.int r), [leftC a' f ((k + 1 : Nat) : Int)], [], rfl, rfl, rfl, ?_⟩⟩
  · match i, e with
    | 0, e => cases e; exact ⟨j, _, rfl, rfl, em⟩
    | i + 1, e => simp at e
  · rw [List.map_nil, List.append_nil]
    exact h r a' r0 r1 hL'
theorem callS_draw0 {base a f : Int} {k : Nat} {sl : List (Option W)} {mem : Sto} {Q : W → G → Prop} (hL : LeftOk a f) (hk : k ≤ 100000) (h0 : 0 < base) (h1 : base < 1000000)
    (h : ∀ r a' : Int, 0 ≤ r → r < base → LeftOk a' f → Q (.t (.int r)) ⟨sl, some (leftC a' f ((k + 1 : Nat) : Int)) :: mem⟩) : callS C__law_draw [.h 0, .t (.int base)] ⟨sl, some (leftC a f k) :: mem⟩ Q :=
  callS_drawJ rfl hL hk h0 h1 h
def tupT (ab : Nat × Nat) : T := .tup [.int ab.1, .int ab.2]
theorem tup_at {E : List (Nat × Nat)} {j : Nat} {ab : Nat × Nat} (h : E[j]? = some ab) : atI (E.map tupT) (j : Int) = some (tupT ab) := atI_map tupT (atI_nat h)
theorem bumpI (k x : Nat) : ((bump k x : Nat) : Int) = (x : Int) + (if decide ((k : Int) ≤ x) = true then 1 else 0) := by
  unfold bump
  by_cases h : k ≤ x
  · rw [if_pos h, if_pos (decide_eq_true (by omega))]
    omega
  · rw [if_neg h, if_neg (fun z => h (by have := of_decide_eq_true z; omega))]
    omega
theorem getLt {α : Type} {xs : List α} {j : Nat} (h : j < xs.length) : ∃ x, xs[j]? = some x := ⟨_, List.getElem?_eq_getElem h⟩
theorem toI {i : Int} (h : 0 ≤ i) : ∃ n : Nat, i = (n : Int) := Int.eq_ofNat_of_zero_le h
/-- a loop by an invariant of the turn -/
theorem forR {D : De} {g1 : G} {gt : DGt} {tb : DSt} {ws : List W} {St : G → Prop} {ι : Type} (items : List ι) (enc : ι → W) (I : Nat → G → Prop) (hws : ws = items.map enc) (h0 : I 0 g1) (hSt : ∀ i g, I i g → St g)
    (hstep : ∀ i x, items[i]? = some x → ∀ g', I i g' → ∀ N : G → Prop, (∀ g'', I (i + 1) g'' → N g'') → gt (enc x) g' fun g2 => tb { D with nx := N, ct := N, bk := D.nx } g2)
    (hQ : ∀ g', I items.length g' → D.nx g') : forI ws St g1 gt tb D := by
  subst hws
  refine ⟨I, h0, hSt, fun i w g' hw h => ?_, fun g' h => hQ g' (by rw [List.length_map] at h; exact h)⟩
  rw [List.getElem?_map] at hw
  cases e : items[i]? with
  | none => rw [e] at hw; cases hw
  | some x =>
    rw [e] at hw
    cases hw
    exact hstep i x e g' h _ fun g'' h'' => h''
def C__law_part : SC := fun ws m QC => ∃ (most k : Nat) (a f : Int), ws = [.h 0, .t (.int most)] ∧ m = [leftC a f k] ∧ LeftOk a f ∧ k ≤ 50000 ∧ most ≤ 14 ∧
  ∀ (n : Nat) (E : List (Nat × Nat)) (a' : Int) (k' : Nat), G2 n E → n ≤ most + 2 → E.length ≤ most + 1 → LeftOk a' f → k' ≤ k + 100 → QC (.t (.tup [.int n, .lst (E.map tupT)])) [leftC a' f k'] []
theorem ln__law_part : ∀ ws m Q, C__law_part ws m Q → ws.length = ["a", "b"].length := by rintro ws m Q ⟨_, _, _, _, rfl, _⟩; rfl
def rd__law_part : DSt :=
  dSeq (dAsg (dC (.int 2)) (dgN 2))
  (dSeq (dAsg (dLstH (dCons (dTup (dCons (dC (.int 0)) (dCons (dC (.int 1)) (dNil)))) (dNil))) (dgN 3))
  (dSeq (dFor (diR1 (dCons (dCallS C__law_draw (dCons (dVar 0) (dCons (d2 fAdd (dVar 1) (dC (.int 1))) (dNil)))) (dNil))) (dgN 4) (dIfS (dB (d2 (fEq false) (dCallS C__law_draw (dCons (dVar 0) (dCons (dC (.int 2)) (dNil)))) (dC (.int 0)))) (dSeq (dAsg (dCallS C__law_draw (dCons (dVar 0) (dCons (dN fLen (dCons (dVar 3) (dNil))) (dNil)))) (dgN 5))
  (dSeq (dAsg (d2 fAdd (dC (.int 2)) (dCallS C__law_draw (dCons (dVar 0) (dCons (d2 (fI0 fun i j => .int (i - j)) (dVar 2) (dC (.int 1))) (dNil))))) (dgN 6))
  (dSeq (dAsg (dLc finH (diL (dVar 3)) (dgTup 2 (dgCons (dgN 8) (dgCons (dgN 9) (dgNil)))) (dYes) (dTup (dCons (d2 fAdd (dVar 8) (dN fInt (dCons (d2 (fI0 fun i j => .bl (decide (j ≤ i))) (dVar 8) (dVar 6)) (dNil)))) (dCons (d2 fAdd (dVar 9) (dN fInt (dCons (d2 (fI0 fun i j => .bl (decide (j ≤ i))) (dVar 9) (dVar 6)) (dNil)))) (dNil)))) [8, 9]) (dgN 3))
  (dSeq (dDrop (dM fAppend (dVar 3) (dCons (dTup (dCons (dVar 6) (dCons (d2 fIx (d2 fIx (dVar 3) (dVar 5)) (dC (.int 1))) (dNil)))) (dNil))))
  (dSeq (dAsg (dTup (dCons (d2 fIx (d2 fIx (dVar 3) (dVar 5)) (dC (.int 0))) (dCons (dVar 6) (dNil)))) (dgSub (dVar 3) (dVar 5)))
  (dAsg (d2 fAdd (dVar 2) (dC (.int 1))) (dgN 2))))))) (dSeq (dAsg (dCallS C__law_draw (dCons (dVar 0) (dCons (d2 (fI0 fun i j => .int (i - j)) (dVar 2) (dC (.int 1))) (dNil)))) (dgN 7))
  (dDrop (dM fAppend (dVar 3) (dCons (dTup (dCons (d2 fAdd (dVar 7) (dN fInt (dCons (d2 (fI0 fun i j => .bl (decide (j < i))) (dVar 7) (dC (.int 0))) (dNil)))) (dCons (dCallS C__law_draw (dCons (dVar 0) (dCons (dVar 2) (dNil)))) (dNil)))) (dNil)))))))
  (dRet (dTup (dCons (dVar 2) (dCons (dFrz 3) (dNil)))))))

theorem rp__law_part : ∀ ws m QC, C__law_part ws m QC → rd__law_part ⟨FinS m.length QC (.t .non), FinS m.length QC, fun _ => False, fun _ => False⟩ ⟨ws.map some ++ List.replicate (10 - ws.length) none, m.map some⟩ := by
  rintro ws m QC ⟨most, k, a, f, rfl, rfl, hL, hk, hm, hQ⟩
  unfold rd__law_part
  walk_at "dl"
  refine ⟨by decide, ?_⟩
  walk_at "dl"
  refine ⟨by decide, ?_⟩
  walk_at "dl"
  refine callS_draw0 hL (by omega) (by omega) (by omega) fun d a1 d0 d1 hL1 => ?_
  obtain ⟨d, rfl⟩ := toI d0
  walk_at "dl"
  refine ⟨by omega, ?_⟩
  refine forR (List.range d) (fun k => W.t (.int (k : Nat))) (fun i g' => ∃ (n : Nat) (E : List (Nat × Nat)) (a' : Int) (k' t : Nat) (loc : Sto) (o4 o5 o6 o7 o8 o9 : Option W),
      g' = ⟨[some (.h 0), some (.t (.int most)), some (.t (.int n)), some (.h (t + 1)), o4, o5, o6, o7, o8, o9], some (leftC a' f k') :: loc⟩ ∧ loc[t]? = some (some (.lt (E.map tupT))) ∧ G2 n E ∧ n ≤ i + 2 ∧ E.length ≤ i + 1 ∧ LeftOk a' f ∧ k' ≤ k + 1 + 4 * i)
    (by rw [Int.toNat_natCast, rgW0]) ⟨2, [(0, 1)], a1, k + 1, 0, _, none, none, none, none, none, none, rfl, rfl, g2_start, by omega, by simp, hL1, by omega⟩ (fun _ _ _ => trivial) ?_ ?_
  · rintro i x hx g' ⟨n, E, a', k', t, loc, o4, o5, o6, o7, o8, o9, rfl, el, hG, hn, hE, hL', hk'⟩ N hN
    have hi : i < d := by simpa using (List.getElem?_eq_some_iff.mp hx).1
    rw [List.getElem?_range hi] at hx
    cases hx
    have hlo := hG.lo
    have hne := hG.ne
    have htl := (List.getElem?_eq_some_iff.mp el).1
    walk_at "dl"
    refine callS_draw0 hL' (by omega) (by omega) (by omega) fun r a2 r0 r1 hL2 => ?_
    walk_at "dl"
    refine k_d (fun hr => ?_) (fun hr => ?_)
    · walk_at "dl"
      rw [List.length_map]
      refine callS_draw0 hL2 (by omega) (by omega) (by omega) fun j a3 j0 j1 hL3 => ?_
      obtain ⟨j, rfl⟩ := toI j0
      walk_at "dl"
      refine callS_draw0 hL3 (by omega) (by omega) (by omega) fun v a4 v0 v1 hL4 => ?_
      obtain ⟨v, rfl⟩ := toI v0
      obtain ⟨⟨ea, eb⟩, hj⟩ := getLt (xs := E) (j := j) (by omega)
      have ek : (2 : Int) + v = ((2 + v : Nat) : Int) := by omega
      refine i_addI ?_
      rw [ek]
      generalize hkk : 2 + v = kk
      have hk2 : 2 ≤ kk := by omega
      have hkn : kk ≤ n := by omega
      walk_at "dl"
      refine o_LqH (us := E.map tupT) el ?_
      refine lcP E (fun ab => W.t (tupT ab)) (fun _ => true) (fun ab => tupT (bump kk ab.1, bump kk ab.2)) (by rw [List.map_map]; rfl) (lineLe (by omega)) (lq_h el) ?_ rfl ?_
      · rintro ⟨c, d'⟩ hcd Y N2 hY hN2
        unfold tupT at *
        walk_at "dl"
        refine ⟨by decide, ?_⟩
        have q := hY rfl
        simp only [bumpI] at q
        exact q _ rfl
      have hsp := hG.split hk2 hkn hj
      rw [List.filter_eq_self.mpr (fun _ _ => rfl), show (E.map fun ab => tupT (bump kk ab.1, bump kk ab.2)) = (E.map fun ab => (bump kk ab.1, bump kk ab.2)).map tupT by rw [List.map_map]; rfl]
      have hMl : (E.map fun ab => (bump kk ab.1, bump kk ab.2)).length = E.length := List.length_map _
      have hMj : (E.map fun ab => (bump kk ab.1, bump kk ab.2))[j]? = some (bump kk ea, bump kk eb) := by rw [List.getElem?_map, hj]; rfl
      generalize (E.map fun ab => (bump kk ab.1, bump kk ab.2)) = M at hsp hMl hMj
      walk_at "dl"
      have em : ∀ {c us}, (some c :: (loc ++ [some (Cell.lt us)]))[loc.length + 1]? = some (some (Cell.lt us)) := fun {c us} => by
        show (loc ++ [some (Cell.lt us)])[loc.length]? = _
        rw [List.getElem?_append_right (Nat.le_refl _), Nat.sub_self]
        rfl
      have eset : ∀ {c us v}, (some c :: (loc ++ [some (Cell.lt us)])).set (loc.length + 1) v = some c :: (loc ++ [v]) := fun {c us v} => by
        show some c :: (loc ++ [some (Cell.lt us)]).set loc.length v = _
        rw [List.set_append_right _ _ (Nat.le_refl _), Nat.sub_self]
        rfl
      have at1 := tup_at hMj
      have hjM : j < M.length := (List.getElem?_eq_some_iff.mp hMj).1
      refine ⟨isL_lt (us := M.map tupT) em, ?_⟩
      walk_at "dl"
      refine i_ixHT (us := M.map tupT) em at1 ?_
      unfold tupT at at1
      unfold tupT
      walk_at "dl"
      refine ⟨by decide, ?_⟩
      walk_at "dl"
      refine i_append em (lineLt (by rw [List.length_map]; omega)) ?_
      simp only [G.put]
      rw [eset]
      have eM : (M.map fun ab => T.tup [T.int ab.1, T.int ab.2]) ++ [T.tup [T.int kk, T.int (bump kk eb : Nat)]] = (M ++ [(kk, bump kk eb)]).map tupT := by rw [List.map_append]; rfl
      rw [eM]
      have at2 : atI ((M ++ [(kk, bump kk eb)]).map tupT) (j : Int) = some (.tup [.int (bump kk ea : Nat), .int (bump kk eb : Nat)]) := tup_at (ab := (bump kk ea, bump kk eb)) (by rw [List.getElem?_append_left hjM]; exact hMj)
      walk_at "dl"
      refine i_ixHT em at2 ?_
      walk_at "dl"
      refine ⟨by decide, ?_⟩
      walk_at "dl"
      refine o_put em (ixN_nat (by rw [List.length_map, List.length_append]; omega)) ?_
      simp only [G.put]
      rw [eset]
      have eb2 : ((M ++ [(kk, bump kk eb)]).map tupT).set j (.tup [.int (bump kk ea : Nat), .int kk]) = ((M ++ [(kk, bump kk eb)]).set j (bump kk ea, kk)).map tupT := by rw [List.map_set]; rfl
      rw [eb2]
      walk_at "dl"
      refine hN _ ⟨n + 1, (M ++ [(kk, bump kk eb)]).set j (bump kk ea, kk), a4, k' + 1 + 1 + 1, loc.length, _, _, _, _, _, _, _, rfl, ?_, hsp, by omega, by rw [List.length_set, List.length_append, List.length_singleton]; omega, hL4, by omega⟩
      rw [List.getElem?_append_right (Nat.le_refl _), Nat.sub_self]
      rfl
    · walk_at "dl"
      refine callS_draw0 hL2 (by omega) (by omega) (by omega) fun s a3 s0 s1 hL3 => ?_
      obtain ⟨s, rfl⟩ := toI s0
      walk_at "dl"
      refine ⟨isL_lt (us := E.map tupT) el, ?_⟩
      walk_at "dl"
      refine callS_draw0 hL3 (by omega) (by omega) (by omega) fun e a4 e0 e1 hL4 => ?_
      obtain ⟨e, rfl⟩ := toI e0
      walk_at "dl"
      refine ⟨by decide, ?_⟩
      walk_at "dl"
      refine i_append (us := E.map tupT) el (lineLt (by rw [List.length_map]; omega)) ?_
      have es : ∃ s' : Nat, (s : Int) + (if decide ((0 : Int) < s) = true then 1 else 0) = s' ∧ s' < n ∧ s' ≠ 1 := by
        by_cases h : 0 < s
        · exact ⟨s + 1, by rw [if_pos (decide_eq_true (by omega))]; omega, by omega, by omega⟩
        · exact ⟨0, by rw [if_neg (fun z => h (by have := of_decide_eq_true z; omega))]; omega, by omega, by decide⟩
      obtain ⟨s', hs', hs1, hs2⟩ := es
      rw [hs']
      have ea : E.map tupT ++ [T.tup [T.int s', T.int e]] = (E ++ [(s', e)]).map tupT := by rw [List.map_append]; rfl
      rw [ea]
      simp only [G.put]
      refine hN _ ⟨n, E ++ [(s', e)], a4, k' + 1 + 1 + 1, t, loc.set t (some (.lt ((E ++ [(s', e)]).map tupT))), _, _, _, _, _, _, rfl, ?_, hG.row hs1 (by omega) hs2, by omega, by rw [List.length_append, List.length_singleton]; omega, hL4, by omega⟩
      rw [List.getElem?_set_self htl]
  · rintro g' ⟨n, E, a', k', t, loc, o4, o5, o6, o7, o8, o9, rfl, el, hG, hn, hE, hL', hk'⟩
    rw [List.length_range] at hn hE hk'
    walk_at "dl"
    refine i_frzH (c := .lt (E.map tupT)) rfl el rfl ?_
    walk_at "dl"
    refine ⟨by decide, ?_⟩
    have q := hQ n E a' k' hG (by omega) (by omega) hL' (by omega)
    simp only [G.frz]
    exact fin_one rfl q
/-! generator 2: plain math of the web -/
def updF {α : Type} (f : Nat → α) (i : Nat) (x : α) : Nat → α := fun p => if p = i then x else f p
theorem updF_eq {α : Type} (f : Nat → α) (i : Nat) (x : α) : updF f i x i = x := if_pos rfl
theorem updF_ne {α : Type} (f : Nat → α) (i : Nat) (x : α) {p : Nat} (h : p ≠ i) : updF f i x p = f p := if_neg h
theorem range_upd {i n : Nat} {N : Nat → Nat} : (List.range (i + 1)).map (updF N i n) = (List.range i).map N ++ [n] := by
  rw [List.range_succ, List.map_append]
  congr 1
  · refine List.map_congr_left fun p hp => updF_ne _ _ _ ?_
    rw [List.mem_range] at hp
    omega
  · show [updF N i n i] = [n]
    rw [updF_eq]
theorem Reach.trans {E : List (Int × Int)} {a b c : Int} (h : Reach E a b) (k : Reach E b c) : Reach E a c := by
  induction k with
  | refl => exact h
  | step _ e ih => exact .step ih e
theorem pth_fw {E : List (Nat × Nat)} {F : List (Int × Int)} (h : ∀ ab ∈ E, ((ab.1 : Int), (ab.2 : Int)) ∈ F) {a b : Nat} (p : Pth E a b) : Reach F a b := by
  induction p with
  | refl => exact .refl
  | step _ e ih => exact .step ih (h _ e)
theorem pth_bw {E : List (Nat × Nat)} {F : List (Int × Int)} (h : ∀ ab ∈ E, ((ab.2 : Int), (ab.1 : Int)) ∈ F) {a b : Nat} (p : Pth E a b) : Reach F b a := by
  induction p with
  | refl => exact .refl
  | step _ e ih => exact Reach.trans (.step .refl (h _ e)) ih
def placesOf (i : Nat) (N : Nat → Nat) : List Int := (List.range i).map fun p => ((N p : Nat) : Int)
theorem placesOf_len (i : Nat) (N : Nat → Nat) : (placesOf i N).length = i := by unfold placesOf; rw [List.length_map, List.length_range]
theorem placesOf_next {i n : Nat} {N : Nat → Nat} : placesOf (i + 1) (updF N i n) = placesOf i N ++ [((n : Nat) : Int)] := by
  unfold placesOf
  rw [show (fun p => ((updF N i n p : Nat) : Int)) = (fun x : Nat => (x : Int)) ∘ updF N i n from rfl, ← List.map_map, range_upd, List.map_append, List.map_map]
  rfl
theorem edge_mem {w : Web} {p : Int} {tn : Bool} {r : Row} (hr : r ∈ w.rows) (hp : r.p = p) : (if tn = true then (r.e, r.s) else (r.s, r.e)) ∈ w.edges p tn := by
  obtain ⟨k, hk⟩ := List.getElem?_of_mem hr
  have hkl : k < w.rows.length := (List.getElem?_eq_some_iff.mp hk).1
  have hw : w.row k = r := by
    unfold Web.row
    rw [List.getD_eq_getElem?_getD, hk]
    rfl
  unfold Web.edges
  rw [List.mem_map]
  refine ⟨k, ?_, by unfold Web.edge; rw [hw]⟩
  unfold Web.rowsOf
  rw [List.mem_filter, List.mem_range]
  exact ⟨hkl, decide_eq_true (by rw [hw]; exact hp)⟩
/-- a row's triple -/
def Row.is (r : Row) (p : Nat) (ab : Nat × Nat) : Prop := r.p = p ∧ r.s = ab.1 ∧ r.e = ab.2
/-- while parts are put together: i parts, of which all rows but L of part i - 1 .. are in -/
structure PV (parts i : Nat) (N : Nat → Nat) (E : Nat → List (Nat × Nat)) (rs : List Row) : Prop where
  sp : ∀ p, p < i → PartSpec false (N p) (E p) ∧ 1 ≤ (E p).length
  row : ∀ r ∈ rs, ∃ p, p < i ∧ ∃ ab ∈ E p, r.is p ab ∧ (r.c = -1 ∨ (r.p < r.c ∧ r.c < parts))
  called : ∀ q : Nat, 1 ≤ q → q < i → ∃ r ∈ rs, r.c = q
/-- .. all rows in -/
def PVin (i : Nat) (E : Nat → List (Nat × Nat)) (rs : List Row) : Prop := ∀ p, p < i → ∀ ab ∈ E p, ∃ r ∈ rs, r.is p ab
theorem mem_set_other {α : Type} {xs : List α} {j : Nat} {x y z : α} (h : xs[j]? = some x) (hz : z ∈ xs) (hne : z ≠ x) : z ∈ xs.set j y := by
  obtain ⟨k, hk⟩ := List.getElem?_of_mem hz
  refine List.mem_of_getElem? (i := k) ?_
  rw [List.getElem?_set_ne (fun e => hne ?_)]
  · exact hk
  · subst e
    rw [h] at hk
    cases hk
    rfl
theorem mem_set_self {α : Type} {xs : List α} {j : Nat} {x y : α} (h : xs[j]? = some x) : y ∈ xs.set j y := List.mem_of_getElem? (List.getElem?_set_self (List.getElem?_eq_some_iff.mp h).1)
/-- a free row calls -/
theorem PV.call {parts i : Nat} {N : Nat → Nat} {E : Nat → List (Nat × Nat)} {rs : List Row} (h : PV parts i N E rs) {j : Nat} {r : Row} {c : Int} (hj : rs[j]? = some r) (hr : r.c = -1) (hc : r.p < c ∧ c < parts) : PV parts i N E (rs.set j { r with c := c }) := by
  refine ⟨h.sp, fun z hz => ?_, fun q q1 q2 => ?_⟩
  · rcases List.mem_or_eq_of_mem_set hz with hz | rfl
    · exact h.row z hz
    · obtain ⟨p, hp, ab, hab, h1, _⟩ := h.row r (List.mem_of_getElem? hj)
      exact ⟨p, hp, ab, hab, h1, .inr hc⟩
  · obtain ⟨z, hz, e⟩ := h.called q q1 q2
    refine ⟨z, mem_set_other hj hz (fun z2 => ?_), e⟩
    rw [z2, hr] at e
    omega
theorem PVin.call {i : Nat} {E : Nat → List (Nat × Nat)} {rs : List Row} (h : PVin i E rs) {j : Nat} {r : Row} {c : Int} (hj : rs[j]? = some r) : PVin i E (rs.set j { r with c := c }) := by
  intro p hp ab hab
  obtain ⟨z, hz, e⟩ := h p hp ab hab
  by_cases h2 : z = r
  · subst h2
    exact ⟨_, mem_set_self hj, e⟩
  · exact ⟨z, mem_set_other hj hz h2, e⟩
/-- one part more, its rows still to come -/
theorem PV.part {parts i : Nat} {N : Nat → Nat} {E : Nat → List (Nat × Nat)} {rs : List Row} (h : PV parts i N E rs) {n : Nat} {e : List (Nat × Nat)} (hs : PartSpec false n e) (he : 1 ≤ e.length) (hc : 1 ≤ i → ∃ r ∈ rs, r.c = (i : Nat)) : PV parts (i + 1) (updF N i n) (updF E i e) rs := by
  refine ⟨fun p hp => ?_, fun r hr => ?_, fun q q1 q2 => ?_⟩
  · by_cases q : p = i
    · subst q; rw [updF_eq, updF_eq]; exact ⟨hs, he⟩
    · rw [updF_ne _ _ _ q, updF_ne _ _ _ q]; exact h.sp p (by omega)
  · obtain ⟨p, hp, ab, hab, h1, h2⟩ := h.row r hr
    exact ⟨p, by omega, ab, by rw [updF_ne _ _ _ (by omega)]; exact hab, h1, h2⟩
  · by_cases e : q = i
    · subst e
      exact hc q1
    · exact h.called q q1 (by omega)
def insAt {α : Type} (xs : List α) (j : Nat) (x : α) : List α := xs.take j ++ [x] ++ xs.drop j
theorem mem_insAt {α : Type} {xs : List α} {j : Nat} {x y : α} : y ∈ insAt xs j x ↔ y ∈ xs ∨ y = x := by
  unfold insAt
  have e : y ∈ xs ↔ y ∈ xs.take j ∨ y ∈ xs.drop j := by
    rw [← List.mem_append, List.take_append_drop]
  rw [List.append_assoc, List.mem_append, List.mem_append, List.mem_singleton, e]
  constructor
  · rintro (h | h | h)
    · exact .inl (.inl h)
    · exact .inr h
    · exact .inl (.inr h)
  · rintro ((h | h) | h)
    · exact .inl h
    · exact .inr (.inr h)
    · exact .inr (.inl h)
theorem insAt_len {α : Type} {xs : List α} {j : Nat} {x : α} : (insAt xs j x).length = xs.length + 1 := by
  unfold insAt
  have := congrArg List.length (List.take_append_drop j xs)
  rw [List.length_append] at this
  rw [List.length_append, List.length_append, List.length_singleton]
  omega
theorem PV.ins {parts i : Nat} {N : Nat → Nat} {E : Nat → List (Nat × Nat)} {rs : List Row} (h : PV parts i N E rs) {j p : Nat} {ab : Nat × Nat} {r : Row} (hp : p < i) (hab : ab ∈ E p) (hr : r.is p ab) (hc : r.c = -1) : PV parts i N E (insAt rs j r) := by
  refine ⟨h.sp, fun z hz => ?_, fun q q1 q2 => ?_⟩
  · rcases mem_insAt.mp hz with hz | rfl
    · exact h.row z hz
    · exact ⟨p, hp, ab, hab, hr, .inl hc⟩
  · obtain ⟨z, hz, e⟩ := h.called q q1 q2
    exact ⟨z, mem_insAt.mpr (.inl hz), e⟩
theorem web_ok2 {parts : Nat} {N : Nat → Nat} {E : Nat → List (Nat × Nat)} {rs : List Row} (h : PV parts parts N E rs) (hin : PVin parts E rs) (hp1 : 1 ≤ parts) (hp4 : parts ≤ 4) (hl : rs.length ≤ 60) : (⟨placesOf parts N, rs⟩ : Web).Ok := by
  have hpl : (placesOf parts N).length = parts := placesOf_len _ _
  have hplace : ∀ {rows : List Row} (p : Nat), p < parts → (⟨placesOf parts N, rows⟩ : Web).place (p : Int) = N p := by
    intro rows p hp
    unfold Web.place placesOf
    rw [Int.toNat_natCast, List.getD_eq_getElem?_getD, List.getElem?_map, List.getElem?_range hp]
    rfl
  refine ⟨⟨by show 1 ≤ (placesOf parts N).length; omega, by show (placesOf parts N).length ≤ 4; omega, ?_, hl⟩, ?_, ?_, ?_⟩
  · obtain ⟨_, h1⟩ := h.sp 0 (by omega)
    obtain ⟨ab, hab⟩ := getLt (xs := E 0) (j := 0) (by omega)
    obtain ⟨r, hr, _⟩ := hin 0 (by omega) ab (List.mem_of_getElem? hab)
    exact List.length_pos_of_mem hr
  · intro x hx
    obtain ⟨p, hp, rfl⟩ := List.mem_map.mp (show x ∈ placesOf parts N from hx)
    rw [List.mem_range] at hp
    have hs := (h.sp p hp).1
    have := hs.lo
    have := hs.hi
    omega
  · intro r hr
    obtain ⟨p, hp, ab, hab, ⟨e1, e2, e3⟩, e4⟩ := h.row r hr
    have hs := (h.sp p hp).1
    have hin := hs.inr ab hab
    unfold Web.rowOk
    rw [e1, hplace p hp]
    rw [e1] at e4
    have hpl2 : ((⟨placesOf parts N, rs⟩ : Web).places.length) = parts := hpl
    rw [hpl2]
    refine ⟨by omega, by omega, by omega, by omega, by omega, by omega, by omega, by omega, by omega⟩
  · intro p hp
    have hp : p < parts := by rw [← hpl]; exact hp
    have hs := (h.sp p hp).1
    refine ⟨fun q h0 h1 => ?_, fun h0 => ?_⟩
    · rw [hplace p hp] at h1
      obtain ⟨q, rfl⟩ := toI h0
      refine ⟨pth_fw (E := E p) (fun ab hab => ?_) (hs.fw q (by omega)), pth_bw (E := E p) (fun ab hab => ?_) (hs.bw q (by omega))⟩
      · obtain ⟨r, hr, e1, e2, e3⟩ := hin p hp ab hab
        have := edge_mem (w := ⟨placesOf parts N, rs⟩) (tn := false) hr e1
        rw [e2, e3] at this
        exact this
      · obtain ⟨r, hr, e1, e2, e3⟩ := hin p hp ab hab
        have := edge_mem (w := ⟨placesOf parts N, rs⟩) (tn := true) hr e1
        rw [e2, e3] at this
        exact this
    · obtain ⟨r, hr, e⟩ := h.called p (by omega) hp
      exact ⟨r, hr, e⟩
/-! rows at handles -/
def rowC (r : Row) : Cell := .lt [.int r.p, .int r.s, .int r.e, .int r.c]
def hW (hs : List Nat) : List W := hs.map fun k => W.h (k + 3)
structure Rw (loc : Sto) (hs : List Nat) (rs : List Row) : Prop where
  len : hs.length = rs.length
  nd : hs.Nodup
  get : ∀ (i k : Nat) (r : Row), hs[i]? = some k → rs[i]? = some r → loc[k]? = some (some (rowC r))
theorem hW_len (hs : List Nat) : (hW hs).length = hs.length := by unfold hW; rw [List.length_map]
theorem Rw.lt {loc : Sto} {hs : List Nat} {rs : List Row} (h : Rw loc hs rs) : ∀ k ∈ hs, k < loc.length := by
  intro k hk
  obtain ⟨i, hi⟩ := List.getElem?_of_mem hk
  have hil : i < rs.length := by rw [← h.len]; exact (List.getElem?_eq_some_iff.mp hi).1
  obtain ⟨r, er⟩ := getLt hil
  exact (List.getElem?_eq_some_iff.mp (h.get i k r hi er)).1
theorem Rw.push {loc : Sto} {hs : List Nat} {rs : List Row} (h : Rw loc hs rs) (l2 : Sto) : Rw (loc ++ l2) hs rs :=
  ⟨h.len, h.nd, fun i k r h1 h2 => by rw [List.getElem?_append_left (h.lt k (List.mem_of_getElem? h1))]; exact h.get i k r h1 h2⟩
theorem nd_inj {xs : List Nat} (nd : xs.Nodup) {i j k : Nat} (h1 : xs[i]? = some k) (h2 : xs[j]? = some k) : i = j := by
  have key : ∀ a b, a < b → xs[a]? = some k → xs[b]? = some k → False := fun a b hab ha hb => by
    obtain ⟨la, ea⟩ := List.getElem?_eq_some_iff.mp ha
    obtain ⟨lb, eb⟩ := List.getElem?_eq_some_iff.mp hb
    exact List.pairwise_iff_getElem.mp (List.nodup_iff_pairwise_ne.mp nd) a b la lb hab (ea.trans eb.symm)
  rcases Nat.lt_trichotomy i j with h | h | h
  · exact (key i j h h1 h2).elim
  · exact h
  · exact (key j i h h2 h1).elim
theorem Rw.put {loc : Sto} {hs : List Nat} {rs : List Row} (h : Rw loc hs rs) {j k : Nat} {r : Row} (hj : hs[j]? = some k) : Rw (loc.set k (some (rowC r))) hs (rs.set j r) := by
  have hk := h.lt k (List.mem_of_getElem? hj)
  refine ⟨by rw [List.length_set]; exact h.len, h.nd, fun i k' r' h1 h2 => ?_⟩
  by_cases e : i = j
  · subst e
    rw [hj] at h1
    cases h1
    have hl : i < rs.length := by rw [← h.len]; exact (List.getElem?_eq_some_iff.mp hj).1
    rw [List.getElem?_set_self hl] at h2
    cases h2
    rw [List.getElem?_set_self hk]
  · rw [List.getElem?_set_ne (fun z => e z.symm)] at h2
    have hne : k ≠ k' := fun z => by
      subst z
      exact e (nd_inj h.nd h1 hj)
    rw [List.getElem?_set_ne hne]
    exact h.get i k' r' h1 h2
theorem getIns {α : Type} {xs : List α} {j : Nat} {x : α} (hj : j ≤ xs.length) {i : Nat} {y : α} : (insAt xs j x)[i]? = some y ↔ (i < j ∧ xs[i]? = some y) ∨ (i = j ∧ y = x) ∨ (j < i ∧ xs[i - 1]? = some y) := by
  unfold insAt
  have ht : (xs.take j).length = j := by rw [List.length_take]; omega
  rw [List.append_assoc]
  by_cases h1 : i < j
  · rw [List.getElem?_append_left (by omega), List.getElem?_take, if_pos h1]
    constructor
    · exact fun h => .inl ⟨h1, h⟩
    · rintro (h | h | h)
      · exact h.2
      · omega
      · omega
  · rw [List.getElem?_append_right (by omega), ht]
    by_cases h2 : i = j
    · subst h2
      rw [Nat.sub_self]
      show some x = some y ↔ _
      constructor
      · intro h
        cases h
        exact .inr (.inl ⟨rfl, rfl⟩)
      · rintro (h | h | h)
        · omega
        · rw [h.2]
        · omega
    · rw [List.getElem?_append_right (by rw [List.length_singleton]; omega), List.length_singleton, List.getElem?_drop, show j + (i - j - 1) = i - 1 by omega]
      constructor
      · exact fun h => .inr (.inr ⟨by omega, h⟩)
      · rintro (h | h | h)
        · omega
        · omega
        · exact h.2
theorem Rw.ins {loc : Sto} {hs : List Nat} {rs : List Row} (h : Rw loc hs rs) {j : Nat} {r : Row} (hj : j ≤ rs.length) (l2 : Sto) : Rw (loc ++ [some (rowC r)] ++ l2) (insAt hs j loc.length) (insAt rs j r) := by
  have hjh : j ≤ hs.length := by rw [h.len]; exact hj
  have hnew : loc.length ∉ hs := fun z => by have := h.lt _ z; omega
  refine ⟨by rw [insAt_len, insAt_len, h.len], ?_, fun i k r' h1 h2 => ?_⟩
  · have hp : (insAt hs j loc.length).Perm (loc.length :: hs) := by
      unfold insAt
      rw [List.append_assoc]
      refine (List.perm_append_comm_assoc _ _ _).trans ?_
      rw [List.take_append_drop]
      exact List.Perm.refl _
    rw [hp.nodup_iff, List.nodup_cons]
    exact ⟨hnew, h.nd⟩
  · rcases (getIns hjh).mp h1 with ⟨a, b⟩ | ⟨a, b⟩ | ⟨a, b⟩
    · rcases (getIns hj).mp h2 with ⟨c, d⟩ | ⟨c, d⟩ | ⟨c, d⟩
      · rw [List.append_assoc, List.getElem?_append_left (h.lt k (List.mem_of_getElem? b))]
        exact h.get i k r' b d
      · omega
      · omega
    · rcases (getIns hj).mp h2 with ⟨c, d⟩ | ⟨c, d⟩ | ⟨c, d⟩
      · omega
      · subst b d
        rw [List.append_assoc, List.getElem?_append_right (Nat.le_refl _), Nat.sub_self]
        rfl
      · omega
    · rcases (getIns hj).mp h2 with ⟨c, d⟩ | ⟨c, d⟩ | ⟨c, d⟩
      · omega
      · omega
      · rw [List.append_assoc, List.getElem?_append_left (h.lt k (List.mem_of_getElem? b))]
        exact h.get _ k r' b d
/-! generator 2: the web that is built -/
theorem i_finW {acc : List W} {g : G} {Q : W → G → Prop} (h : Q (.h g.mem.length) (g.push (.lw acc))) : finW acc g Q := h
theorem callS_partJ {j most k : Nat} {a f : Int} {sl : List (Option W)} {mem : Sto} {Q : W → G → Prop} (em : mem[j]? = some (some (leftC a f k))) (hL : LeftOk a f) (hk : k ≤ 50000) (hm : most ≤ 14)
    (h : ∀ (n : Nat) (E : List (Nat × Nat)) (a' : Int) (k' : Nat), G2 n E → n ≤ most + 2 → E.length ≤ most + 1 → LeftOk a' f → k' ≤ k + 100 → Q (.t (.tup [.int n, .lst (E.map tupT)])) ⟨sl, mem.set j (some (leftC a' f k'))⟩) : callS C__law_part [.h j, .t (.int most)] ⟨sl, mem⟩ Q := by
  refine ⟨[j], [leftC a f k], [.h 0, .t (.int most)], by simp, rfl, rfl, fun i c e => ?_, most, k, a, f, rfl, rfl, hL, hk, hm, fun n E a' k' h1 h2 h3 h4 h5 => ⟨.t (.tup [.int n, .lst (E.map tupT)]), [leftC a' f k'], [], rfl, rfl, rfl, ?_⟩⟩
  · match i, e with
    | 0, e => cases e; exact ⟨j, _, rfl, rfl, em⟩
    | i + 1, e => simp at e
  · rw [List.map_nil, List.append_nil]
    exact h n E a' k' h1 h2 h3 h4 h5
theorem hW_ins (hs : List Nat) (j x : Nat) : hW (insAt hs j x) = (hW hs).take j ++ [W.h (x + 3)] ++ (hW hs).drop j := by
  unfold hW insAt
  rw [List.map_append, List.map_append, List.map_take, List.map_drop]
  rfl
theorem hW_zip {hs : List Nat} {rs : List Row} (h : hs.length = rs.length) : hW hs = (hs.zip rs).map fun kr => W.h (kr.1 + 3) := by
  unfold hW
  rw [show (fun kr : Nat × Row => W.h (kr.1 + 3)) = (fun k => W.h (k + 3)) ∘ Prod.fst from rfl, ← List.map_map, List.map_fst_zip (by omega)]
theorem zip_at {hs : List Nat} {rs : List Row} {kr : Nat × Row} (h : kr ∈ hs.zip rs) : ∃ i : Nat, hs[i]? = some kr.1 ∧ rs[i]? = some kr.2 := by
  obtain ⟨i, hi⟩ := List.getElem?_of_mem h
  exact ⟨i, List.getElem?_zip_eq_some.mp hi⟩
theorem zip_len {hs : List Nat} {rs : List Row} (h : hs.length = rs.length) : (hs.zip rs).length = rs.length := by
  rw [List.length_zip, h, Nat.min_self]
/-! rows put in -/
def rdIns : DSt := dFor (diL (dVar 9)) (dgTup 2 (dgCons (dgN 11) (dgCons (dgN 12) (dgNil)))) (dDrop (dM fInsert (dVar 6) (dCons (dCallS C__law_draw (dCons (dVar 3) (dCons (d2 fAdd (dN fLen (dCons (dVar 6) (dNil))) (dC (.int 1))) (dNil)))) (dCons (dLstH (dCons (dVar 7) (dCons (dVar 11) (dCons (dVar 12) (dCons (d1 fNeg (dC (.int 1))) (dNil)))))) (dNil)))))
def slW (sq pm mo pa : Option W) (i : Nat) (o8 o9 o10 o11 o12 o13 o14 : Option W) : List (Option W) := [sq, pm, mo, some (.h 0), pa, some (.h 1), some (.h 2), some (.t (.int i)), o8, o9, o10, o11, o12, o13, o14]
theorem ins_rows {D : De} {sq pm mo pa o8 o10 o11 o12 o13 o14 : Option W} {i k parts : Nat} {e : List (Nat × Nat)} {N : Nat → Nat} {E : Nat → List (Nat × Nat)} {a f : Int} {pl : Option Cell} {loc : Sto} {hs : List Nat} {rs : List Row}
    (hRw : Rw loc hs rs) (hPV : PV parts (i + 1) N E rs) (hE : E i = e) (hin : PVin i E rs) (hlen : rs.length + e.length ≤ 60) (hL : LeftOk a f) (hk : k + 100 ≤ 100000) (he : 1 ≤ e.length)
    (hQ : ∀ (a' : Int) (k' : Nat) (loc' : Sto) (hs' : List Nat) (rs' : List Row) (o11 o12 : Option W), Rw loc' hs' rs' → PV parts (i + 1) N E rs' → PVin (i + 1) E rs' → (∃ r ∈ rs', r.c = -1) → rs'.length = rs.length + e.length → LeftOk a' f → k' ≤ k + e.length →
      D.nx ⟨slW sq pm mo pa i o8 (some (.t (.lst (e.map tupT)))) o10 o11 o12 o13 o14, some (leftC a' f k') :: pl :: some (.lw (hW hs')) :: loc'⟩) :
    rdIns D ⟨slW sq pm mo pa i o8 (some (.t (.lst (e.map tupT)))) o10 o11 o12 o13 o14, some (leftC a f k) :: pl :: some (.lw (hW hs)) :: loc⟩ := by
  unfold rdIns slW
  walk_at "dl"
  refine forR e (fun ab => W.t (tupT ab)) (fun j g' => ∃ (a' : Int) (k' : Nat) (loc' : Sto) (hs' : List Nat) (rs' : List Row) (o11 o12 : Option W), g' = ⟨slW sq pm mo pa i o8 (some (.t (.lst (e.map tupT)))) o10 o11 o12 o13 o14, some (leftC a' f k') :: pl :: some (.lw (hW hs')) :: loc'⟩ ∧
      Rw loc' hs' rs' ∧ PV parts (i + 1) N E rs' ∧ PVin i E rs' ∧ (∀ j' ab, j' < j → e[j']? = some ab → ∃ r ∈ rs', r.is i ab) ∧ (1 ≤ j → ∃ r ∈ rs', r.c = -1) ∧ rs'.length = rs.length + j ∧ LeftOk a' f ∧ k' ≤ k + j)
    (by rw [List.map_map]; rfl) ⟨a, k, loc, hs, rs, o11, o12, rfl, hRw, hPV, hin, fun _ _ h => by omega, fun h => by omega, by omega, hL, by omega⟩ (fun _ _ _ => rfl) ?_ ?_
  · rintro j ⟨x, y⟩ hj g' ⟨a', k', loc', hs', rs', o11, o12, rfl, hRw', hPV', hin', hpre, hfree, hl', hL', hk'⟩ M hM
    have hjl := (List.getElem?_eq_some_iff.mp hj).1
    have hhl := hRw'.len
    unfold tupT slW
    walk_at "dl"
    refine ⟨isL_lw rfl, ?_⟩
    walk_at "dl"
    rw [hW_len]
    refine callS_draw0 hL' (by omega) (by omega) (by omega) fun d a2 d0 d1 hL2 => ?_
    obtain ⟨d, rfl⟩ := toI d0
    walk_at "dl"
    refine ⟨by decide, ?_⟩
    walk_at "dl"
    refine i_insertW (us := hW hs') rfl ⟨lineLt (by rw [hW_len]; omega), by omega, by omega⟩ ?_
    walk_at "dn"
    rw [Int.toNat_natCast]
    have em : (List.take d (hW hs') ++ [W.h (loc'.length + 1 + 1 + 1)] ++ List.drop d (hW hs')) = hW (insAt hs' d loc'.length) := (hW_ins hs' d loc'.length).symm
    rw [em]
    have hii : (⟨(i : Nat), (x : Nat), (y : Nat), -1⟩ : Row).is i (x, y) := ⟨rfl, rfl, rfl⟩
    have hR := hRw'.ins (j := d) (r := ⟨(i : Nat), (x : Nat), (y : Nat), -1⟩) (by omega) []
    rw [List.append_nil] at hR
    refine hM _ ⟨a2, k' + 1, _, _, _, _, _, rfl, hR, hPV'.ins (p := i) (ab := (x, y)) (by omega) (by rw [hE]; exact List.mem_of_getElem? hj) hii rfl, fun p hp ab hab => ?_, fun j' ab h1 h2 => ?_, fun _ => ⟨_, mem_insAt.mpr (.inr rfl), rfl⟩, by rw [insAt_len]; omega, hL2, by omega⟩
    · obtain ⟨z, hz, e⟩ := hin' p hp ab hab
      exact ⟨z, mem_insAt.mpr (.inl hz), e⟩
    · by_cases e2 : j' = j
      · subst e2
        rw [hj] at h2
        cases h2
        exact ⟨_, mem_insAt.mpr (.inr rfl), hii⟩
      · obtain ⟨z, hz, e⟩ := hpre j' ab (by omega) h2
        exact ⟨z, mem_insAt.mpr (.inl hz), e⟩
  · rintro g' ⟨a', k', loc', hs', rs', o11, o12, rfl, hRw', hPV', hin', hpre, hfree, hl', hL', hk'⟩
    refine hQ a' k' loc' hs' rs' o11 o12 hRw' hPV' (fun p hp ab hab => ?_) (hfree he) hl' hL' hk'
    by_cases e2 : p = i
    · subst e2
      rw [hE] at hab
      obtain ⟨j', h1⟩ := List.getElem?_of_mem hab
      exact hpre j' ab (List.getElem?_eq_some_iff.mp h1).1 h1
    · exact hin' p (by omega) ab hab
def C__law_web : SC := fun ws m QC => ∃ (ns : List Int) (pm most : Nat), ws = [.t (.sq (ns.map T.int)), .t (.int pm), .t (.int most)] ∧ m = [] ∧ (∀ z ∈ ns, Builtin.Int.intBits z ≤ 1048576) ∧ 1 ≤ pm ∧ pm ≤ 4 ∧ most ≤ 14 ∧ pm * (most + 1) ≤ 60 ∧
  ∀ w : Web, w.Ok → w.places.length ≤ pm → QC (.t w.t) [] []
theorem ln__law_web : ∀ ws m Q, C__law_web ws m Q → ws.length = ["a", "b", "c"].length := by rintro ws m Q ⟨_, _, _, rfl, _⟩; rfl
def rd__law_web : DSt :=
  dSeq (dAsg (dCallH C__law_left (dCons (dVar 0) (dCons (dC (.int 0)) (dNil)))) (dgN 3))
  (dSeq (dAsg (d2 fAdd (dC (.int 1)) (dCallS C__law_draw (dCons (dVar 3) (dCons (dVar 1) (dNil))))) (dgN 4))
  (dSeq (dAsg (dLstH (dNil)) (dgN 5))
  (dSeq (dAsg (dLstW (dNil)) (dgN 6))
  (dSeq (dFor (diR1 (dCons (dVar 4) (dNil))) (dgN 7) (dSeq (dAsg (dCallS C__law_part (dCons (dCallH C__law_left (dCons (dVar 0) (dCons (d2 fAdd (dC (.int 1)) (dVar 7)) (dNil)))) (dCons (dVar 2) (dNil)))) (dgTup 2 (dgCons (dgN 8) (dgCons (dgN 9) (dgNil)))))
  (dSeq (dDrop (dM fAppend (dVar 5) (dCons (dVar 8) (dNil))))
  (dSeq (dIfS (dB (d2 (fI0 fun i j => .bl (decide (j < i))) (dVar 7) (dC (.int 0)))) (dSeq (dAsg (dLc finW (diL (dVar 6)) (dgN 13) (dB (d2 (fEq false) (d2 fIx (dVar 13) (dC (.int 3))) (d1 fNeg (dC (.int 1))))) (dVar 13) [13]) (dgN 10))
  (dAsg (dVar 7) (dgSub (d2 fIx (dVar 10) (dCallS C__law_draw (dCons (dVar 3) (dCons (dN fLen (dCons (dVar 10) (dNil))) (dNil))))) (dC (.int 3))))) (dNext))
  (dFor (diL (dVar 9)) (dgTup 2 (dgCons (dgN 11) (dgCons (dgN 12) (dgNil)))) (dDrop (dM fInsert (dVar 6) (dCons (dCallS C__law_draw (dCons (dVar 3) (dCons (d2 fAdd (dN fLen (dCons (dVar 6) (dNil))) (dC (.int 1))) (dNil)))) (dCons (dLstH (dCons (dVar 7) (dCons (dVar 11) (dCons (dVar 12) (dCons (d1 fNeg (dC (.int 1))) (dNil)))))) (dNil))))))))))
  (dSeq (dFor (diL (dVar 6)) (dgN 13) (dSeq (dAsg (dCallS C__law_draw (dCons (dVar 3) (dCons (d2 (fI0 fun i j => .int (i - j)) (dVar 4) (d2 fIx (dVar 13) (dC (.int 0)))) (dNil)))) (dgN 14))
  (dIfS (dAnd (dB (d2 (fEq false) (d2 fIx (dVar 13) (dC (.int 3))) (d1 fNeg (dC (.int 1))))) (dB (d2 (fI0 fun i j => .bl (decide (j < i))) (dVar 14) (dC (.int 0))))) (dAsg (d2 fAdd (d2 fIx (dVar 13) (dC (.int 0))) (dVar 14)) (dgSub (dVar 13) (dC (.int 3)))) (dNext))))
  (dRet (dTup (dCons (dFrz 5) (dCons (dLc finT (diL (dVar 6)) (dgN 13) (dYes) (dN fTupOf (dCons (dVar 13) (dNil))) [13]) (dNil))))))))))

theorem rp__law_web : ∀ ws m QC, C__law_web ws m QC → rd__law_web ⟨FinS m.length QC (.t .non), FinS m.length QC, fun _ => False, fun _ => False⟩ ⟨ws.map some ++ List.replicate (15 - ws.length) none, m.map some⟩ := by
  rintro ws m QC ⟨ns, pm, most, rfl, rfl, hns, hp1, hp4, hm, hpm, hQ⟩
  unfold rd__law_web
  walk_at "dl"
  refine ⟨ns, 0, rfl, hns, fun a f hL => ?_⟩
  walk_at "dl"
  refine callS_draw0 (k := 0) hL (by omega) (by omega) (by omega) fun parts0 a1 d0 d1 hL1 => ?_
  obtain ⟨parts0, rfl⟩ := toI d0
  walk_at "dl"
  refine ⟨by decide, ?_⟩
  walk_at "dl"
  refine ⟨by decide, ?_⟩
  walk_at "dl"
  refine ⟨by omega, ?_⟩
  refine forR (List.range (1 + parts0)) (fun k => W.t (.int (k : Nat))) (fun i g' => ∃ (N : Nat → Nat) (E : Nat → List (Nat × Nat)) (rs : List Row) (hs : List Nat) (a' : Int) (k' : Nat) (loc : Sto) (o7 o8 o9 o10 o11 o12 o13 o14 : Option W),
      g' = ⟨[some (.t (.sq (ns.map T.int))), some (.t (.int pm)), some (.t (.int most)), some (.h 0), some (.t (.int (1 + parts0))), some (.h 1), some (.h 2), o7, o8, o9, o10, o11, o12, o13, o14], some (leftC a' f k') :: some (.lt ((placesOf i N).map T.int)) :: some (.lw (hW hs)) :: loc⟩ ∧
      Rw loc hs rs ∧ PV (1 + parts0) i N E rs ∧ PVin i E rs ∧ (1 ≤ i → ∃ r ∈ rs, r.c = -1) ∧ rs.length ≤ i * (most + 1) ∧ LeftOk a' f ∧ k' ≤ 1 + 100 * i)
    (by rw [show ((1 : Int) + parts0).toNat = 1 + parts0 by omega, rgW0]) ⟨fun _ => 0, fun _ => [], [], [], a1, 1, [], none, none, none, none, none, none, none, none, rfl, ⟨rfl, List.nodup_nil, fun i k r h => by simp at h⟩, ⟨fun p hp => by omega, fun r hr => by simp at hr, fun q q1 q2 => by omega⟩, fun p hp => by omega, fun h => by omega, by simp, hL1, by omega⟩ (fun _ _ _ => trivial) ?_ ?_
  · rintro i k hk g' ⟨N, E, rs, hs, a', k', loc, o7, o8, o9, o10, o11, o12, o13, o14, rfl, hRw, hPV, hin, hfree, hrl, hL', hk'⟩ M hM
    have hi : i < 1 + parts0 := by simpa using (List.getElem?_eq_some_iff.mp hk).1
    rw [List.getElem?_range hi] at hk
    cases hk
    have hmul1 : i * (most + 1) + (most + 1) = (i + 1) * (most + 1) := by rw [Nat.add_mul, Nat.one_mul]
    have hmul2 : (i + 1) * (most + 1) ≤ pm * (most + 1) := Nat.mul_le_mul_right _ (by omega)
    have e1i : (1 : Int) + (i : Nat) = ((1 + i : Nat) : Int) := by omega
    walk_at "dl"
    rw [e1i]
    refine ⟨ns, 1 + i, rfl, hns, fun a2 f2 hL2 => ?_⟩
    walk_at "dl"
    have emp : (some (leftC a' f k') :: some (Cell.lt ((placesOf i N).map T.int)) :: some (Cell.lw (hW hs)) :: (loc ++ [some (Cell.lt [T.int a2, T.int f2, T.int 0])]))[loc.length + 1 + 1 + 1]? = some (some (leftC a2 f2 (0 : Nat))) := by
      show (loc ++ _)[loc.length]? = _
      rw [List.getElem?_append_right (Nat.le_refl _), Nat.sub_self]
      rfl
    refine callS_partJ emp hL2 (by omega) hm fun n e a3 k3 hG hn he hL3 hk3 => ?_
    have eset : (some (leftC a' f k') :: some (Cell.lt ((placesOf i N).map T.int)) :: some (Cell.lw (hW hs)) :: (loc ++ [some (Cell.lt [T.int a2, T.int f2, T.int 0])])).set (loc.length + 1 + 1 + 1) (some (leftC a3 f2 k3)) = some (leftC a' f k') :: some (Cell.lt ((placesOf i N).map T.int)) :: some (Cell.lw (hW hs)) :: (loc ++ [some (leftC a3 f2 k3)]) := by
      show some (leftC a' f k') :: some (Cell.lt ((placesOf i N).map T.int)) :: some (Cell.lw (hW hs)) :: (loc ++ _).set loc.length _ = _
      rw [List.set_append_right _ _ (Nat.le_refl _), Nat.sub_self]
      rfl
    rw [eset]
    have hpl := placesOf_len i N
    walk_at "dl"
    refine ⟨isL_lt (us := (placesOf i N).map T.int) rfl, ?_⟩
    walk_at "dl"
    refine i_append (us := (placesOf i N).map T.int) rfl (lineLt (by rw [List.length_map]; omega)) ?_
    have epl2 : (placesOf i N).map T.int ++ [T.int (n : Nat)] = (placesOf (i + 1) (updF N i n)).map T.int := by
      rw [placesOf_next, List.map_append]
      rfl
    rw [epl2]
    walk_at "dl"
    have hspec : PartSpec false n e := hG.spec (by omega)
    have hne := hG.ne
    have hrw1 := hRw.push [some (leftC a3 f2 k3)]
    generalize loc ++ [some (leftC a3 f2 k3)] = loc2 at hrw1
    have upin : ∀ rs2 : List Row, PVin i E rs2 → PVin i (updF E i e) rs2 := fun rs2 h p hp ab hab => by
      rw [updF_ne _ _ _ (by omega)] at hab
      exact h p hp ab hab
    refine k_d (fun hi0 => ?_) (fun hi0 => ?_)
    · obtain ⟨rf, hrf, hrc⟩ := hfree (by omega)
      walk_at "dl"
      refine o_LqW rfl rfl ?_
      refine lcW (hs.zip rs) (fun kr => W.h (kr.1 + 3)) (fun kr => decide (kr.2.c = -1)) (fun kr => W.h (kr.1 + 3)) (hW_zip hRw.len) (lineLe (by rw [zip_len hRw.len]; omega)) rfl ?_ ?_
      · rintro ⟨x, r⟩ hx Y N2 hY hN2
        obtain ⟨j, hj1, hj2⟩ := zip_at hx
        have em : (some (leftC a' f k') :: some (Cell.lt ((placesOf (i + 1) (updF N i n)).map T.int)) :: some (Cell.lw (hW hs)) :: loc2)[x + 3]? = some (some (rowC r)) := hrw1.get j x r hj1 hj2
        unfold rowC at em
        walk_at "dl"
        refine k_d (fun h => ?_) (fun h => ?_)
        · walk_at "dl"
          exact hY (decide_eq_true h) _ rfl
        · exact hN2 (decide_eq_false h) _ rfl
      · refine i_finW ?_
        have hLne : 0 < ((hs.zip rs).filter fun kr => decide (kr.2.c = -1)).length := by
          obtain ⟨j, hj⟩ := List.getElem?_of_mem hrf
          obtain ⟨x, hx⟩ := getLt (xs := hs) (j := j) (by rw [hRw.len]; exact (List.getElem?_eq_some_iff.mp hj).1)
          have hz : (hs.zip rs)[j]? = some (x, rf) := List.getElem?_zip_eq_some.mpr ⟨hx, hj⟩
          exact List.length_pos_of_mem (List.mem_filter.mpr ⟨List.mem_of_getElem? hz, decide_eq_true hrc⟩)
        have hLle : ((hs.zip rs).filter fun kr => decide (kr.2.c = -1)).length ≤ rs.length := by
          have := List.length_filter_le (fun kr : Nat × Row => decide (kr.2.c = -1)) (hs.zip rs)
          rw [zip_len hRw.len] at this
          exact this
        have hLm : ∀ kr ∈ (hs.zip rs).filter (fun kr => decide (kr.2.c = -1)), kr ∈ hs.zip rs ∧ kr.2.c = -1 := fun kr h => by
          rw [List.mem_filter] at h
          exact ⟨h.1, of_decide_eq_true h.2⟩
        generalize ((hs.zip rs).filter fun kr => decide (kr.2.c = -1)) = L at hLne hLle hLm
        walk_at "dl"
        have eml : ∀ c : Option Cell, (c :: some (Cell.lt ((placesOf (i + 1) (updF N i n)).map T.int)) :: some (Cell.lw (hW hs)) :: (loc2 ++ [some (Cell.lw (L.map fun kr => W.h (kr.1 + 3)))]))[loc2.length + 1 + 1 + 1]? = some (some (Cell.lw (L.map fun kr => W.h (kr.1 + 3)))) := fun c => by
          show (loc2 ++ _)[loc2.length]? = _
          rw [List.getElem?_append_right (Nat.le_refl _), Nat.sub_self]
          rfl
        refine i_lenHW (eml _) ?_
        walk_at "dl"
        rw [List.length_map]
        refine callS_draw0 hL' (by omega) (by omega) (by omega) fun j a4 j0 j1 hL4 => ?_
        obtain ⟨j, rfl⟩ := toI j0
        obtain ⟨⟨x, r⟩, hx⟩ := getLt (xs := L) (j := j) (by omega)
        obtain ⟨hxm, hrc2⟩ := hLm _ (List.mem_of_getElem? hx)
        obtain ⟨jj, hj1, hj2⟩ := zip_at hxm
        have hrw2 := hrw1.push [some (Cell.lw (L.map fun kr => W.h (kr.1 + 3)))]
        have em2 : ∀ c : Option Cell, (c :: some (Cell.lt ((placesOf (i + 1) (updF N i n)).map T.int)) :: some (Cell.lw (hW hs)) :: (loc2 ++ [some (Cell.lw (L.map fun kr => W.h (kr.1 + 3)))]))[x + 3]? = some (some (rowC r)) := fun c => hrw2.get jj x r hj1 hj2
        have hat : atI (L.map fun kr => W.h (kr.1 + 3)) (j : Int) = some (.h (x + 3)) := atI_map (fun kr : Nat × Row => W.h (kr.1 + 3)) (atI_nat hx)
        refine i_ixHW (eml _) hat ?_
        walk_at "dl"
        unfold rowC at em2
        refine o_put (em2 _) (ixN_nat (n := 4) (k := 3) (by decide)) ?_
        walk_at "dn"
        obtain ⟨pr, hpr, ab, hab, ⟨his, _⟩, _⟩ := hPV.row r (List.mem_of_getElem? hj2)
        have hcall : r.p < (i : Int) ∧ (i : Int) < (1 + parts0 : Nat) := by omega
        have hPV2 := hPV.call (c := (i : Int)) hj2 hrc2 hcall
        have hin2 := hin.call (c := (i : Int)) hj2
        have hRw3 := hrw2.put (r := { r with c := (i : Int) }) hj1
        refine ins_rows (hs := hs) (rs := rs.set jj { r with c := (i : Int) }) (E := updF E i e) (parts := 1 + parts0) hRw3 (hPV2.part (n := n) hspec hne (fun h => ⟨_, mem_set_self hj2, rfl⟩)) (updF_eq _ _ _) (upin _ hin2) (by rw [List.length_set]; omega) hL4 (by omega) hne fun a5 k5 loc5 hs5 rs5 p11 p12 h1 h2 h3 h4 h5 h6 h7 => hM _ ⟨_, _, _, _, _, _, _, _, _, _, _, _, _, _, _, rfl, h1, h2, h3, fun _ => h4, by rw [List.length_set] at h5; omega, h6, by omega⟩
    · walk_at "dl"
      have hi0' : i = 0 := by omega
      refine ins_rows (hs := hs) (rs := rs) (E := updF E i e) (parts := 1 + parts0) hrw1 (hPV.part (n := n) hspec hne (fun h => by omega)) (updF_eq _ _ _) (upin _ hin) (by omega) hL' (by omega) hne fun a5 k5 loc5 hs5 rs5 p11 p12 h1 h2 h3 h4 h5 h6 h7 => hM _ ⟨_, _, _, _, _, _, _, _, _, _, _, _, _, _, _, rfl, h1, h2, h3, fun _ => h4, by omega, h6, by omega⟩
  · rintro g' ⟨N, E, rs, hs, a', k', loc, o7, o8, o9, o10, o11, o12, o13, o14, rfl, hRw, hPV, hin, hfree, hrl, hL', hk'⟩
    have hLr : (List.range (1 + parts0)).length = 1 + parts0 := List.length_range
    rw [hLr] at hPV hin hrl hk' ⊢
    have hmul2 : (1 + parts0) * (most + 1) ≤ pm * (most + 1) := Nat.mul_le_mul_right _ (by omega)
    have hpl := placesOf_len (1 + parts0) N
    walk_at "dl"
    refine o_LqW rfl rfl ?_
    refine forR hs (fun k => W.h (k + 3)) (fun j g' => ∃ (a' : Int) (k' : Nat) (loc : Sto) (rs : List Row) (o13 o14 : Option W), g' = ⟨[some (.t (.sq (ns.map T.int))), some (.t (.int pm)), some (.t (.int most)), some (.h 0), some (.t (.int (1 + parts0))), some (.h 1), some (.h 2), o7, o8, o9, o10, o11, o12, o13, o14], some (leftC a' f k') :: some (.lt ((placesOf (1 + parts0) N).map T.int)) :: some (.lw (hW hs)) :: loc⟩ ∧
      Rw loc hs rs ∧ PV (1 + parts0) (1 + parts0) N E rs ∧ PVin (1 + parts0) E rs ∧ rs.length ≤ 60 ∧ LeftOk a' f ∧ k' ≤ 1000 + j)
      rfl ⟨a', k', loc, rs, o13, o14, rfl, hRw, hPV, hin, by omega, hL', by omega⟩ (by rintro _ _ ⟨_, _, _, _, _, _, rfl, _⟩; rfl) ?_ ?_
    · rintro j x hj g' ⟨a', k', loc, rs, o13, o14, rfl, hRw, hPV, hin, hrl, hL', hk'⟩ M hM
      have hjl := (List.getElem?_eq_some_iff.mp hj).1
      have hhl := hRw.len
      obtain ⟨r, hr⟩ := getLt (xs := rs) (j := j) (by omega)
      obtain ⟨pr, hpr, ab, hab, ⟨his, _⟩, _⟩ := hPV.row r (List.mem_of_getElem? hr)
      have em : ∀ c : Option Cell, (c :: some (Cell.lt ((placesOf (1 + parts0) N).map T.int)) :: some (Cell.lw (hW hs)) :: loc)[x + 3]? = some (some (rowC r)) := fun c => hRw.get j x r hj hr
      unfold rowC at em
      have em1 := em (some (leftC a' f k'))
      have a0 : atI [T.int r.p, T.int r.s, T.int r.e, T.int r.c] 0 = some (T.int r.p) := rfl
      walk_at "dl"
      refine callS_draw0 hL' (by omega) (by omega) (by omega) fun d a2 d0 d1 hL2 => ?_
      have em2 := em (some (leftC a2 f (k' + 1 : Nat)))
      walk_at "dl"
      refine k_d (fun hc => ?_) (fun hc => ?_)
      · walk_at "dl"
        refine k_d (fun hd => ?_) (fun hd => ?_)
        · walk_at "dl"
          refine o_put em2 (ixN_nat (n := 4) (k := 3) (by decide)) ?_
          walk_at "dn"
          refine hM _ ⟨a2, k' + 1, _, rs.set j { r with c := r.p + d }, _, _, rfl, hRw.put (r := { r with c := r.p + d }) hj, hPV.call hr hc ⟨by omega, by omega⟩, hin.call hr, by rw [List.length_set]; exact hrl, hL2, by omega⟩
        · walk_at "dl"
          exact hM _ ⟨a2, k' + 1, loc, rs, _, _, rfl, hRw, hPV, hin, hrl, hL2, by omega⟩
      · walk_at "dl"
        exact hM _ ⟨a2, k' + 1, loc, rs, _, _, rfl, hRw, hPV, hin, hrl, hL2, by omega⟩
    · rintro g' ⟨a', k', loc, rs, o13, o14, rfl, hRw, hPV, hin, hrl, hL', hk'⟩
      dsimp only
      refine i_ret ?_
      refine i_tup ?_
      refine i_cons ?_
      refine i_frzH rfl rfl rfl ?_
      simp only [G.frz, List.map_cons, List.map_nil]
      have f0 : ∀ y, frzW 1 y (some (.h 0)) = some (.h 0) := fun y => rfl
      have f2 : ∀ y, frzW 1 y (some (.h 2)) = some (.h 2) := fun y => rfl
      have f1 : ∀ y, frzW 1 y (some (.h 1)) = some (.t y) := fun y => rfl
      have ft : ∀ y z, frzW 1 y (some (.t z)) = some (.t z) := fun y z => rfl
      simp only [f0, f1, f2, ft]
      generalize frzW 1 _ o7 = p7
      generalize frzW 1 _ o8 = p8
      generalize frzW 1 _ o9 = p9
      generalize frzW 1 _ o10 = p10
      generalize frzW 1 _ o11 = p11
      generalize frzW 1 _ o12 = p12
      generalize frzW 1 _ o13 = p13
      generalize frzW 1 _ o14 = p14
      walk_at "dl"
      refine o_LqW rfl rfl ?_
      refine lcP (hs.zip rs) (fun kr => W.h (kr.1 + 3)) (fun _ => true) (fun kr => kr.2.t) (hW_zip hRw.len) (lineLe (by rw [zip_len hRw.len]; omega)) rfl ?_ rfl ?_
      · rintro ⟨x, r⟩ hx Y N2 hY hN2
        obtain ⟨j, hj1, hj2⟩ := zip_at hx
        have em : (some (leftC a' f k') :: none :: some (Cell.lw (hW hs)) :: loc)[x + 3]? = some (some (.lt [.int r.p, .int r.s, .int r.e, .int r.c])) := hRw.get j x r hj1 hj2
        walk_at "dl"
        refine i_tupOfH em ?_
        exact hY rfl _ rfl
      rw [List.filter_eq_self.mpr (fun _ _ => rfl)]
      have ez : ((hs.zip rs).map fun kr => kr.2.t) = rs.map Row.t := by
        rw [show (fun kr : Nat × Row => kr.2.t) = Row.t ∘ Prod.snd from rfl, ← List.map_map, List.map_snd_zip (by rw [hRw.len]; exact Nat.le_refl _)]
      rw [ez]
      walk_at "dl"
      refine ⟨by decide, ?_⟩
      have q := hQ ⟨placesOf (1 + parts0) N, rs⟩ (web_ok2 hPV hin (by omega) (by omega) hrl) (by show (placesOf (1 + parts0) N).length ≤ pm; omega)
      exact fin_s [] [] [] (.t (Web.t ⟨placesOf (1 + parts0) N, rs⟩)) List.nodup_nil (fun j hj => by simp at hj) rfl rfl rfl (fun i c e => by simp at e) q
/-! equality of plain data with itself -/
theorem eqvAll_self : ∀ xs : List T, (∀ x ∈ xs, teq x x = true) → PyData.eqvAll (xs.map T.pd) (xs.map T.pd) = true
  | [], _ => by simp [PyData.eqvAll]
  | x :: xs, h => by
    have h1 := h x (by simp)
    unfold teq at h1
    rw [List.map_cons]
    simp only [PyData.eqvAll]
    rw [h1, eqvAll_self xs fun y hy => h y (by simp [hy])]
    rfl
theorem teq_lst {xs : List T} (h : ∀ x ∈ xs, teq x x = true) : teq (.lst xs) (.lst xs) = true := by
  unfold teq
  simp only [T.pd, PyData.eqv]
  exact eqvAll_self xs h
theorem teq_tup {xs : List T} (h : ∀ x ∈ xs, teq x x = true) : teq (.tup xs) (.tup xs) = true := by
  unfold teq
  simp only [T.pd, PyData.eqv]
  exact eqvAll_self xs h
theorem teq_int (i : Int) : teq (.int i) (.int i) = true := by
  unfold teq
  simp only [T.pd, PyData.eqv]
  simp
theorem teq_ints (xs : List Int) : teq (.lst (xs.map T.int)) (.lst (xs.map T.int)) = true := teq_lst fun x hx => by
  obtain ⟨i, _, rfl⟩ := List.mem_map.mp hx
  exact teq_int i
theorem teq_web (w : Web) : teq w.t w.t = true := by
  unfold Web.t
  refine teq_tup fun x hx => ?_
  have : x = .lst (w.places.map T.int) ∨ x = .lst (w.rows.map Row.t) := by simpa using hx
  rcases this with rfl | rfl
  · exact teq_ints _
  · refine teq_lst fun x hx => ?_
    obtain ⟨r, _, rfl⟩ := List.mem_map.mp hx
    unfold Row.t
    refine teq_tup fun y hy => ?_
    have : y = .int r.p ∨ y = .int r.s ∨ y = .int r.e ∨ y = .int r.c := by simpa using hy
    rcases this with rfl | rfl | rfl | rfl <;> exact teq_int _
theorem sh_web (w : Web) (n : Nat) : w.t.sh (n + 3) = true := by
  simp [Web.t, T.sh, Row.t]
theorem sh_ints (n : Nat) (xs : List Int) : (T.lst (xs.map T.int)).sh (n + 1) = true := by
  simp [T.sh]
/-! a law that answers True at every script -/
def C_law : SC := fun ws m QC => ∃ ns : List Int, ws = [.t (.sq (ns.map T.int))] ∧ m = [] ∧ ns.length ≤ 63 ∧ (∀ z ∈ ns, Builtin.Int.intBits z ≤ 1048576) ∧ QC (.t (.bl true)) [] []
theorem ln_law : ∀ ws m Q, C_law ws m Q → ws.length = ["_law_script"].length := by rintro ws m Q ⟨_, rfl, _⟩; rfl
theorem fin_true {QC : W → List Cell → List Cell → Prop} {g : G} (q : QC (.t (.bl true)) [] []) : FinS 0 QC (.t (.bl true)) g :=
  fin_s [] [] [] (.t (.bl true)) List.nodup_nil (fun j hj => by simp at hj) rfl rfl rfl (fun i c e => by simp at e) q
theorem callS_web2 {ns : List Int} {pm most : Nat} {sl : List (Option W)} {mem : Sto} {Q : W → G → Prop} (hns : ∀ z ∈ ns, Builtin.Int.intBits z ≤ 1048576) (h1 : 1 ≤ pm) (h4 : pm ≤ 4) (hm : most ≤ 14) (hpm : pm * (most + 1) ≤ 60)
    (h : ∀ w : Web, w.Ok → w.places.length ≤ pm → Q (.t w.t) ⟨sl, mem⟩) : callS C__law_web [.t (.sq (ns.map T.int)), .t (.int pm), .t (.int most)] ⟨sl, mem⟩ Q := by
  refine ⟨[], [], [.t (.sq (ns.map T.int)), .t (.int pm), .t (.int most)], List.nodup_nil, rfl, rfl, fun i c e => by simp at e, ns, pm, most, rfl, rfl, hns, h1, h4, hm, hpm, fun w hok hl => ⟨.t w.t, [], [], rfl, rfl, rfl, ?_⟩⟩
  rw [List.map_nil, List.append_nil]
  exact h w hok hl
/-! loops, lists -/
theorem foldG {ι : Type} (pre acc : List ι) : pre.foldl (fun a x => a ++ [x]) acc = acc ++ pre := by
  induction pre generalizing acc with
  | nil => rw [List.foldl_nil, List.append_nil]
  | cons x pre ih => rw [List.foldl_cons, ih, List.append_assoc]; rfl
/-- a loop, with what has been gone through -/
theorem forG {D : De} {g1 : G} {gt : DGt} {tb : DSt} {ws : List W} {St : G → Prop} {ι : Type} (items : List ι) (enc : ι → W) (R : List ι → G → Prop) (hws : ws = items.map enc) (h0 : R [] g1) (hSt : ∀ b g, R b g → St g)
    (hstep : ∀ pre x post, items = pre ++ x :: post → ∀ g', R pre g' → ∀ N : G → Prop, (∀ g'', R (pre ++ [x]) g'' → N g'') → gt (enc x) g' fun g2 => tb { D with nx := N, ct := N, bk := D.nx } g2)
    (hQ : ∀ g', R items g' → D.nx g') : forI ws St g1 gt tb D := by
  refine forP items enc (fun a x => a ++ [x]) R [] hws h0 hSt ?_ ?_
  · intro pre x post hs g' hR N hN
    rw [foldG, List.nil_append] at hR hN
    exact hstep pre x post hs g' hR N hN
  · intro g' hR
    rw [foldG, List.nil_append] at hR
    exact hQ g' hR
theorem i_inI {g : G} {Q : W → G → Prop} {x : Int} {y : W} {xs : List Int} (e : g.seq? y = some (xs.map T.int)) (h : Q (.t (.bl (decide (x ∈ xs)))) g) : fIn false g (.t (.int x)) y Q := by
  refine i_in e rfl (fun t ht => ?_) ?_
  · obtain ⟨i, _, rfl⟩ := List.mem_map.mp ht
    rfl
  · rw [inT_ints]
    exact h
theorem i_ninI {g : G} {Q : W → G → Prop} {x : Int} {y : W} {xs : List Int} (e : g.seq? y = some (xs.map T.int)) (h : Q (.t (.bl (!decide (x ∈ xs)))) g) : fIn true g (.t (.int x)) y Q := by
  refine i_notIn e rfl (fun t ht => ?_) ?_
  · obtain ⟨i, _, rfl⟩ := List.mem_map.mp ht
    rfl
  · rw [inT_ints]
    exact h
theorem teq_pair (a b c d : Int) : teq (.tup [.int a, .int b]) (.tup [.int c, .int d]) = (decide (a = c) && decide (b = d)) := by
  unfold teq
  simp only [T.pd, PyData.eqv, List.map_cons, List.map_nil, PyData.eqvAll, Bool.beq_eq_decide_eq, Bool.and_true]
theorem set_same {α : Type} {xs : List α} {i : Nat} {x : α} (h : xs[i]? = some x) : xs.set i x = xs := by
  refine List.ext_getElem? fun j => ?_
  rw [List.getElem?_set]
  by_cases e : i = j
  · subst e
    rw [if_pos rfl, if_pos (List.getElem?_eq_some_iff.mp h).1, h]
  · rw [if_neg e]
theorem at_last {α : Type} {xs : List α} {x : α} : (xs ++ [x])[xs.length]? = some x := by
  rw [List.getElem?_append_right (Nat.le_refl _), Nat.sub_self]
  rfl
theorem at_more {α : Type} {xs ys : List α} {n : Nat} {x : α} (h : xs[n]? = some x) : (xs ++ ys)[n]? = some x := by
  rw [List.getElem?_append_left (List.getElem?_eq_some_iff.mp h).1]
  exact h
theorem flat_rep (n : Nat) : (List.replicate n [T.int 0]).flatten = (List.replicate n (0 : Int)).map T.int := by
  induction n with
  | zero => rfl
  | succ n ih =>
    show [T.int 0] ++ (List.replicate n [T.int 0]).flatten = T.int 0 :: (List.replicate n (0 : Int)).map T.int
    rw [ih]
    rfl
def C__law_copy : PC := fun ts Q => ∃ w : Web, ts = [w.t] ∧ Q (.t w.t)
theorem ln__law_copy : ∀ ts Q, C__law_copy ts Q → ts.length = ["a"].length := by rintro ts Q ⟨_, rfl, _⟩; rfl
def rd__law_copy : DSt :=
  dRet (dTup (dCons (dN fListOf (dCons (d2 fIx (dVar 0) (dC (.int 0))) (dNil))) (dCons (dN fListOf (dCons (d2 fIx (dVar 0) (dC (.int 1))) (dNil))) (dNil))))

theorem rp__law_copy : ∀ ts Q, C__law_copy ts Q → rd__law_copy ⟨FinP Q (.t .non), FinP Q, fun _ => False, fun _ => False⟩ ⟨ts.map (fun t => some (W.t t)) ++ List.replicate (1 - ts.length) none, []⟩ := by
  rintro ts Q ⟨w, rfl, hQ⟩
  unfold rd__law_copy Web.t at *
  walk_at "dl"
  refine i_listOf rfl ?_
  walk_at "dl"
  refine i_listOf rfl ?_
  walk_at "dl"
  refine ⟨by decide, ?_⟩
  walk_at "dl"
  exact hQ
/-! generator 2: how far the end of a part is, runs -/
def dI (ks : List Int) (F : Int → Int) : Cell := .dt (ks.map Sum.inl) (ks.map fun x => T.int (F x))
theorem look_dI {b : Int} {F : Int → Int} : ∀ ks : List Int, look (ks.map Sum.inl) (ks.map fun x => T.int (F x)) (Sum.inl b) = if b ∈ ks then some (T.int (F b)) else none
  | [] => rfl
  | k :: ks => by
    rw [List.map_cons, List.map_cons]
    unfold look
    by_cases e : k = b
    · subst e
      rw [if_pos rfl, if_pos (by simp)]
    · rw [if_neg (fun z => e (by injection z)), look_dI ks]
      by_cases h : b ∈ ks
      · rw [if_pos h, if_pos (List.mem_cons_of_mem _ h)]
      · rw [if_neg h, if_neg (fun z => by rcases List.mem_cons.mp z with z | z; exact e z.symm; exact h z)]
theorem look_in {b : Int} {F : Int → Int} {ks : List Int} (h : b ∈ ks) : look (ks.map Sum.inl) (ks.map fun x => T.int (F x)) (Sum.inl b) = some (T.int (F b)) := by rw [look_dI, if_pos h]
theorem look_is {b : Int} {F : Int → Int} (ks : List Int) : (look (ks.map Sum.inl) (ks.map fun x => T.int (F x)) (Sum.inl b)).isSome = decide (b ∈ ks) := by
  rw [look_dI]
  by_cases h : b ∈ ks
  · rw [if_pos h, decide_eq_true h]; rfl
  · rw [if_neg h, decide_eq_false h]; rfl
theorem has_no {b : Int} {ks : List Int} (h : b ∉ ks) : hasK (ks.map Sum.inl) (Sum.inl b : Key) = false := by
  unfold hasK
  rw [List.any_eq_false]
  intro x hx
  obtain ⟨y, hy, rfl⟩ := List.mem_map.mp hx
  intro z
  have := of_decide_eq_true z
  injection this with this
  subst this
  exact h hy
theorem putKs_new {b : Int} {ks : List Int} (h : b ∉ ks) : putKs (ks.map Sum.inl) (Sum.inl b) = (ks ++ [b]).map Sum.inl := by
  unfold putKs
  rw [has_no h, List.map_append]
  rfl
def updI (F : Int → Int) (x v : Int) : Int → Int := fun y => if y = x then v else F y
theorem updI_eq (F : Int → Int) (x v : Int) : updI F x v x = v := if_pos rfl
theorem updI_ne (F : Int → Int) (x v : Int) {y : Int} (h : y ≠ x) : updI F x v y = F y := if_neg h
theorem putXs_new {b v : Int} {ks : List Int} {F : Int → Int} (h : b ∉ ks) : putXs (ks.map Sum.inl) (ks.map fun x => T.int (F x)) (Sum.inl b) (T.int v) = (ks ++ [b]).map fun x => T.int (updI F b v x) := by
  unfold putXs
  rw [has_no h, List.map_append]
  show _ ++ [T.int v] = _ ++ [T.int (updI F b v b)]
  rw [updI_eq]
  congr 1
  refine List.map_congr_left fun x hx => ?_
  rw [updI_ne _ _ _ (fun z => h (by rw [← z]; exact hx))]
def Web.fromP (w : Web) (p x : Int) : List Nat := (List.range w.rows.length).filter fun k => decide ((w.row k).p = p) && decide ((w.row k).s = x)
theorem mem_fromP {w : Web} {p x : Int} {k : Nat} : k ∈ w.fromP p x ↔ k < w.rows.length ∧ (w.row k).p = p ∧ (w.row k).s = x := by
  unfold Web.fromP
  rw [List.mem_filter, List.mem_range]
  simp
theorem fromP_len (w : Web) (p x : Int) : (w.fromP p x).length ≤ w.rows.length := by
  unfold Web.fromP
  exact Nat.le_trans (List.length_filter_le _ _) (by rw [List.length_range]; exact Nat.le_refl _)
theorem has_yes {b : Int} {ks : List Int} (h : b ∈ ks) : hasK (ks.map Sum.inl) (Sum.inl b : Key) = true := by
  unfold hasK
  rw [List.any_eq_true]
  exact ⟨Sum.inl b, List.mem_map.mpr ⟨b, h, rfl⟩, decide_eq_true rfl⟩
theorem putAll_dI {b v : Int} {F : Int → Int} : ∀ ks : List Int, putAll (Sum.inl b : Key) (T.int v) (ks.map Sum.inl) (ks.map fun x => T.int (F x)) = ks.map fun x => T.int (updI F b v x)
  | [] => rfl
  | k :: ks => by
    rw [List.map_cons, List.map_cons, List.map_cons]
    unfold putAll
    rw [putAll_dI ks]
    by_cases e : k = b
    · subst e
      rw [if_pos rfl, updI_eq]
    · rw [if_neg (fun z => e (by injection z)), updI_ne _ _ _ e]
theorem put_dI {b v : Int} {ks : List Int} {F : Int → Int} : Cell.dt (putKs (ks.map Sum.inl) (Sum.inl b)) (putXs (ks.map Sum.inl) (ks.map fun x => T.int (F x)) (Sum.inl b) (T.int v)) = dI (ins ks b) (updI F b v) := by
  unfold dI ins
  by_cases h : b ∈ ks
  · rw [if_pos h]
    unfold putKs putXs
    rw [has_yes h]
    rw [if_pos rfl, if_pos rfl, putAll_dI]
  · rw [if_neg h, putKs_new h, putXs_new h]
/-! how far the end is -/
structure FarI (w : Web) (p : Int) (ks : List Int) (F : Int → Int) : Prop where
  nd : ks.Nodup
  one : 1 ∈ ks
  inr : ∀ x ∈ ks, 0 ≤ x ∧ x < w.place p
  bd : ∀ x ∈ ks, 0 ≤ F x ∧ F x < ks.length
  st : ∀ x ∈ ks, x ≠ 1 → ∃ k ∈ w.fromP p x, (w.row k).e ∈ ks ∧ F (w.row k).e < F x
theorem FarI.start {w : Web} {p : Int} (h : 1 < w.place p) : FarI w p [1] (fun _ => 0) where
  nd := by simp
  one := by simp
  inr := fun x hx => by simp at hx; omega
  bd := fun x hx => ⟨Int.le_refl _, by simp⟩
  st := fun x hx h1 => by simp at hx; exact absurd hx h1
theorem range_len {ks : List Int} {n : Int} (h0 : 0 ≤ n) (nd : ks.Nodup) (h : ∀ x ∈ ks, 0 ≤ x ∧ x < n) : (ks.length : Int) ≤ n := by
  obtain ⟨m, rfl⟩ := Int.eq_ofNat_of_zero_le h0
  have h5 := nd.length_le_of_subset (l₂ := (List.range m).map fun k => ((k : Nat) : Int)) (by
    intro x hx
    have := h x hx
    rw [List.mem_map]
    exact ⟨x.toNat, by rw [List.mem_range]; omega, by omega⟩)
  rw [List.length_map, List.length_range] at h5
  omega
def minI (i j : Int) : Int := if j < i then j else i
theorem FarI.next {w : Web} {p : Int} {ks : List Int} {F : Int → Int} (h : FarI w p ks F) {k : Nat} (hk : k < w.rows.length) (hp : (w.row k).p = p) (hs : (w.row k).s ≠ 1) (hr : 0 ≤ (w.row k).s ∧ (w.row k).s < w.place p) (he : (w.row k).e ∈ ks) :
    FarI w p (ins ks (w.row k).s) (updI F (w.row k).s (minI (if (w.row k).s ∈ ks then F (w.row k).s else 99) (F (w.row k).e + 1))) ∨ (ks.length : Int) > 90 := by
  by_cases hlen : (ks.length : Int) > 90
  · exact .inr hlen
  refine .inl ?_
  have hb := h.bd _ he
  by_cases hx : (w.row k).s ∈ ks
  · rw [if_pos hx]
    have ei : ins ks (w.row k).s = ks := by unfold ins; rw [if_pos hx]
    rw [ei]
    have hv : minI (F (w.row k).s) (F (w.row k).e + 1) ≤ F (w.row k).s := by unfold minI; split <;> omega
    have hle : ∀ y, updI F (w.row k).s (minI (F (w.row k).s) (F (w.row k).e + 1)) y ≤ F y := fun y => by
      by_cases e : y = (w.row k).s
      · subst e
        rw [updI_eq]
        exact hv
      · rw [updI_ne _ _ _ e]
        exact Int.le_refl _
    refine ⟨h.nd, h.one, h.inr, fun x hx2 => ⟨?_, Int.lt_of_le_of_lt (hle x) (h.bd x hx2).2⟩, fun x hx2 h1 => ?_⟩
    · by_cases e : x = (w.row k).s
      · subst e
        rw [updI_eq]
        have := h.bd _ hx
        unfold minI
        split <;> omega
      · rw [updI_ne _ _ _ e]
        exact (h.bd x hx2).1
    · by_cases e : x = (w.row k).s
      · subst e
        rw [updI_eq]
        by_cases hc : F (w.row k).e + 1 < F (w.row k).s
        · refine ⟨k, mem_fromP.mpr ⟨hk, hp, rfl⟩, he, ?_⟩
          have hne : (w.row k).e ≠ (w.row k).s := fun z => by rw [z] at hc; omega
          rw [updI_ne _ _ _ hne]
          unfold minI
          rw [if_pos hc]
          omega
        · obtain ⟨k', h2, h3, h4⟩ := h.st _ hx hs
          refine ⟨k', h2, h3, Int.lt_of_le_of_lt (hle _) ?_⟩
          unfold minI
          rw [if_neg hc]
          exact h4
      · obtain ⟨k', h2, h3, h4⟩ := h.st _ hx2 h1
        refine ⟨k', h2, h3, Int.lt_of_le_of_lt (hle _) ?_⟩
        rw [updI_ne _ _ _ e]
        exact h4
  · rw [if_neg hx]
    have ei : ins ks (w.row k).s = ks ++ [(w.row k).s] := by unfold ins; rw [if_neg hx]
    have hv : minI 99 (F (w.row k).e + 1) = F (w.row k).e + 1 := by
      unfold minI
      rw [if_pos (by omega)]
    rw [hv, ei]
    have hne : ∀ y ∈ ks, y ≠ (w.row k).s := fun y hy z => hx (by rw [← z]; exact hy)
    refine ⟨?_, by simp [h.one], fun x hx2 => ?_, fun x hx2 => ?_, fun x hx2 h1 => ?_⟩
    · rw [← ei]
      exact ins_nd h.nd
    · rcases List.mem_append.mp hx2 with z | z
      · exact h.inr x z
      · simp at z
        subst z
        exact hr
    · rw [List.length_append, List.length_singleton]
      rcases List.mem_append.mp hx2 with z | z
      · rw [updI_ne _ _ _ (hne x z)]
        have := h.bd x z
        omega
      · simp at z
        subst z
        rw [updI_eq]
        omega
    · rcases List.mem_append.mp hx2 with z | z
      · obtain ⟨k', h2, h3, h4⟩ := h.st _ z h1
        refine ⟨k', h2, List.mem_append_left _ h3, ?_⟩
        rw [updI_ne _ _ _ (hne x z), updI_ne _ _ _ (hne _ h3)]
        exact h4
      · simp at z
        subst z
        refine ⟨k, mem_fromP.mpr ⟨hk, hp, rfl⟩, List.mem_append_left _ he, ?_⟩
        rw [updI_eq, updI_ne _ _ _ (hne _ he)]
        omega
/-- all places are there -/
structure FarF (w : Web) (p : Int) (ks : List Int) (F : Int → Int) : Prop extends FarI w p ks F where
  full : ∀ q, 0 ≤ q → q < w.place p → q ∈ ks
theorem far_more {w : Web} {p : Int} {ks ks' : List Int} (hall : ∀ q : Int, 0 ≤ q → q < w.place p → Reach (w.edges p true) 1 q) (h1 : 1 ∈ ks) (nd : ks.Nodup) (nd' : ks'.Nodup) (sub : ∀ x ∈ ks, x ∈ ks') (step : ∀ k ∈ w.rowsOf p, (w.row k).e ∈ ks → (w.row k).s ∈ ks') :
    (∀ q, 0 ≤ q → q < w.place p → q ∈ ks) ∨ ks.length + 1 ≤ ks'.length := by
  by_cases hc : ∀ k ∈ w.rowsOf p, (w.row k).e ∈ ks → (w.row k).s ∈ ks
  · refine .inl fun q h2 h3 => reach_closed h1 (fun a b hab ha => ?_) (hall q h2 h3)
    unfold Web.edges at hab
    obtain ⟨k, hk, ek⟩ := List.mem_map.mp hab
    unfold Web.edge at ek
    rw [if_pos rfl] at ek
    cases ek
    exact hc k hk ha
  · refine .inr ?_
    obtain ⟨k, hk⟩ := Classical.not_forall.mp hc
    obtain ⟨hk, hk2⟩ := Classical.not_forall.mp hk
    obtain ⟨hk3, hk4⟩ := Classical.not_forall.mp hk2
    have nd2 : ((w.row k).s :: ks).Nodup := List.nodup_cons.mpr ⟨hk4, nd⟩
    have := nd2.length_le_of_subset (l₂ := ks') (fun x hx => by
      rcases List.mem_cons.mp hx with rfl | hx
      · exact step k hk hk3
      · exact sub x hx)
    rw [List.length_cons] at this
    exact this
theorem i_getI {g : G} {Q : W → G → Prop} {w : W} {x : Int} {ks : List Int} {F : Int → Int} (e : g.dct? w = some (ks.map Sum.inl, ks.map fun x => T.int (F x))) (hx : x ∈ ks) (h : Q (.t (.int (F x))) g) : fGet g w (.t (.int x)) Q := i_get rfl e (look_in hx) h
def C__law_far : PC := fun ts Q => ∃ (w : Web) (p : Nat), ts = [w.t, .int p] ∧ w.Ok ∧ p < w.places.length ∧ ∀ ks F, FarF w p ks F → Q (.f (dI ks F))
theorem ln__law_far : ∀ ts Q, C__law_far ts Q → ts.length = ["a", "b"].length := by rintro ts Q ⟨_, _, rfl, _⟩; rfl
def rd__law_far : DSt :=
  dSeq (dAsg (dDisp [(dC (.int 1), dC (.int 0))]) (dgN 2))
  (dSeq (dFor (diR1 (dCons (d2 fIx (d2 fIx (dVar 0) (dC (.int 0))) (dVar 1)) (dNil))) (dgN 3) (dFor (diL (d2 fIx (dVar 0) (dC (.int 1)))) (dgN 4) (dIfS (dAnd (dB (d2 (fEq false) (d2 fIx (dVar 4) (dC (.int 0))) (dVar 1))) (dB (d2 (fDin false) (d2 fIx (dVar 4) (dC (.int 2))) (dVar 2)))) (dDput (dVar 2) (d2 fIx (dVar 4) (dC (.int 1))) (dN fMin (dCons (dGetD (dVar 2) (d2 fIx (dVar 4) (dC (.int 1))) (dC (.int 99))) (dCons (d2 fAdd (d2 fGet (dVar 2) (d2 fIx (dVar 4) (dC (.int 2)))) (dC (.int 1))) (dNil))))) (dNext))))
  (dRet (dVar 2)))

theorem rp__law_far : ∀ ts Q, C__law_far ts Q → rd__law_far ⟨FinP Q (.t .non), FinP Q, fun _ => False, fun _ => False⟩ ⟨ts.map (fun t => some (W.t t)) ++ List.replicate (5 - ts.length) none, []⟩ := by
  rintro ts Q ⟨w, p, rfl, hok, hp, hQ⟩
  have h1 := hok.1
  have hpm := hok.2.1 _ (place_mem hp)
  have hpa := place_at (w := w) (i := (p : Int)) (by omega) (by omega)
  obtain ⟨n, hn⟩ := toI (i := w.place p) (by omega)
  unfold rd__law_far Web.t
  walk_at "dl"
  refine i_disp1 ?_
  walk_at "dl"
  refine o_Key rfl ?_
  walk_at "dl"
  refine ⟨by decide, ?_⟩
  walk_at "dl"
  rw [hn]
  refine ⟨by omega, ?_⟩
  have hall : ∀ q : Int, 0 ≤ q → q < w.place p → Reach (w.edges p true) 1 q := fun q h2 h3 => ((hok.2.2.2 p hp).1 q h2 h3).2
  refine forR (List.range n) (fun k => W.t (natT k)) (fun i g' => ∃ (ks : List Int) (F : Int → Int) (o3 o4 : Option W), g' = ⟨[some (.t (.tup [.lst (w.places.map T.int), .lst (w.rows.map Row.t)])), some (.t (.int p)), some (.h 0), o3, o4], [some (dI ks F)]⟩ ∧ FarI w p ks F ∧ ((∀ q, 0 ≤ q → q < w.place p → q ∈ ks) ∨ i + 1 ≤ ks.length))
    (by rw [Int.toNat_natCast, rgW0]; rfl) ⟨[1], fun _ => 0, none, none, rfl, .start (by omega), .inr (by decide)⟩ (fun _ _ _ => trivial) ?_ ?_
  · rintro i x hx g' ⟨ks0, F0, o3, o4, rfl, hF0, hful⟩ N hN
    unfold natT
    walk_at "dl"
    refine forG w.rows (fun r => W.t r.t) (fun pre g' => ∃ (ks : List Int) (F : Int → Int) (o4 : Option W), g' = ⟨[some (.t (.tup [.lst (w.places.map T.int), .lst (w.rows.map Row.t)])), some (.t (.int p)), some (.h 0), some (.t (.int x)), o4], [some (dI ks F)]⟩ ∧ FarI w p ks F ∧ (∀ y ∈ ks0, y ∈ ks) ∧ ∀ r ∈ pre, r.p = p → r.e ∈ ks0 → r.s ∈ ks)
      (by rw [List.map_map]; rfl) ⟨ks0, F0, _, rfl, hF0, fun y h => h, fun r h => by simp at h⟩ (by rintro _ _ ⟨_, _, _, rfl, _⟩; rfl) ?_ ?_
    · rintro pre r post hsp g'' ⟨ks, F, o4', rfl, hF, hsub, hpre⟩ N2 hN2
      have hrm : r ∈ w.rows := by rw [hsp]; simp
      obtain ⟨k, hk, ek⟩ := List.getElem_of_mem hrm
      have ekr : w.row k = r := by
        unfold Web.row
        rw [List.getD_eq_getElem?_getD, List.getElem?_eq_getElem hk, ek]
        rfl
      have hro := hok.2.2.1 r hrm
      unfold Web.rowOk at hro
      have hlen := range_len (n := w.place p) (by omega) hF.nd hF.inr
      unfold dI Row.t
      walk_at "dl"
      refine k_d (fun c1 => ?_) (fun c1 => ?_)
      · walk_at "dl"
        rw [look_is]
        refine k_d (fun c2 => ?_) (fun c2 => ?_)
        · walk_at "dl"
          refine ⟨rfl, ?_⟩
          walk_at "dl"
          have hro2 := hro
          rw [c1] at hro2
          have nx := hF.next (k := k) hk (by rw [ekr]; exact c1) (by rw [ekr]; exact hro.2.2.2.2.2.2.1) (by rw [ekr]; omega) (by rw [ekr]; exact c2)
          rw [ekr] at nx
          have nx2 := nx.resolve_right (by omega)
          have fin : ∀ v, v = minI (if r.s ∈ ks then F r.s else 99) (F r.e + 1) → N2 ⟨[some (.t (.tup [.lst (w.places.map T.int), .lst (w.rows.map Row.t)])), some (.t (.int p)), some (.h 0), some (.t (.int x)), some (.t (.tup [.int r.p, .int r.s, .int r.e, .int r.c]))], [some (dI (ins ks r.s) (updI F r.s v))]⟩ := fun v hv => by
            subst hv
            refine hN2 _ ⟨_, _, _, rfl, nx2, fun y hy => ins_mem.mpr (.inl (hsub y hy)), fun r2 h2 h3 h4 => ?_⟩
            rcases List.mem_append.mp h2 with z | z
            · exact ins_mem.mpr (.inl (hpre r2 z h3 h4))
            · simp at z
              subst z
              exact ins_mem.mpr (.inr rfl)
          have kl : ks.length ≤ 16 := by omega
          by_cases c3 : r.s ∈ ks
          · refine o_getS (k := Sum.inl r.s) rfl rfl (look_in c3) ?_
            walk_at "dl"
            refine i_getI rfl c2 ?_
            walk_at "dl"
            refine o_dput (k := Sum.inl r.s) (ks := ks.map Sum.inl) (us := ks.map fun x => T.int (F x)) rfl rfl (by rw [List.length_map]; exact lineLt (by omega)) ?_
            simp only [G.put, List.set_cons_zero]
            rw [put_dI]
            exact fin _ (by rw [if_pos c3]; rfl)
          · refine o_getN (k := Sum.inl r.s) rfl rfl (by rw [look_dI, if_neg c3]) ?_
            walk_at "dl"
            refine i_getI rfl c2 ?_
            walk_at "dl"
            refine o_dput (k := Sum.inl r.s) (ks := ks.map Sum.inl) (us := ks.map fun x => T.int (F x)) rfl rfl (by rw [List.length_map]; exact lineLt (by omega)) ?_
            simp only [G.put, List.set_cons_zero]
            rw [put_dI]
            exact fin _ (by rw [if_neg c3]; rfl)
        · walk_at "dl"
          refine hN2 _ ⟨_, _, _, rfl, hF, hsub, fun r2 h2 h3 h4 => ?_⟩
          rcases List.mem_append.mp h2 with z | z
          · exact hpre r2 z h3 h4
          · simp at z
            subst z
            exact absurd (hsub _ h4) c2
      · walk_at "dl"
        refine hN2 _ ⟨_, _, _, rfl, hF, hsub, fun r2 h2 h3 h4 => ?_⟩
        rcases List.mem_append.mp h2 with z | z
        · exact hpre r2 z h3 h4
        · simp at z
          subst z
          exact absurd h3 c1
    · rintro g'' ⟨ks, F, o4', rfl, hF, hsub, hpre⟩
      refine hN _ ⟨ks, F, _, _, rfl, hF, ?_⟩
      rcases far_more hall hF0.one hF0.nd hF.nd hsub (fun k hk he => by
        obtain ⟨h2, h3⟩ := mem_rowsOf.mp hk
        exact hpre _ (row_mem h2) h3 he) with h2 | h2
      · exact .inl fun q h3 h4 => hsub q (h2 q h3 h4)
      · rcases hful with h3 | h3
        · exact .inl fun q h4 h5 => hsub q (h3 q h4 h5)
        · exact .inr (by omega)
  · rintro g' ⟨ks, F, o3, o4, rfl, hF, hful⟩
    walk_at "dl"
    have hlen := range_len (n := w.place p) (by omega) hF.nd hF.inr
    have hff : FarF w p ks F := ⟨hF, by
      rcases hful with h3 | h3
      · exact h3
      · rw [List.length_range] at h3
        omega⟩
    exact hQ ks F hff
/-! stacks, the top first -/
abbrev Stk := List (Int × Int)
def stT (ab : Int × Int) : T := .tup [.int ab.1, .int ab.2]
def stL (s : Stk) : List T := s.reverse.map stT
theorem stL_cons (a : Int × Int) (r : Stk) : stL (a :: r) = stL r ++ [stT a] := by unfold stL; rw [List.reverse_cons, List.map_append]; rfl
theorem stL_len (s : Stk) : (stL s).length = s.length := by unfold stL; rw [List.length_map, List.length_reverse]
def popE : Stk → Stk
  | [] => []
  | (p, x) :: r => if x = 1 then popE r else (p, x) :: r
def bhd (w : Web) (k : Nat) (r : Stk) : Stk := popE (if 0 ≤ (w.row k).c then ((w.row k).c, 0) :: ((w.row k).p, (w.row k).e) :: r else ((w.row k).p, (w.row k).e) :: r)
theorem atI_last {α : Type} (ys : List α) (y : α) : atI (ys ++ [y]) (-1) = some y := by
  unfold atI ixN
  rw [List.length_append, List.length_singleton, if_neg (by decide), if_pos (by omega)]
  show (ys ++ [y])[((-1 : Int) + ((ys.length + 1 : Nat) : Int)).toNat]? = some y
  rw [show ((-1 : Int) + ((ys.length + 1 : Nat) : Int)).toNat = ys.length by omega, List.getElem?_append_right (Nat.le_refl _), Nat.sub_self]
  rfl
theorem cut_m1 {α : Type} (xs : List α) (x : α) : DL.cut (xs ++ [x]) none (some (-1)) = xs := by
  unfold DL.cut
  rw [HT.sIx_none, List.drop_zero, List.length_append, List.length_singleton]
  have : HT.sIx (xs.length + 1) (xs.length + 1) (some (-1)) = xs.length := by
    unfold HT.sIx
    simp
    omega
  rw [this, Nat.sub_zero, List.take_left]
theorem cut_hi2 {α : Type} (xs : List α) (k : Nat) : DL.cut xs none (some (k : Int)) = xs.take k := by
  unfold DL.cut
  rw [HT.sIx_none, HT.sIx_nat, List.drop_zero, Nat.sub_zero]
  by_cases h : k ≤ xs.length
  · rw [Nat.min_eq_left h]
  · rw [Nat.min_eq_right (by omega), List.take_length, List.take_of_length_le (by omega)]
theorem lineBig {n : Nat} (h : n ≤ 1000000) : n < sizeLine := Nat.lt_of_le_of_lt h (by rw [sizeLine_eq]; decide)
def C__law_behind : PC := fun ts Q => ∃ (w : Web) (a : Int × Int) (r : Stk) (k : Nat), ts = [w.t, .lst (stL (a :: r)), .int k] ∧ k < w.rows.length ∧ w.rows.length ≤ 1000 ∧ r.length ≤ 1000 ∧ Q (.f (.lt (stL (bhd w k r))))
theorem ln__law_behind : ∀ ts Q, C__law_behind ts Q → ts.length = ["a", "b", "c"].length := by rintro ts Q ⟨_, _, _, _, rfl, _⟩; rfl
theorem popE_last {s : Stk} {p x : Int} {r : Stk} (h : s = (p, x) :: r) (hx : x ≠ 1) : popE s = s := by subst h; unfold popE; rw [if_neg hx]
def rd__law_behind : DSt :=
  dSeq (dAsg (d2 fAddH (dSl (dVar 1) (dNoPart) (dPart (d1 fNeg (dC (.int 1))))) (dLst (dCons (dTup (dCons (d2 fIx (d2 fIx (d2 fIx (dVar 0) (dC (.int 1))) (dVar 2)) (dC (.int 0))) (dCons (d2 fIx (d2 fIx (d2 fIx (dVar 0) (dC (.int 1))) (dVar 2)) (dC (.int 2))) (dNil)))) (dNil)))) (dgN 1))
  (dSeq (dIfS (dB (d2 (fI0 fun i j => .bl (decide (j ≤ i))) (d2 fIx (d2 fIx (d2 fIx (dVar 0) (dC (.int 1))) (dVar 2)) (dC (.int 3))) (dC (.int 0)))) (dDrop (dM fAppend (dVar 1) (dCons (dTup (dCons (d2 fIx (d2 fIx (d2 fIx (dVar 0) (dC (.int 1))) (dVar 2)) (dC (.int 3))) (dCons (dC (.int 0)) (dNil)))) (dNil)))) (dNext))
  (dSeq (dWhile (dAnd (dB (d2 (fI0 fun i j => .bl (decide (j < i))) (dN fLen (dCons (dVar 1) (dNil))) (dC (.int 0)))) (dB (d2 (fEq false) (d2 fIx (d2 fIx (dVar 1) (d1 fNeg (dC (.int 1)))) (dC (.int 1))) (dC (.int 1))))) (dDrop (dM0 fPop (dVar 1))))
  (dRet (dVar 1))))

theorem rp__law_behind : ∀ ts Q, C__law_behind ts Q → rd__law_behind ⟨FinP Q (.t .non), FinP Q, fun _ => False, fun _ => False⟩ ⟨ts.map (fun t => some (W.t t)) ++ List.replicate (3 - ts.length) none, []⟩ := by
  rintro ts Q ⟨w, a, r, k, rfl, hk, hwl, hr, hQ⟩
  unfold rd__law_behind Web.t
  have hrow := row_at hk
  unfold Row.t at hrow
  have hll := stL_len r
  walk_at "dl"
  refine o_cut (us := stL (a :: r)) rfl ?_
  rw [stL_cons, cut_m1]
  walk_at "dl"
  refine ⟨by decide, ?_⟩
  walk_at "dl"
  refine ⟨by decide, ?_⟩
  refine i_addHL (xs := stL r) (ys := [T.tup [.int (w.row k).p, .int (w.row k).e]]) rfl rfl (lineLe (by rw [List.length_singleton]; omega)) ?_
  rw [show stL r ++ [T.tup [.int (w.row k).p, .int (w.row k).e]] = stL (((w.row k).p, (w.row k).e) :: r) by rw [stL_cons]; rfl]
  have loop : ∀ s : Stk, s.length ≤ 2000 → popE s = bhd w k r → ∀ o1 : Option W, whI (dAnd (dB (d2 (fI0 fun i j => .bl (decide (j < i))) (dN fLen (dCons (dVar 1) (dNil))) (dC (.int 0)))) (dB (d2 (fEq false) (d2 fIx (d2 fIx (dVar 1) (d1 fNeg (dC (.int 1)))) (dC (.int 1))) (dC (.int 1))))) (dDrop (dM0 fPop (dVar 1)))
      ⟨[some (.t (.tup [.lst (w.places.map T.int), .lst (w.rows.map Row.t)])), some (.h 0), some (.t (.int k))], [some (.lt (stL s))]⟩ ⟨fun g => dRet (dVar 1) ⟨FinP Q (.t .non), FinP Q, fun _ => False, fun _ => False⟩ g, FinP Q, fun _ => False, fun _ => False⟩ := by
    intro s hs hp o1
    refine ⟨fun n g' => ∃ s : Stk, n = s.length ∧ popE s = bhd w k r ∧ g' = ⟨[some (.t (.tup [.lst (w.places.map T.int), .lst (w.rows.map Row.t)])), some (.h 0), some (.t (.int k))], [some (.lt (stL s))]⟩, ⟨_, s, rfl, hp, rfl⟩, ?_⟩
    rintro n g' ⟨s, rfl, hp, rfl⟩
    match s, hp with
    | [], hp =>
      walk_at "dl"
      refine k_dF (by show ¬ (0 : Int) < ((stL []).length : Nat); decide) ?_
      walk_at "dl"
      have hp' : ([] : Stk) = bhd w k r := hp
      rw [← hp'] at hQ
      exact hQ
    | (p, x) :: s', hp =>
      have e1 : (stL ((p, x) :: s')).length = s'.length + 1 := by rw [stL_len]; rfl
      walk_at "dl"
      rw [e1]
      refine k_dT (by omega) ?_
      have hlast : atI (stL ((p, x) :: s')) (-1) = some (.tup [.int p, .int x]) := by rw [stL_cons]; exact atI_last _ _
      walk_at "dl"
      unfold popE at hp
      by_cases hx : x = 1
      · rw [if_pos hx] at hp
        refine k_dT hx ?_
        walk_at "dl"
        refine ⟨isL_lt rfl, ?_⟩
        refine' i_pop (us := stL ((p, x) :: s')) (x := stT (p, x)) ?eb ?hx ?_
        case eb => rfl
        case hx =>
          rw [stL_cons, List.length_append, List.length_singleton, Nat.add_sub_cancel]
          exact at_last
        simp only [G.put, List.set_cons_zero]
        rw [stL_cons, List.dropLast_concat]
        exact ⟨s'.length, by show s'.length < s'.length + 1; omega, s', rfl, hp, rfl⟩
      · rw [if_neg hx] at hp
        refine k_dF hx ?_
        walk_at "dl"
        rw [← hp] at hQ
        exact hQ
  walk_at "dl"
  refine k_d (fun hc => ?_) (fun hc => ?_)
  · walk_at "dl"
    refine ⟨isL_lt rfl, ?_⟩
    walk_at "dl"
    refine ⟨by decide, ?_⟩
    walk_at "dl"
    refine' i_append (us := stL (((w.row k).p, (w.row k).e) :: r)) ?ea ?la ?_
    case ea => rfl
    case la => exact lineLt (by rw [stL_len, List.length_cons]; omega)
    simp only [G.put, List.set_cons_zero]
    rw [show stL (((w.row k).p, (w.row k).e) :: r) ++ [T.tup [T.int (w.row k).c, T.int 0]] = stL (((w.row k).c, 0) :: ((w.row k).p, (w.row k).e) :: r) from (stL_cons ((w.row k).c, 0) _).symm]
    walk_at "dl"
    exact loop _ (by simp; omega) (by unfold bhd; rw [if_pos hc]) none
  · walk_at "dl"
    exact loop _ (by simp; omega) (by unfold bhd; rw [if_neg hc]) none
/-! generator 2: runs -/
def Fars (w : Web) (fars : List T) (K : Nat → List Int) (F : Nat → Int → Int) : Prop := ∀ q < w.places.length, fars[q]? = some (.dk ((K q).map Sum.inl) ((K q).map fun x => T.int (F q x))) ∧ FarF w q (K q) (F q)
def C__law_leaving : PC := fun ts Q => ∃ (w : Web) (p : Nat) (x : Int) (r : Stk) (short : Bool) (fars : List T) (K : Nat → List Int) (F : Nat → Int → Int), ts = [w.t, .lst (stL (((p : Int), x) :: r)), .bl short, .lst fars] ∧ w.Ok ∧ Fars w fars K F ∧ p < w.places.length ∧ 0 ≤ x ∧ x < w.place p ∧ x ≠ 1 ∧
  ∀ ks : List Nat, ks ≠ [] → ks.length ≤ 60 → (∀ k ∈ ks, k ∈ w.fromP p x ∧ (short = true → F p (w.row k).e < F p x)) → Q (.t (.lst (ks.map natT)))
theorem ln__law_leaving : ∀ ts Q, C__law_leaving ts Q → ts.length = ["a", "b", "c", "d"].length := by rintro ts Q ⟨_, _, _, _, _, _, _, _, rfl, _⟩; rfl
def rd__law_leaving : DSt :=
  dSeq (dAsg (d2 fIx (dVar 1) (d1 fNeg (dC (.int 1)))) (dgTup 2 (dgCons (dgN 4) (dgCons (dgN 5) (dgNil)))))
  (dSeq (dAsg (dLc finT (diR1 (dCons (dN fLen (dCons (d2 fIx (dVar 0) (dC (.int 1))) (dNil))) (dNil))) (dgN 8) (dB (d2 (fEq false) (dSlT (d2 fIx (d2 fIx (dVar 0) (dC (.int 1))) (dVar 8)) (dNoPart) (dPart (dC (.int 2)))) (dTup (dCons (dVar 4) (dCons (dVar 5) (dNil)))))) (dVar 8) [8]) (dgN 6))
  (dSeq (dIfS (dB (dVar 2)) (dSeq (dAsg (dN fMin (dCons (dLc finT (diL (dVar 6)) (dgN 8) (dYes) (d2 fGet (d2 fIx (dVar 3) (dVar 4)) (d2 fIx (d2 fIx (d2 fIx (dVar 0) (dC (.int 1))) (dVar 8)) (dC (.int 2)))) [8]) (dNil))) (dgN 7))
  (dAsg (dSl (dLc finT (diL (dVar 6)) (dgN 8) (dB (d2 (fEq false) (d2 fGet (d2 fIx (dVar 3) (dVar 4)) (d2 fIx (d2 fIx (d2 fIx (dVar 0) (dC (.int 1))) (dVar 8)) (dC (.int 2)))) (dVar 7))) (dVar 8) [8]) (dNoPart) (dPart (dC (.int 1)))) (dgN 6))) (dNext))
  (dRet (dVar 6))))

theorem rp__law_leaving : ∀ ts Q, C__law_leaving ts Q → rd__law_leaving ⟨FinP Q (.t .non), FinP Q, fun _ => False, fun _ => False⟩ ⟨ts.map (fun t => some (W.t t)) ++ List.replicate (9 - ts.length) none, []⟩ := by
  rintro ts Q ⟨w, p, x, r, short, fars, K, F, rfl, hok, hF, hp, hx0, hx1, hx2, hQ⟩
  have h1 := hok.1
  obtain ⟨hfp, hfar⟩ := hF p hp
  have hfpa : atI fars (p : Int) = some (.dk ((K p).map Sum.inl) ((K p).map fun x => T.int (F p x))) := atI_nat hfp
  have hlast : atI (stL (((p : Int), x) :: r)) (-1) = some (.tup [.int p, .int x]) := by rw [stL_cons]; exact atI_last _ _
  obtain ⟨k0, hk0, hk0e, hk0F⟩ := hfar.st x (hfar.full x hx0 hx1) hx2
  unfold rd__law_leaving Web.t
  walk_at "dl"
  rw [List.length_map]
  refine ⟨by omega, ?_⟩
  refine lcP (List.range w.rows.length) (fun k => W.t (natT k)) (fun k => decide ((w.row k).p = p) && decide ((w.row k).s = x)) natT (by rw [Int.toNat_natCast, rgW0]; rfl) (by rw [List.length_range]; exact lineLe (by omega)) trivial ?_ rfl ?_
  · intro k hk Y N2 hY hN2
    have hk' : k < w.rows.length := by simpa using hk
    have hr := row_at hk'
    unfold natT Row.t at *
    walk_at "dl"
    refine o_cutT (by show ¬ (HT.sIx 4 0 none = 0 ∧ HT.sIx 4 4 (some 2) = 4); decide) ?_
    have ec : cut [T.int (w.row k).p, T.int (w.row k).s, T.int (w.row k).e, T.int (w.row k).c] none (some 2) = [T.int (w.row k).p, T.int (w.row k).s] := cut_hi2 _ 2
    rw [ec]
    walk_at "dl"
    refine ⟨by decide, ?_⟩
    refine i_eqT (u := .tup [.int (w.row k).p, .int (w.row k).s]) (v := .tup [.int p, .int x]) rfl rfl rfl rfl ?_
    rw [teq_pair]
    cases e : (decide ((w.row k).p = (p : Int)) && decide ((w.row k).s = x)) with
    | true =>
      walk_at "dl"
      exact hY e _ rfl
    | false =>
      walk_at "dl"
      exact hN2 e _ rfl
  rw [show (List.range w.rows.length).filter (fun k => decide ((w.row k).p = (p : Int)) && decide ((w.row k).s = x)) = w.fromP p x from rfl]
  have hfl := fromP_len w p x
  have hin : ∀ k ∈ w.fromP p x, k < w.rows.length ∧ (w.row k).e ∈ K p := fun k hk => by
    obtain ⟨e1, e2, e3⟩ := mem_fromP.mp hk
    have hro := hok.2.2.1 _ (row_mem e1)
    unfold Web.rowOk at hro
    rw [e2] at hro
    exact ⟨e1, hfar.full _ (by omega) (by omega)⟩
  walk_at "dl"
  cases short with
  | false =>
    walk_at "dl"
    exact hQ _ (fun z => by rw [z] at hk0; simp at hk0) (by omega) fun k hk => ⟨hk, fun z => by cases z⟩
  | true =>
    walk_at "dl"
    refine lcP (w.fromP p x) (fun k => W.t (natT k)) (fun _ => true) (fun k => .int (F p (w.row k).e)) (by rw [List.map_map]; rfl) (lineLe (by omega)) rfl ?_ rfl ?_
    · intro k hk Y N2 hY hN2
      obtain ⟨hk', hke⟩ := hin k hk
      have hr := row_at hk'
      unfold natT Row.t at *
      walk_at "dl"
      refine i_getI rfl hke ?_
      exact hY rfl _ rfl
    rw [List.filter_eq_self.mpr (fun _ _ => rfl), show ((w.fromP p x).map fun k => T.int (F p (w.row k).e)) = ((w.fromP p x).map fun k => F p (w.row k).e).map T.int by rw [List.map_map]; rfl]
    walk_at "dl"
    refine i_min rfl (by rw [List.length_map]; exact List.length_pos_of_mem hk0) fun mn m1 m2 => ?_
    have hmn : mn < F p x := Int.lt_of_le_of_lt (m2 _ (List.mem_map.mpr ⟨k0, hk0, rfl⟩)) hk0F
    walk_at "dl"
    refine lcP (w.fromP p x) (fun k => W.t (natT k)) (fun k => decide (F p (w.row k).e = mn)) natT (by rw [List.map_map]; rfl) (lineLe (by omega)) rfl ?_ rfl ?_
    · intro k hk Y N2 hY hN2
      obtain ⟨hk', hke⟩ := hin k hk
      have hr := row_at hk'
      unfold natT Row.t at *
      walk_at "dl"
      refine i_getI rfl hke ?_
      walk_at "dl"
      refine k_d (fun c => ?_) (fun c => ?_)
      · walk_at "dl"
        exact hY (decide_eq_true c) _ rfl
      · exact hN2 (decide_eq_false c) _ rfl
    walk_at "dl"
    refine o_cut rfl ?_
    have ec : DL.cut (((w.fromP p x).filter fun k => decide (F p (w.row k).e = mn)).map natT) none (some 1) = (((w.fromP p x).filter fun k => decide (F p (w.row k).e = mn)).take 1).map natT := by rw [List.map_take]; exact cut_hi2 _ 1
    rw [ec]
    walk_at "dl"
    obtain ⟨k1, hk1, ek1⟩ := List.mem_map.mp m1
    have hmem : k1 ∈ (w.fromP p x).filter fun k => decide (F p (w.row k).e = mn) := List.mem_filter.mpr ⟨hk1, decide_eq_true ek1⟩
    refine hQ _ (fun z => ?_) (Nat.le_trans (List.length_take_le _ _) (by decide)) fun k hk => ?_
    · cases e : (w.fromP p x).filter fun k => decide (F p (w.row k).e = mn) with
      | nil => rw [e] at hmem; simp at hmem
      | cons a b => rw [e] at z; simp at z
    · obtain ⟨e1, e2⟩ := List.mem_filter.mp (List.mem_of_mem_take hk)
      exact ⟨e1, fun _ => by rw [of_decide_eq_true e2]; exact hmn⟩
/-! what rows leave on the stack -/
def stp (w : Web) : Stk → Int → Option Stk
  | [], _ => none
  | (p, x) :: r, k => if 0 ≤ k ∧ k < w.rows.length ∧ (w.row k.toNat).p = p ∧ (w.row k.toNat).s = x then some (bhd w k.toNat r) else none
def stk (w : Web) (ks : List Int) : Option Stk := ks.foldl (fun o k => o.bind fun s => stp w s k) (some [(0, 0)])
theorem stk_snoc (w : Web) (ks : List Int) (k : Int) : stk w (ks ++ [k]) = (stk w ks).bind fun s => stp w s k := by
  unfold stk
  rw [List.foldl_append]
  rfl
theorem stp_in {w : Web} {p x : Int} {r : Stk} {k : Nat} (h : k ∈ w.fromP p x) : stp w ((p, x) :: r) (k : Int) = some (bhd w k r) := by
  obtain ⟨h1, h2, h3⟩ := mem_fromP.mp h
  show (if 0 ≤ (k : Int) ∧ (k : Int) < w.rows.length ∧ (w.row ((k : Int)).toNat).p = p ∧ (w.row ((k : Int)).toNat).s = x then some (bhd w ((k : Int)).toNat r) else none) = some (bhd w k r)
  rw [Int.toNat_natCast, if_pos ⟨by omega, by omega, h2, h3⟩]
def natI (ks : List Nat) : List Int := ks.map fun k => ((k : Nat) : Int)
structure StkIn (w : Web) (s : Stk) : Prop where
  pw : s.Pairwise fun a b => b.1 < a.1
  inr : ∀ a ∈ s, ∃ p : Nat, a.1 = (p : Int) ∧ p < w.places.length ∧ 0 ≤ a.2 ∧ a.2 < w.place p
structure StkOk (w : Web) (s : Stk) : Prop extends StkIn w s where
  top : ∀ p x r, s = (p, x) :: r → x ≠ 1
theorem StkIn.tail {w : Web} {a : Int × Int} {r : Stk} (h : StkIn w (a :: r)) : StkIn w r := ⟨(List.pairwise_cons.mp h.pw).2, fun b hb => h.inr b (List.mem_cons_of_mem _ hb)⟩
theorem StkIn.popE {w : Web} : ∀ {s : Stk}, StkIn w s → StkOk w (DL.popE s)
  | [], h => ⟨h, fun p x r e => by cases e⟩
  | (p, x) :: r, h => by
    unfold DL.popE
    split
    · exact h.tail.popE
    · rename_i hx
      exact ⟨h, fun p' x' r' e => by cases e; exact hx⟩
theorem StkIn.cons {w : Web} {q : Nat} {x : Int} {r : Stk} (h : StkIn w r) (hlt : ∀ a ∈ r, a.1 < (q : Int)) (hq : q < w.places.length) (h0 : 0 ≤ x) (h1 : x < w.place q) : StkIn w (((q : Int), x) :: r) :=
  ⟨List.pairwise_cons.mpr ⟨hlt, h.pw⟩, fun a ha => by
    rcases List.mem_cons.mp ha with rfl | ha
    · exact ⟨q, rfl, hq, h0, h1⟩
    · exact h.inr a ha⟩
theorem StkOk.next {w : Web} (hok : w.Ok) {p x : Int} {r : Stk} (h : StkOk w ((p, x) :: r)) {k : Nat} (hk : k ∈ w.fromP p x) : StkOk w (bhd w k r) := by
  obtain ⟨h1, h2, h3⟩ := mem_fromP.mp hk
  have hro := hok.2.2.1 _ (row_mem h1)
  unfold Web.rowOk at hro
  obtain ⟨hlt, _⟩ := List.pairwise_cons.mp h.pw
  obtain ⟨q, e1, e2, _⟩ := h.inr (p, x) (by simp)
  rw [h2] at hro
  dsimp only at e1
  subst e1
  have low : StkIn w (((q : Int), (w.row k).e) :: r) := h.toStkIn.tail.cons hlt e2 (by omega) (by omega)
  unfold bhd
  rw [h2]
  split
  · rename_i hc
    obtain ⟨c, hc2⟩ := toI hc
    rw [hc2] at hro ⊢
    have h0 := hok.2.1 _ (place_mem (p := c) (by omega))
    refine (low.cons (q := c) (fun a ha => ?_) (by omega) (Int.le_refl _) (by omega)).popE
    rcases List.mem_cons.mp ha with rfl | ha
    · show (q : Int) < c
      omega
    · have := hlt a ha
      dsimp only at this
      omega
  · exact low.popE
/-! how much there is still to go, on the shortest way -/
def wt (p : Nat) : Nat := if p = 0 then 4096 else if p = 1 then 256 else if p = 2 then 16 else 1
theorem wt_lt {p c : Nat} (h : p < c) (hc : c < 4) : 16 * wt c ≤ wt p := by
  unfold wt
  repeat' split
  all_goals omega
theorem wt_pos (p : Nat) : 0 < wt p := by
  unfold wt
  repeat' split
  all_goals omega
def Mv (F : Nat → Int → Int) : Stk → Nat
  | [] => 0
  | (p, x) :: r => (F p.toNat x).toNat * wt p.toNat + Mv F r
theorem Mv_popE (F : Nat → Int → Int) : ∀ s : Stk, Mv F (popE s) ≤ Mv F s
  | [] => Nat.le_refl _
  | (p, x) :: r => by
    unfold popE
    split
    · show Mv F (popE r) ≤ (F p.toNat x).toNat * wt p.toNat + Mv F r
      exact Nat.le_trans (Mv_popE F r) (Nat.le_add_left _ _)
    · exact Nat.le_refl _
theorem far15 {w : Web} (hok : w.Ok) {q : Nat} (hq : q < w.places.length) {ks : List Int} {F : Int → Int} (h : FarF w q ks F) {x : Int} (h0 : 0 ≤ x) (h1 : x < w.place q) : 0 ≤ F x ∧ F x ≤ 15 := by
  have hm := hok.2.1 _ (place_mem hq)
  have hl := range_len (n := w.place q) (by omega) h.nd h.inr
  have hb := h.bd x (h.full x h0 h1)
  omega
theorem Mv_le {w : Web} (hok : w.Ok) {fars : List T} {K : Nat → List Int} {F : Nat → Int → Int} (hF : Fars w fars K F) : ∀ {s : Stk} {t : Nat}, StkIn w s → t ≤ 3 → (∀ a ∈ s, a.1 ≤ (t : Int)) → Mv F s + wt t ≤ 65536
  | [], t, _, ht, _ => by
    unfold Mv wt
    repeat' split
    all_goals omega
  | (p, x) :: r, t, h, ht, hle => by
    obtain ⟨q, e1, e2, e3, e4⟩ := h.inr (p, x) (by simp)
    dsimp only at e1 e3 e4
    subst e1
    have f := far15 hok e2 (hF q e2).2 e3 e4
    have hqt := hle _ (List.mem_cons_self)
    dsimp only at hqt
    have hlt := (List.pairwise_cons.mp h.pw).1
    have h1 := hok.1
    unfold Mv
    rw [Int.toNat_natCast]
    have hm : (F q x).toNat * wt q ≤ 15 * wt q := Nat.mul_le_mul_right _ (by omega)
    have hwt : wt t ≤ wt q := by
      unfold wt
      repeat' split
      all_goals omega
    match q, hm, hwt, hlt with
    | 0, hm, hwt, hlt =>
      have : r = [] := by
        cases r with
        | nil => rfl
        | cons a r' =>
          have h3 := hlt a (by simp)
          obtain ⟨q', e5, _⟩ := h.tail.inr a (by simp)
          dsimp only at h3
          omega
      subst this
      unfold Mv
      have : wt 0 = 4096 := rfl
      omega
    | q + 1, hm, hwt, hlt =>
      have ih := Mv_le hok hF (t := q) h.tail (by omega) (fun a ha => by
        have := hlt a ha
        dsimp only at this
        omega)
      have w1 := wt_lt (p := q) (c := q + 1) (by omega) (by omega)
      omega
theorem Mv_bound {w : Web} (hok : w.Ok) {fars : List T} {K : Nat → List Int} {F : Nat → Int → Int} (hF : Fars w fars K F) {s : Stk} (h : StkIn w s) : Mv F s ≤ 65535 := by
  have h1 := hok.1
  have := Mv_le hok hF (t := 3) h (by omega) (fun a ha => by
    obtain ⟨q, e1, e2, _⟩ := h.inr a ha
    omega)
  have : wt 3 = 1 := rfl
  omega
theorem Mv_next {w : Web} (hok : w.Ok) {fars : List T} {K : Nat → List Int} {F : Nat → Int → Int} (hF : Fars w fars K F) {q : Nat} {x : Int} {r : Stk} (h : StkIn w (((q : Int), x) :: r)) {k : Nat} (hk : k ∈ w.fromP q x) (hd : F q (w.row k).e < F q x) : Mv F (bhd w k r) < Mv F (((q : Int), x) :: r) := by
  obtain ⟨h1, h2, h3⟩ := mem_fromP.mp hk
  have hro := hok.2.2.1 _ (row_mem h1)
  unfold Web.rowOk at hro
  rw [h2] at hro
  obtain ⟨q', e1, e2, e3, e4⟩ := h.inr ((q : Int), x) (by simp)
  have : q' = q := by dsimp only at e1; omega
  subst this
  have fe := far15 hok e2 (hF q' e2).2 (x := (w.row k).e) (by omega) (by omega)
  dsimp only at e3 e4
  have fx := far15 hok e2 (hF q' e2).2 (x := x) e3 e4
  have ok1 := hok.1
  refine Nat.lt_of_le_of_lt (Mv_popE F _) ?_
  rw [h2]
  have hstep : (F q' (w.row k).e).toNat * wt q' + wt q' ≤ (F q' x).toNat * wt q' := by
    have : (F q' (w.row k).e).toNat + 1 ≤ (F q' x).toNat := by omega
    calc (F q' (w.row k).e).toNat * wt q' + wt q' = ((F q' (w.row k).e).toNat + 1) * wt q' := by rw [Nat.add_mul, Nat.one_mul]
      _ ≤ _ := Nat.mul_le_mul_right _ this
  have wp := wt_pos q'
  split
  · rename_i hc
    obtain ⟨c, hc2⟩ := toI hc
    rw [hc2] at hro ⊢
    have h0 := hok.2.1 _ (place_mem (p := c) (by omega))
    have fc := far15 hok (q := c) (by omega) (hF c (by omega)).2 (x := 0) (Int.le_refl _) (by omega)
    show (F ((c : Int)).toNat 0).toNat * wt ((c : Int)).toNat + ((F ((q' : Int)).toNat (w.row k).e).toNat * wt ((q' : Int)).toNat + Mv F r) < (F ((q' : Int)).toNat x).toNat * wt ((q' : Int)).toNat + Mv F r
    rw [Int.toNat_natCast, Int.toNat_natCast]
    have w1 := wt_lt (p := q') (c := c) (by omega) (by omega)
    have hm : (F c 0).toNat * wt c ≤ 15 * wt c := Nat.mul_le_mul_right _ (by omega)
    have wc := wt_pos c
    omega
  · show ((F ((q' : Int)).toNat (w.row k).e).toNat * wt ((q' : Int)).toNat + Mv F r) < (F ((q' : Int)).toNat x).toNat * wt ((q' : Int)).toNat + Mv F r
    rw [Int.toNat_natCast]
    omega
/-! _law_run -/
theorem lcR {g1 : G} {gt : DGt} {te : Dt} {vs : List Nat} {fin : Fin3} {Q : W → G → Prop} {ws : List W} {St : G → Prop} {ι : Type} (items : List ι) (enc : ι → W) (P : ι → T → Prop) (hws : ws = items.map enc) (hlen : items.length ≤ sizeLine) (hSt : St (g1.wipe vs))
    (hel : ∀ x ∈ items, ∀ Y : W → G → Prop, (∀ u, P x u → ∀ g4, g4.wipe vs = g1.wipe vs → Y (.t u) g4) → gt (enc x) (g1.wipe vs) fun g2 => te g2 Y)
    (hQ : ∀ us : List T, us.length = items.length → (∀ (i : Nat) (x : ι) (u : T), items[i]? = some x → us[i]? = some u → P x u) → fin (us.map W.t) ((g1.wipe vs).rs g1 vs) Q) : lcI fin ws St g1 gt dYes te vs Q := by
  subst hws
  refine ⟨fun i acc g' => g' = g1.wipe vs ∧ ∃ us : List T, acc = us.map W.t ∧ us.length = i ∧ ∀ (j : Nat) (x : ι) (u : T), items[j]? = some x → us[j]? = some u → P x u, ⟨rfl, [], rfl, rfl, fun j x u _ h => by simp at h⟩, ?_, ?_, by simpa using hlen, ?_⟩
  · rintro i acc g' ⟨rfl, us, rfl, hl, _⟩
    exact ⟨hSt, by rw [List.length_map]; omega⟩
  · rintro i acc w g' hw ⟨rfl, us, rfl, hl, hP⟩
    rw [List.getElem?_map] at hw
    cases e : items[i]? with
    | none => rw [e] at hw; cases hw
    | some x =>
      rw [e] at hw
      cases hw
      refine hel x (List.mem_of_getElem? e) _ fun u hu g4 h4 => ⟨h4, us ++ [u], by rw [List.map_append]; rfl, by rw [List.length_append, List.length_singleton, hl], fun j y v hy hv => ?_⟩
      rcases Nat.lt_or_ge j us.length with q | q
      · rw [List.getElem?_append_left q] at hv
        exact hP j y v hy hv
      · rw [List.getElem?_append_right q] at hv
        rcases Nat.eq_or_lt_of_le q with q2 | q2
        · rw [← q2, Nat.sub_self] at hv
          cases hv
          rw [← q2, hl, e] at hy
          cases hy
          exact hu
        · rw [List.getElem?_eq_none (by simp; omega)] at hv
          cases hv
  · rintro acc g' ⟨rfl, us, rfl, hl, hP⟩
    exact hQ us (by rw [hl, List.length_map]) hP
theorem stk_len {w : Web} : ∀ {s : Stk} {t : Nat}, StkIn w s → (∀ a ∈ s, a.1 < (t : Int)) → s.length ≤ t
  | [], t, _, _ => Nat.zero_le _
  | (p, x) :: r, t, h, hlt => by
    obtain ⟨q, e1, _⟩ := h.inr (p, x) (by simp)
    have h1 := hlt (p, x) (by simp)
    have h2 := (List.pairwise_cons.mp h.pw).1
    dsimp only at e1 h1
    have := stk_len (t := q) h.tail fun a ha => by
      have := h2 a ha
      dsimp only at this
      omega
    rw [List.length_cons]
    omega
def C__law_run : SC := fun ws m QC => ∃ (w : Web) (a f : Int) (k most : Nat), ws = [.t w.t, .h 0, .t (.int most)] ∧ m = [leftC a f k] ∧ LeftOk a f ∧ k ≤ 1000 ∧ w.Ok ∧ most ≤ 1000 ∧
  ∀ (ks : List Nat) (a' : Int) (k' : Nat), stk w (natI ks) = some [] → ks.length ≤ 70000 → (∀ k ∈ ks, k < w.rows.length) → LeftOk a' f → QC (.h 1) [leftC a' f k'] [.lt (ks.map natT)]
theorem ln__law_run : ∀ ws m Q, C__law_run ws m Q → ws.length = ["a", "b", "c"].length := by rintro ws m Q ⟨_, _, _, _, _, rfl, _⟩; rfl
def rd__law_run : DSt :=
  dSeq (dAsg (dLc finT (diR1 (dCons (dN fLen (dCons (d2 fIx (dVar 0) (dC (.int 0))) (dNil))) (dNil))) (dgN 7) (dYes) (dCallT C__law_far (dCons (dVar 0) (dCons (dVar 7) (dNil)))) [7]) (dgN 3))
  (dSeq (dAsg (dLstH (dNil)) (dgN 4))
  (dSeq (dAsg (dLst (dCons (dTup (dCons (dC (.int 0)) (dCons (dC (.int 0)) (dNil)))) (dNil))) (dgN 5))
  (dSeq (dWhile (dB (d2 (fI0 fun i j => .bl (decide (j < i))) (dN fLen (dCons (dVar 5) (dNil))) (dC (.int 0)))) (dSeq (dAsg (dCallT C__law_leaving (dCons (dVar 0) (dCons (dVar 5) (dCons (d2 (fI0 fun i j => .bl (decide (j ≤ i))) (dN fLen (dCons (dVar 4) (dNil))) (dVar 2)) (dCons (dVar 3) (dNil)))))) (dgN 6))
  (dSeq (dDrop (dM fAppend (dVar 4) (dCons (d2 fIx (dVar 6) (dCallS C__law_draw (dCons (dVar 1) (dCons (dN fLen (dCons (dVar 6) (dNil))) (dNil))))) (dNil))))
  (dAsg (dCallT C__law_behind (dCons (dVar 0) (dCons (dVar 5) (dCons (d2 fIx (dVar 4) (d1 fNeg (dC (.int 1)))) (dNil))))) (dgN 5)))))
  (dRet (dVar 4)))))

theorem rp__law_run : ∀ ws m QC, C__law_run ws m QC → rd__law_run ⟨FinS m.length QC (.t .non), FinS m.length QC, fun _ => False, fun _ => False⟩ ⟨ws.map some ++ List.replicate (8 - ws.length) none, m.map some⟩ := by
  rintro ws m QC ⟨w, a, f, k, most, rfl, rfl, hL, hk, hok, hmost, hQ⟩
  have h1 := hok.1
  unfold rd__law_run Web.t
  walk_at "dl"
  rw [List.length_map]
  refine ⟨by omega, ?_⟩
  refine lcR (List.range w.places.length) (fun k => W.t (natT k)) (fun q u => ∃ ks F, u = .dk (ks.map Sum.inl) (ks.map fun x => T.int (F x)) ∧ FarF w q ks F) (by rw [Int.toNat_natCast, rgW0]; rfl) (by rw [List.length_range]; exact lineLe (by omega)) trivial ?_ fun fars hfl hfars => ?_
  · intro q hq Y hY
    have hq' : q < w.places.length := by simpa using hq
    unfold natT
    walk_at "dl"
    refine ⟨w, q, rfl, hok, hq', fun ks F hF => ?_⟩
    exact hY _ ⟨ks, F, rfl, hF⟩ _ rfl
  have hfars' : ∀ q : Nat, ∃ kf : List Int × (Int → Int), q < w.places.length → fars[q]? = some (.dk (kf.1.map Sum.inl) (kf.1.map fun x => T.int (kf.2 x))) ∧ FarF w q kf.1 kf.2 := fun q => by
    by_cases hq : q < w.places.length
    · obtain ⟨u, hu⟩ := getLt (xs := fars) (j := q) (by rw [hfl, List.length_range]; exact hq)
      obtain ⟨ks, F, rfl, hF⟩ := hfars q q u (List.getElem?_range hq) hu
      exact ⟨(ks, F), fun _ => ⟨hu, hF⟩⟩
    · exact ⟨([], fun _ => 0), fun z => absurd z hq⟩
  obtain ⟨KF, hKF⟩ := Classical.axiomOfChoice hfars'
  have hF : Fars w fars (fun q => (KF q).1) (fun q => (KF q).2) := fun q hq => hKF q hq
  generalize (fun q => (KF q).1) = K at hF
  generalize (fun q => (KF q).2) = F at hF
  walk_at "dl"
  refine ⟨by decide, ?_⟩
  walk_at "dl"
  refine ⟨by decide, ?_⟩
  walk_at "dl"
  refine ⟨by decide, ?_⟩
  walk_at "dl"
  have s0 : StkOk w [(0, 0)] := by
    have hm := hok.2.1 _ (place_mem (w := w) (p := 0) (by omega))
    refine ⟨⟨by simp, fun a ha => ?_⟩, fun p x r e => by cases e; decide⟩
    simp at ha
    subst ha
    exact ⟨0, rfl, by omega, Int.le_refl _, by show (0 : Int) < w.place 0; have : w.place ((0 : Nat) : Int) = w.place 0 := rfl; omega⟩
  refine ⟨fun n g' => ∃ (ks : List Nat) (s : Stk) (a' : Int) (k' : Nat) (o6 o7 : Option W), g' = ⟨[some (.t (.tup [.lst (w.places.map T.int), .lst (w.rows.map Row.t)])), some (.h 0), some (.t (.int most)), some (.t (.lst fars)), some (.h 1), some (.t (.lst (stL s))), o6, o7], [some (leftC a' f k'), some (.lt (ks.map natT))]⟩ ∧
    n = (most - ks.length) * 70000 + Mv F s ∧ stk w (natI ks) = some s ∧ StkOk w s ∧ LeftOk a' f ∧ k' = k + ks.length ∧ ks.length + Mv F s ≤ most + 65535 ∧ ∀ k ∈ ks, k < w.rows.length,
    ⟨_, [], [(0, 0)], a, k, none, none, rfl, rfl, rfl, s0, hL, rfl, by have := Mv_bound hok hF s0.toStkIn; simp; omega, fun k h => by simp at h⟩, ?_⟩
  rintro n g' ⟨ks, s, a', k', o6, o7, rfl, rfl, hst, hs, hL', rfl, hbd, hks⟩
  walk_at "dl"
  rw [stL_len]
  match s, hst, hs, hbd with
  | [], hst, hs, hbd =>
    refine k_dF (by decide) ?_
    walk_at "dl"
    have q := hQ ks a' (k + ks.length) hst (by omega) hks hL'
    refine fin_s [1] [leftC a' f ((k + ks.length : Nat) : Int)] [.lt (ks.map natT)] (.h 1) (by decide) ?_ rfl rfl rfl ?_ q
    · intro j hj
      have : j = 0 ∨ j = 1 := by simpa using hj
      show j < 2
      omega
    · intro i c' e
      match i, e with
      | 0, e => cases e; exact ⟨0, _, rfl, rfl, rfl⟩
      | 1, e => cases e; exact ⟨1, _, rfl, up_plain rfl _, rfl⟩
      | i + 2, e => simp at e
  | (p, x) :: r, hst, hs, hbd =>
    refine k_dT (by simp) ?_
    obtain ⟨q, e1, e2, e3, e4⟩ := hs.inr (p, x) (by simp)
    dsimp only at e1 e3 e4
    subst e1
    have hx1 := hs.top _ _ _ rfl
    walk_at "dl"
    rw [List.length_map]
    refine ⟨w, q, x, r, _, fars, K, F, rfl, hok, hF, e2, e3, e4, hx1, fun ls hne hll hls => ?_⟩
    walk_at "dl"
    refine ⟨isL_lt rfl, ?_⟩
    walk_at "dl"
    rw [List.length_map]
    have hlp : 0 < ls.length := List.length_pos_iff.mpr hne
    refine callS_draw0 hL' (by omega) (by omega) (by omega) fun j a2 j0 j1 hL2 => ?_
    obtain ⟨j, rfl⟩ := toI j0
    obtain ⟨l, hl⟩ := getLt (xs := ls) (j := j) (by omega)
    have hla : atI (ls.map natT) (j : Int) = some (natT l) := atI_map natT (atI_nat hl)
    obtain ⟨hlf, hlF⟩ := hls l (List.mem_of_getElem? hl)
    obtain ⟨l1, _, _⟩ := mem_fromP.mp hlf
    walk_at "dl"
    refine' i_append (us := ks.map natT) ?ea ?la ?_
    case ea => rfl
    case la => exact lineBig (by rw [List.length_map]; omega)
    simp only [G.put, List.set_cons_succ, List.set_cons_zero]
    rw [show ks.map natT ++ [natT l] = (ks ++ [l]).map natT by rw [List.map_append]; rfl]
    have hlast : atI ((ks ++ [l]).map natT) (-1) = some (.int l) := by rw [List.map_append]; exact atI_last _ _
    walk_at "dl"
    have hrl : r.length ≤ 1000 := by
      have := stk_len hs.toStkIn (t := 4) (fun a ha => by
        obtain ⟨q', e5, e6, _⟩ := hs.inr a ha
        omega)
      rw [List.length_cons] at this
      omega
    refine ⟨w, ((q : Int), x), r, l, rfl, l1, by omega, hrl, ?_⟩
    walk_at "dl"
    have hnx : stk w (natI (ks ++ [l])) = some (bhd w l r) := by
      rw [show natI (ks ++ [l]) = natI ks ++ [(l : Int)] by unfold natI; rw [List.map_append]; rfl, stk_snoc, hst]
      exact stp_in hlf
    have hs2 := hs.next hok hlf
    have hM2 := Mv_bound hok hF hs2.toStkIn
    have hlen : (ks ++ [l]).length = ks.length + 1 := by rw [List.length_append, List.length_singleton]
    have hdec : most ≤ ks.length → Mv F (bhd w l r) < Mv F (((q : Int), x) :: r) := fun hm => Mv_next hok hF hs.toStkIn hlf (hlF (decide_eq_true (by omega)))
    refine ⟨(most - (ks ++ [l]).length) * 70000 + Mv F (bhd w l r), ?_, ks ++ [l], bhd w l r, a2, _, _, _, rfl, rfl, hnx, hs2, hL2, by rw [hlen]; omega, ?_, fun y hy => ?_⟩
    · rw [hlen]
      by_cases hm : most ≤ ks.length
      · have := hdec hm
        have e0 : most - (ks.length + 1) = 0 := by omega
        have e00 : most - ks.length = 0 := by omega
        rw [e0, e00]
        omega
      · have : most - ks.length = (most - (ks.length + 1)) + 1 := by omega
        rw [this, Nat.add_mul]
        omega
    · rw [hlen]
      by_cases hm : most ≤ ks.length
      · have := hdec hm
        omega
      · omega
    · rcases List.mem_append.mp hy with z | z
      · exact hks y z
      · simp at z
        subst z
        exact l1
/-! what the program says of runs -/
theorem sh_stL (n : Nat) (s : Stk) : (T.lst (stL s)).sh (n + 2) = true := by
  show (stL s).all (T.sh (n + 1)) = true
  rw [List.all_eq_true]
  intro t ht
  obtain ⟨a, _, rfl⟩ := List.mem_map.mp ht
  simp [stT, T.sh]
theorem teq_nonL (xs : List T) : teq .non (.lst xs) = false := by
  unfold teq
  simp [T.pd, PyData.eqv]
theorem teq_nilD (xs : List T) : teq (.lst xs) (.lst []) = decide (xs = []) := by
  unfold teq
  cases xs <;> simp [T.pd, PyData.eqv, PyData.eqvAll]
theorem teq_stL (s : Stk) : teq (.lst (stL s)) (.lst []) = decide (s = []) := by
  rw [teq_nilD]
  cases s with
  | nil => rfl
  | cons a r =>
    rw [stL_cons]
    simp
theorem stk_none {w : Web} : ∀ {as bs : List Int}, stk w as = none → stk w (as ++ bs) = none := by
  intro as bs h
  unfold stk at *
  rw [List.foldl_append, h]
  clear h
  induction bs with
  | nil => rfl
  | cons b bs ih => exact ih
theorem stp_ok {w : Web} (hok : w.Ok) {s s' : Stk} {k : Int} (h : StkOk w s) (e : stp w s k = some s') : StkOk w s' := by
  match s with
  | [] => cases e
  | (p, x) :: r =>
    by_cases hc : 0 ≤ k ∧ k < w.rows.length ∧ (w.row k.toNat).p = p ∧ (w.row k.toNat).s = x
    · have e2 : stp w ((p, x) :: r) k = some (bhd w k.toNat r) := if_pos hc
      rw [e2] at e
      cases e
      exact h.next hok (mem_fromP.mpr ⟨by omega, hc.2.2.1, hc.2.2.2⟩)
    · have e2 : stp w ((p, x) :: r) k = none := if_neg hc
      rw [e2] at e
      cases e
theorem stk0 {w : Web} (hok : w.Ok) : StkOk w [(0, 0)] := by
  have h1 := hok.1
  have hm := hok.2.1 _ (place_mem (w := w) (p := 0) (by omega))
  refine ⟨⟨by simp, fun a ha => ?_⟩, fun p x r e => by cases e; decide⟩
  simp at ha
  subst ha
  exact ⟨0, rfl, by omega, Int.le_refl _, by show (0 : Int) < w.place 0; have : w.place ((0 : Nat) : Int) = w.place 0 := rfl; omega⟩
theorem StkOk.len {w : Web} (hok : w.Ok) {s : Stk} (h : StkOk w s) : s.length ≤ 4 := stk_len h.toStkIn (t := 4) (fun a ha => by
  have h1 := hok.1
  obtain ⟨q', e5, e6, _⟩ := h.inr a ha
  omega)
/-! counts of heaps -/
def incA (xs : List Int) (j : Nat) : List Int := xs.set j (xs.getD j 0 + 1)
theorem incA_len (xs : List Int) (j : Nat) : (incA xs j).length = xs.length := by unfold incA; rw [List.length_set]
def tly1 (w : Web) (xs : List Int) (k : Int) : List Int := if 0 ≤ (w.row k.toNat).c then incA (incA xs k.toNat) (w.rows.length + (w.row k.toNat).c.toNat) else incA xs k.toNat
theorem tly1_len (w : Web) (xs : List Int) (k : Int) : (tly1 w xs k).length = xs.length := by
  unfold tly1
  split
  · rw [incA_len, incA_len]
  · rw [incA_len]
def tlyR (w : Web) (xs : List Int) (ks : List Int) : List Int := ks.foldl (tly1 w) (incA xs w.rows.length)
def tlyS (w : Web) (o : Option (List Int)) (r : List Int) : Option (List Int) := o.bind fun xs => if stk w r = some [] then some (tlyR w xs r) else none
def tally (w : Web) (heap : List (List Int)) : Option (List Int) := heap.foldl (tlyS w) (some (List.replicate (w.rows.length + w.places.length) 0))
theorem tally_snoc (w : Web) (h : List (List Int)) (r : List Int) : tally w (h ++ [r]) = tlyS w (tally w h) r := by
  unfold tally
  rw [List.foldl_append]
  rfl
theorem tally_none {w : Web} : ∀ {as bs : List (List Int)}, tally w as = none → tally w (as ++ bs) = none := by
  intro as bs h
  unfold tally at *
  rw [List.foldl_append, h]
  clear h
  induction bs with
  | nil => rfl
  | cons b bs ih => exact ih
def runT (r : List Int) : T := .lst (r.map T.int)
def hT (heap : List (List Int)) : T := .lst (heap.map runT)
structure HpOk (heap : List (List Int)) : Prop where
  len : heap.length ≤ 100000
  runs : ∀ r ∈ heap, r.length ≤ 1000000
/-- a run's rows are the web's -/
theorem stk_rng {w : Web} : ∀ {ks : List Int} {s : Stk}, stk w ks = some s → ∀ k ∈ ks, 0 ≤ k ∧ k < w.rows.length := by
  intro ks
  have key : ∀ (bs as : List Int), (∀ s, stk w as = some s → ∀ k ∈ as, 0 ≤ k ∧ k < w.rows.length) → ∀ s, stk w (as ++ bs) = some s → ∀ k ∈ as ++ bs, 0 ≤ k ∧ k < w.rows.length := by
    intro bs
    induction bs with
    | nil => intro as h s e; rw [List.append_nil] at e ⊢; exact h s e
    | cons b bs ih =>
      intro as h s e
      rw [show as ++ b :: bs = (as ++ [b]) ++ bs by simp] at e ⊢
      refine ih (as ++ [b]) (fun s2 e2 => ?_) s e
      rw [stk_snoc] at e2
      cases e3 : stk w as with
      | none => rw [e3] at e2; cases e2
      | some s3 =>
        rw [e3] at e2
        have e4 : stp w s3 b = some s2 := e2
        intro k hk
        rcases List.mem_append.mp hk with hk | hk
        · exact h s3 e3 k hk
        · have : k = b := by simpa using hk
          subst this
          match s3, e4 with
          | (p, x) :: r, e4 =>
            by_cases hc : 0 ≤ k ∧ k < w.rows.length ∧ (w.row k.toNat).p = p ∧ (w.row k.toNat).s = x
            · exact ⟨hc.1, hc.2.1⟩
            · have e5 : stp w ((p, x) :: r) k = none := if_neg hc
              rw [e5] at e4
              cases e4
  intro s e
  exact key ks [] (fun s _ k hk => by simp at hk) s e
/-! what is left on a law's own stack (stands in Sk03 too: never join both) -/
theorem pop_while {i : Nat} {sl : List (Option W)} {n : Nat} {D : De} {s : Stk} {mem : Sto} (es : sl[i]? = some (some (.h n))) (em : mem[n]? = some (some (.lt (stL s)))) (h : D.nx ⟨sl, mem.set n (some (.lt (stL (popE s))))⟩) :
    whI (dAnd (dB (d2 (fI0 fun i j => .bl (decide (j < i))) (dN fLen (dCons (dVar i) (dNil))) (dC (.int 0)))) (dB (d2 (fEq false) (d2 fIx (d2 fIx (dVar i) (d1 fNeg (dC (.int 1)))) (dC (.int 1))) (dC (.int 1))))) (dDrop (dM0 fPop (dVar i))) ⟨sl, mem⟩ D := by
  have hn := (List.getElem?_eq_some_iff.mp em).1
  refine ⟨fun m g' => ∃ s' : Stk, m = s'.length ∧ popE s' = popE s ∧ g' = ⟨sl, mem.set n (some (.lt (stL s')))⟩, ⟨_, s, rfl, rfl, by rw [set_same em]⟩, ?_⟩
  rintro m g' ⟨s', rfl, hp, rfl⟩
  have e2 : (mem.set n (some (Cell.lt (stL s'))))[n]? = some (some (.lt (stL s'))) := List.getElem?_set_self hn
  match s', hp, e2 with
  | [], hp, e2 =>
    walk_at "dl"
    refine i_var es ?_
    walk_at "dl"
    refine k_dF (by decide) ?_
    walk_at "dl"
    have hp' : ([] : Stk) = popE s := hp
    rw [hp']
    exact h
  | (p, x) :: r, hp, e2 =>
    have hlast : atI (stL ((p, x) :: r)) (-1) = some (.tup [.int p, .int x]) := by rw [stL_cons]; exact atI_last _ _
    walk_at "dl"
    refine i_var es ?_
    walk_at "dl"
    rw [stL_len]
    refine k_dT (by simp) ?_
    walk_at "dl"
    refine i_var es ?_
    walk_at "dl"
    by_cases hx : x = 1
    · refine k_dT hx ?_
      walk_at "dl"
      refine i_var es ?_
      walk_at "dl"
      refine ⟨isL_lt e2, ?_⟩
      refine i_pop (x := stT (p, x)) e2 (by rw [stL_cons, List.length_append, List.length_singleton, Nat.add_sub_cancel]; exact at_last) ?_
      simp only [G.put]
      rw [stL_cons, List.dropLast_concat, List.set_set]
      refine ⟨r.length, by simp, r, rfl, ?_, rfl⟩
      rw [← hp]
      show popE r = (if x = 1 then popE r else (p, x) :: r)
      rw [if_pos hx]
    · refine k_dF hx ?_
      have hpx : popE ((p, x) :: r) = (p, x) :: r := popE_last rfl hx
      walk_at "dl"
      rw [← hp, hpx] at h
      exact h
def C__law_stack : PC := fun ts Q => ∃ (w : Web) (ks : List Int), ts = [w.t, .lst (ks.map T.int)] ∧ w.Ok ∧ ks.length ≤ 1000000 ∧ (stk w ks = none → Q (.t .non)) ∧ ∀ s, stk w ks = some s → Q (.f (.lt (stL s)))
theorem ln__law_stack : ∀ ts Q, C__law_stack ts Q → ts.length = ["a", "b"].length := by rintro ts Q ⟨_, _, rfl, _⟩; rfl
def rd__law_stack : DSt :=
  dSeq (dAsg (dLstH (dCons (dTup (dCons (dC (.int 0)) (dCons (dC (.int 0)) (dNil)))) (dNil))) (dgN 2))
  (dSeq (dFor (diL (dVar 1)) (dgN 3) (dSeq (dIfS (dOr (dB (d2 (fEq false) (dN fLen (dCons (dVar 2) (dNil))) (dC (.int 0)))) (dOr (dB (d2 (fI0 fun i j => .bl (decide (i < j))) (dVar 3) (dC (.int 0)))) (dOr (dB (d2 (fI0 fun i j => .bl (decide (j ≤ i))) (dVar 3) (dN fLen (dCons (d2 fIx (dVar 0) (dC (.int 1))) (dNil))))) (dB (d2 (fEq true) (dSlT (d2 fIx (d2 fIx (dVar 0) (dC (.int 1))) (dVar 3)) (dNoPart) (dPart (dC (.int 2)))) (d2 fIx (dVar 2) (d1 fNeg (dC (.int 1))))))))) (dRet (dC .non)) (dNext))
  (dSeq (dAsg (d2 fAddH (dSl (dVar 2) (dNoPart) (dPart (d1 fNeg (dC (.int 1))))) (dLst (dCons (dTup (dCons (d2 fIx (d2 fIx (d2 fIx (dVar 0) (dC (.int 1))) (dVar 3)) (dC (.int 0))) (dCons (d2 fIx (d2 fIx (d2 fIx (dVar 0) (dC (.int 1))) (dVar 3)) (dC (.int 2))) (dNil)))) (dNil)))) (dgN 2))
  (dSeq (dIfS (dB (d2 (fI0 fun i j => .bl (decide (j ≤ i))) (d2 fIx (d2 fIx (d2 fIx (dVar 0) (dC (.int 1))) (dVar 3)) (dC (.int 3))) (dC (.int 0)))) (dDrop (dM fAppend (dVar 2) (dCons (dTup (dCons (d2 fIx (d2 fIx (d2 fIx (dVar 0) (dC (.int 1))) (dVar 3)) (dC (.int 3))) (dCons (dC (.int 0)) (dNil)))) (dNil)))) (dNext))
  (dWhile (dAnd (dB (d2 (fI0 fun i j => .bl (decide (j < i))) (dN fLen (dCons (dVar 2) (dNil))) (dC (.int 0)))) (dB (d2 (fEq false) (d2 fIx (d2 fIx (dVar 2) (d1 fNeg (dC (.int 1)))) (dC (.int 1))) (dC (.int 1))))) (dDrop (dM0 fPop (dVar 2))))))))
  (dRet (dVar 2)))

theorem rp__law_stack : ∀ ts Q, C__law_stack ts Q → rd__law_stack ⟨FinP Q (.t .non), FinP Q, fun _ => False, fun _ => False⟩ ⟨ts.map (fun t => some (W.t t)) ++ List.replicate (4 - ts.length) none, []⟩ := by
  rintro ts Q ⟨w, ks, rfl, hok, hl, hN, hS⟩
  have h1 := hok.1
  unfold rd__law_stack Web.t
  walk_at "dl"
  refine ⟨by decide, ?_⟩
  walk_at "dl"
  refine ⟨by decide, ?_⟩
  walk_at "dl"
  refine forG ks (fun x => W.t (.int x)) (fun pre g' => ∃ (s : Stk) (n : Nat) (mem : Sto) (o3 : Option W), g' = ⟨[some (.t (.tup [.lst (w.places.map T.int), .lst (w.rows.map Row.t)])), some (.t (.lst (ks.map T.int))), some (.h n), o3], mem⟩ ∧ mem[n]? = some (some (.lt (stL s))) ∧ stk w pre = some s ∧ StkOk w s)
    (by rw [List.map_map]; rfl) ⟨[(0, 0)], 0, _, _, rfl, rfl, rfl, stk0 hok⟩ (by rintro _ _ ⟨_, _, _, _, rfl, _⟩; rfl) ?_ ?_
  · rintro pre x post hsp g' ⟨s, n, mem, o3, rfl, em, hst, hs⟩ N hN2
    have hnx : stk w (pre ++ [x]) = stp w s x := by rw [stk_snoc, hst]; rfl
    have hlen := hs.len hok
    have bad : stp w s x = none → Q (.t .non) := fun e => hN (by
      rw [hsp, show pre ++ x :: post = (pre ++ [x]) ++ post by simp]
      exact stk_none (by rw [hnx]; exact e))
    walk_at "dl"
    rw [stL_len]
    match s, em, hst, hs, hlen, hnx, bad with
    | [], em, hst, hs, hlen, hnx, bad =>
      refine k_dT rfl ?_
      walk_at "dl"
      exact bad rfl
    | (p, y) :: r, em, hst, hs, hlen, hnx, bad =>
      have yes : 0 ≤ x ∧ x < w.rows.length ∧ (w.row x.toNat).p = p ∧ (w.row x.toNat).s = y → stp w ((p, y) :: r) x = some (bhd w x.toNat r) := fun hc => if_pos hc
      have no : ¬ (0 ≤ x ∧ x < w.rows.length ∧ (w.row x.toNat).p = p ∧ (w.row x.toNat).s = y) → stp w ((p, y) :: r) x = none := fun hc => if_neg hc
      refine k_dF (by simp; omega) ?_
      walk_at "dl"
      refine k_d (fun c1 => ?_) (fun c1 => ?_)
      · walk_at "dl"
        exact bad (no (by omega))
      walk_at "dl"
      rw [List.length_map]
      refine k_d (fun c2 => ?_) (fun c2 => ?_)
      · walk_at "dl"
        exact bad (no (by omega))
      obtain ⟨k, rfl⟩ := toI (i := x) (by omega)
      rw [Int.toNat_natCast] at yes no
      have hrow := row_at (w := w) (k := k) (by omega)
      unfold Row.t at hrow
      have hlast : atI (stL ((p, y) :: r)) (-1) = some (.tup [.int p, .int y]) := by rw [stL_cons]; exact atI_last _ _
      walk_at "dl"
      refine o_cutT (by show ¬ (HT.sIx 4 0 none = 0 ∧ HT.sIx 4 4 (some 2) = 4); decide) ?_
      have ec : cut [T.int (w.row k).p, T.int (w.row k).s, T.int (w.row k).e, T.int (w.row k).c] none (some 2) = [T.int (w.row k).p, T.int (w.row k).s] := cut_hi2 _ 2
      rw [ec]
      walk_at "dl"
      refine i_neT (u := .tup [.int (w.row k).p, .int (w.row k).s]) (v := .tup [.int p, .int y]) rfl rfl rfl rfl ?_
      rw [teq_pair]
      by_cases c3 : (w.row k).p = p ∧ (w.row k).s = y
      · rw [decide_eq_true c3.1, decide_eq_true c3.2]
        walk_at "dl"
        refine k_F ?_
        walk_at "dl"
        refine o_cut (us := stL ((p, y) :: r)) (lq_h em) ?_
        rw [stL_cons, cut_m1]
        walk_at "dl"
        refine ⟨by decide, ?_⟩
        walk_at "dl"
        refine ⟨by decide, ?_⟩
        refine i_addHL (xs := stL r) (ys := [T.tup [.int (w.row k).p, .int (w.row k).e]]) rfl rfl (lineLe (by rw [List.length_singleton, stL_len]; simp at hlen; omega)) ?_
        rw [show stL r ++ [T.tup [.int (w.row k).p, .int (w.row k).e]] = stL (((w.row k).p, (w.row k).e) :: r) by rw [stL_cons]; rfl]
        have hy := yes ⟨by omega, by omega, c3.1, c3.2⟩
        have el : (mem ++ [some (Cell.lt (stL (((w.row k).p, (w.row k).e) :: r)))])[mem.length]? = some (some (.lt (stL (((w.row k).p, (w.row k).e) :: r)))) := at_last
        generalize hm2 : (mem ++ [some (Cell.lt (stL (((w.row k).p, (w.row k).e) :: r)))]) = mem2 at el
        generalize mem.length = nn at el
        walk_at "dl"
        simp only [hm2]
        refine k_d (fun c4 => ?_) (fun c4 => ?_)
        · walk_at "dl"
          refine ⟨isL_lt el, ?_⟩
          walk_at "dl"
          refine ⟨by decide, ?_⟩
          walk_at "dl"
          refine i_append el (lineLt (by rw [stL_len, List.length_cons]; simp at hlen; omega)) ?_
          simp only [G.put]
          rw [show stL (((w.row k).p, (w.row k).e) :: r) ++ [T.tup [T.int (w.row k).c, T.int 0]] = stL (((w.row k).c, 0) :: ((w.row k).p, (w.row k).e) :: r) from (stL_cons ((w.row k).c, 0) _).symm]
          walk_at "dl"
          have hlt := (List.getElem?_eq_some_iff.mp el).1
          refine pop_while (n := nn) (s := ((w.row k).c, 0) :: ((w.row k).p, (w.row k).e) :: r) rfl (List.getElem?_set_self hlt) ?_
          refine hN2 _ ⟨bhd w k r, nn, _, _, rfl, ?_, by rw [hnx, hy], stp_ok hok hs hy⟩
          unfold bhd
          rw [if_pos c4, List.set_set]
          exact List.getElem?_set_self hlt
        · walk_at "dl"
          have hlt := (List.getElem?_eq_some_iff.mp el).1
          refine pop_while (n := nn) (s := ((w.row k).p, (w.row k).e) :: r) rfl el ?_
          refine hN2 _ ⟨bhd w k r, nn, _, _, rfl, ?_, by rw [hnx, hy], stp_ok hok hs hy⟩
          unfold bhd
          rw [if_neg c4]
          exact List.getElem?_set_self hlt
      · have : (decide ((w.row k).p = p) && decide ((w.row k).s = y)) = false := by
          rw [Bool.and_eq_false_iff]
          by_cases c5 : (w.row k).p = p
          · exact .inr (decide_eq_false fun z => c3 ⟨c5, z⟩)
          · exact .inl (decide_eq_false c5)
        rw [this]
        walk_at "dl"
        refine k_T ?_
        walk_at "dl"
        exact bad (no fun z => c3 z.2.2)
  · rintro g' ⟨s, n, mem, o3, rfl, em, hst, hs⟩
    walk_at "dl"
    exact e_h em rfl (hS s hst)
/-! the law of counts of heaps -/
theorem int_at {xs : List Int} {j : Nat} (h : j < xs.length) : atI (xs.map T.int) (j : Int) = some (.int (xs.getD j 0)) := atI_map T.int (atI_getD 0 h)
def C__law_heap : PC := fun ts Q => ∃ (ns : List Int) (at0 mr most : Nat) (w : Web), ts = [.sq (ns.map T.int), .int at0, w.t, .int mr, .int most] ∧ (∀ z ∈ ns, Builtin.Int.intBits z ≤ 1048576) ∧ w.Ok ∧ mr ≤ 100 ∧ most ≤ 1000 ∧
  ∀ heap : List (List Int), heap.length ≤ mr → (∀ r ∈ heap, stk w r = some [] ∧ r.length ≤ 900) → Q (.f (.lt (heap.map runT)))
theorem ln__law_heap : ∀ ts Q, C__law_heap ts Q → ts.length = ["a", "b", "c", "d", "e"].length := by rintro ts Q ⟨_, _, _, _, _, rfl, _⟩; rfl
theorem callS_run {w : Web} {j k most : Nat} {a f : Int} {sl : List (Option W)} {mem : Sto} {Q : W → G → Prop} (em : mem[j]? = some (some (leftC a f k))) (hL : LeftOk a f) (hk : k ≤ 1000) (hok : w.Ok) (hm : most ≤ 1000)
    (h : ∀ (ks : List Nat) (c : Cell), stk w (natI ks) = some [] → ks.length ≤ 70000 → Q (.h mem.length) ⟨sl, mem.set j (some c) ++ [some (.lt (ks.map natT))]⟩) : callS C__law_run [.t w.t, .h j, .t (.int most)] ⟨sl, mem⟩ Q := by
  refine ⟨[j], [leftC a f k], [.t w.t, .h 0, .t (.int most)], by simp, rfl, rfl, fun i c e => ?_, w, a, f, k, most, rfl, rfl, hL, hk, hok, hm, fun ks a' k' h1 h2 h3 h4 => ⟨.h mem.length, [leftC a' f k'], [.lt (ks.map natT)], rfl, rfl, rfl, ?_⟩⟩
  · match i, e with
    | 0, e => cases e; exact ⟨j, _, rfl, rfl, em⟩
    | i + 1, e => simp at e
  · exact h ks (leftC a' f k') h1 h2
def rd__law_heap : DSt :=
  dSeq (dAsg (dCallH C__law_left (dCons (dVar 0) (dCons (dVar 1) (dNil)))) (dgN 5))
  (dSeq (dAsg (dLstH (dNil)) (dgN 6))
  (dSeq (dAsg (dC (.int 900)) (dgN 7))
  (dSeq (dFor (diR1 (dCons (dCallS C__law_draw (dCons (dVar 5) (dCons (d2 fAdd (dVar 3) (dC (.int 1))) (dNil)))) (dNil))) (dgN 8) (dSeq (dAsg (dCallS C__law_run (dCons (dVar 2) (dCons (dCallH C__law_left (dCons (dVar 0) (dCons (d2 fAdd (d2 fAdd (dVar 1) (dC (.int 1))) (dVar 8)) (dNil)))) (dCons (dVar 4) (dNil))))) (dgN 9))
  (dIfS (dB (d2 (fI0 fun i j => .bl (decide (i ≤ j))) (dN fLen (dCons (dVar 9) (dNil))) (dVar 7))) (dSeq (dDrop (dM fAppend (dVar 6) (dCons (dFrz 9) (dNil))))
  (dAsg (d2 (fI0 fun i j => .int (i - j)) (dVar 7) (dN fLen (dCons (dVar 9) (dNil)))) (dgN 7))) (dNext))))
  (dRet (dVar 6)))))

theorem rp__law_heap : ∀ ts Q, C__law_heap ts Q → rd__law_heap ⟨FinP Q (.t .non), FinP Q, fun _ => False, fun _ => False⟩ ⟨ts.map (fun t => some (W.t t)) ++ List.replicate (10 - ts.length) none, []⟩ := by
  rintro ts Q ⟨ns, at0, mr, most, w, rfl, hbits, hok, hmr, hmost, hQ⟩
  unfold rd__law_heap
  walk_at "dl"
  refine ⟨ns, at0, rfl, hbits, fun a f hL => ?_⟩
  walk_at "dl"
  refine ⟨by decide, ?_⟩
  walk_at "dl"
  refine callS_draw0 (k := 0) hL (by omega) (by omega) (by omega) fun d a1 d0 d1 hL1 => ?_
  obtain ⟨d, rfl⟩ := toI d0
  walk_at "dl"
  refine ⟨by omega, ?_⟩
  refine forR (List.range d) (fun k => W.t (natT k)) (fun i g' => ∃ (heap : List (List Int)) (room : Int) (mem : Sto) (o8 o9 : Option W), g' = ⟨[some (.t (.sq (ns.map T.int))), some (.t (.int at0)), some (.t w.t), some (.t (.int mr)), some (.t (.int most)), some (.h 0), some (.h 1), some (.t (.int room)), o8, o9], mem⟩ ∧ mem[1]? = some (some (.lt (heap.map runT))) ∧ heap.length ≤ i ∧ room ≤ 900 ∧ ∀ r ∈ heap, stk w r = some [] ∧ r.length ≤ 900)
    (by rw [Int.toNat_natCast, rgW0]; rfl) ⟨[], 900, _, _, _, rfl, rfl, by simp, by omega, fun r h => by simp at h⟩ (fun _ _ _ => trivial) ?_ ?_
  · rintro i x hx g' ⟨heap, room, mem, o8, o9, rfl, em, hl, hroom, hh⟩ N hN
    have hi : i < d := by simpa using (List.getElem?_eq_some_iff.mp hx).1
    rw [List.getElem?_range hi] at hx
    cases hx
    unfold natT
    walk_at "dl"
    refine ⟨ns, at0 + 1 + i, by rw [show ((at0 + 1 + i : Nat) : Int) = (at0 : Int) + 1 + (i : Int) by omega], hbits, fun a2 f2 hL2 => ?_⟩
    walk_at "dl"
    refine callS_run (k := 0) (a := a2) (f := f2) at_last hL2 (by omega) hok hmost fun ks c hst hkl => ?_
    rw [show ks.map natT = (natI ks).map T.int by unfold natI; rw [List.map_map]; rfl]
    have hkl2 : (natI ks).length ≤ 70000 := by unfold natI; rw [List.length_map]; exact hkl
    generalize natI ks = run at hst hkl2
    have h1l := (List.getElem?_eq_some_iff.mp em).1
    have e1 : ((mem ++ [some (Cell.lt [T.int a2, T.int f2, T.int 0])]).set mem.length (some c) ++ [some (Cell.lt (run.map T.int))])[1]? = some (some (.lt (heap.map runT))) := by
      refine at_more ?_
      rw [List.getElem?_set_ne (by omega)]
      exact at_more em
    have e2 : ((mem ++ [some (Cell.lt [T.int a2, T.int f2, T.int 0])]).set mem.length (some c) ++ [some (Cell.lt (run.map T.int))])[(mem ++ [some (Cell.lt [T.int a2, T.int f2, T.int 0])]).length]? = some (some (.lt (run.map T.int))) := by
      rw [List.getElem?_append_right (by rw [List.length_set]; exact Nat.le_refl _), List.length_set, Nat.sub_self]
      rfl
    have hnn : 1 < (mem ++ [some (Cell.lt [T.int a2, T.int f2, T.int 0])]).length := by rw [List.length_append, List.length_singleton]; omega
    generalize ((mem ++ [some (Cell.lt [T.int a2, T.int f2, T.int 0])]).set mem.length (some c) ++ [some (Cell.lt (run.map T.int))]) = mem2 at e1 e2
    generalize (mem ++ [some (Cell.lt [T.int a2, T.int f2, T.int 0])]).length = nn at e2 hnn
    walk_at "dl"
    rw [List.length_map]
    refine k_d (fun hc => ?_) (fun hc => ?_)
    · walk_at "dl"
      refine ⟨isL_lt e1, ?_⟩
      refine i_cons ?_
      refine i_frzH rfl e2 rfl ?_
      have n0 : ¬ (0 = nn) := by omega
      have n1 : ¬ (1 = nn) := by omega
      unfold G.frz
      simp only [List.map_cons, List.map_nil, frzW, if_true, if_neg n0, if_neg n1]
      have e3 : (mem2.set nn none)[1]? = some (some (.lt (heap.map runT))) := by
        rw [List.getElem?_set_ne (by omega)]
        exact e1
      walk_at "dl"
      refine i_append e3 (lineLt (by rw [List.length_map]; omega)) ?_
      simp only [G.put]
      walk_at "dl"
      rw [List.length_map]
      refine hN _ ⟨heap ++ [run], room - (run.length : Int), _, _, _, rfl, ?_, by rw [List.length_append, List.length_singleton]; omega, by omega, fun r hr => ?_⟩
      · rw [List.map_append]
        exact List.getElem?_set_self (by have := (List.getElem?_eq_some_iff.mp e3).1; exact this)
      · rcases List.mem_append.mp hr with z | z
        · exact hh r z
        · have : r = run := by simpa using z
          subst this
          exact ⟨hst, by omega⟩
    · walk_at "dl"
      exact hN _ ⟨heap, room, _, _, _, rfl, e1, by omega, hroom, hh⟩
  · rintro g' ⟨heap, room, mem, o8, o9, rfl, em, hl, hroom, hh⟩
    walk_at "dl"
    rw [List.length_range] at hl
    exact e_h em rfl (hQ heap (by omega) hh)
def rd__law_tally : DSt :=
  dSeq (dAsg (d2 fRepH (dLst (dCons (dC (.int 0)) (dNil))) (d2 fAdd (dN fLen (dCons (d2 fIx (dVar 0) (dC (.int 1))) (dNil))) (dN fLen (dCons (d2 fIx (dVar 0) (dC (.int 0))) (dNil))))) (dgN 2))
  (dSeq (dFor (diL (dVar 1)) (dgN 3) (dSeq (dIfS (dB (d2 (fEq true) (dCallT C__law_stack (dCons (dVar 0) (dCons (dVar 3) (dNil)))) (dLst (dNil)))) (dRet (dC .non)) (dNext))
  (dSeq (dAsg (d2 fAdd (d2 fIx (dVar 2) (dN fLen (dCons (d2 fIx (dVar 0) (dC (.int 1))) (dNil)))) (dC (.int 1))) (dgSub (dVar 2) (dN fLen (dCons (d2 fIx (dVar 0) (dC (.int 1))) (dNil)))))
  (dFor (diL (dVar 3)) (dgN 4) (dSeq (dAsg (d2 fAdd (d2 fIx (dVar 2) (dVar 4)) (dC (.int 1))) (dgSub (dVar 2) (dVar 4)))
  (dIfS (dB (d2 (fI0 fun i j => .bl (decide (j ≤ i))) (d2 fIx (d2 fIx (d2 fIx (dVar 0) (dC (.int 1))) (dVar 4)) (dC (.int 3))) (dC (.int 0)))) (dSeq (dAsg (d2 fAdd (dN fLen (dCons (d2 fIx (dVar 0) (dC (.int 1))) (dNil))) (d2 fIx (d2 fIx (d2 fIx (dVar 0) (dC (.int 1))) (dVar 4)) (dC (.int 3)))) (dgN 5))
  (dAsg (d2 fAdd (d2 fIx (dVar 2) (dVar 5)) (dC (.int 1))) (dgSub (dVar 2) (dVar 5)))) (dNext)))))))
  (dRet (dVar 2)))

def C__law_tally : PC := fun ts Q => ∃ (w : Web) (heap : List (List Int)), ts = [w.t, hT heap] ∧ w.Ok ∧ HpOk heap ∧ (tally w heap = none → Q (.t .non)) ∧ ∀ xs, tally w heap = some xs → Q (.f (.lt (xs.map T.int)))
theorem ln__law_tally : ∀ ts Q, C__law_tally ts Q → ts.length = ["a", "b"].length := by rintro ts Q ⟨_, _, rfl, _⟩; rfl
theorem i_incA {g : G} {n j : Nat} {xs : List Int} {P : G → Prop} (em : g.mem[n]? = some (some (.lt (xs.map T.int)))) (hj : j < xs.length) (h : P (g.put n (.lt ((incA xs j).map T.int)))) : dgPut (.h n) (.t (.int j)) (.t (.int (xs.getD j 0 + 1))) g P := by
  refine o_put em (ixN_nat (by rw [List.length_map]; exact hj)) ?_
  rw [show (xs.map T.int).set j (T.int (xs.getD j 0 + 1)) = (incA xs j).map T.int by unfold incA; rw [List.map_set]]
  exact h
theorem rp__law_tally : ∀ ts Q, C__law_tally ts Q → rd__law_tally ⟨FinP Q (.t .non), FinP Q, fun _ => False, fun _ => False⟩ ⟨ts.map (fun t => some (W.t t)) ++ List.replicate (6 - ts.length) none, []⟩ := by
  rintro ts Q ⟨w, heap, rfl, hok, hh, hN, hS⟩
  have h1 := hok.1
  have hfl : ∀ (l : List Int) (ys : List Int), (l.foldl (tly1 w) ys).length = ys.length := fun l => by
    induction l with
    | nil => intro ys; rfl
    | cons a l ih => intro ys; rw [List.foldl_cons, ih, tly1_len]
  unfold rd__law_tally Web.t hT
  walk_at "dl"
  refine ⟨by decide, ?_⟩
  walk_at "dl"
  rw [List.length_map, List.length_map]
  refine i_repH (xs := [T.int 0]) rfl (by refine ⟨by omega, by omega, lineLe ?_⟩; rw [List.length_singleton]; omega) ?_
  rw [flat_rep, show ((w.rows.length : Int) + (w.places.length : Int)).toNat = w.rows.length + w.places.length by omega]
  walk_at "dl"
  refine forG heap (fun r => W.t (runT r)) (fun pre g' => ∃ (xs : List Int) (n : Nat) (mem : Sto) (o3 o4 o5 : Option W), g' = ⟨[some (.t (.tup [.lst (w.places.map T.int), .lst (w.rows.map Row.t)])), some (.t (.lst (heap.map runT))), some (.h n), o3, o4, o5], mem⟩ ∧ mem[n]? = some (some (.lt (xs.map T.int))) ∧ tally w pre = some xs ∧ xs.length = w.rows.length + w.places.length)
    (by rw [List.map_map]; rfl) ⟨_, 0, _, _, _, _, rfl, rfl, rfl, by rw [List.length_replicate]⟩ (by rintro _ _ ⟨_, _, _, _, _, _, rfl, _⟩; rfl) ?_ ?_
  · rintro pre r post hsp g' ⟨xs, n, mem, o3, o4, o5, rfl, em, ht, hxl⟩ N hN2
    have hrl := hh.runs r (by rw [hsp]; simp)
    have hbad : stk w r ≠ some [] → Q (.t .non) := fun e => hN (by
      rw [hsp, show pre ++ r :: post = (pre ++ [r]) ++ post by simp]
      refine tally_none ?_
      rw [tally_snoc, ht]
      show (if stk w r = some [] then some (tlyR w xs r) else none) = none
      rw [if_neg e])
    unfold runT
    walk_at "dl"
    refine ⟨w, r, rfl, hok, by omega, fun e => ?_, fun s e => ?_⟩
    · walk_at "dl"
      refine ⟨by decide, ?_⟩
      refine i_neT (u := .non) (v := .lst []) rfl rfl rfl rfl ?_
      rw [teq_nonL, Bool.not_false]
      walk_at "dl"
      exact hbad (by rw [e]; exact fun z => nomatch z)
    · walk_at "dl"
      refine ⟨by decide, ?_⟩
      refine i_neT (u := .lst (stL s)) (v := .lst []) rfl rfl (sh_stL 6 s) rfl ?_
      rw [teq_stL]
      refine k_n (fun c => ?_) (fun c => ?_)
      · walk_at "dl"
        exact hbad (by rw [e]; exact fun z => c (Option.some.inj z))
      subst c
      have hrng := stk_rng e
      have hnx : tally w (pre ++ [r]) = some (tlyR w xs r) := by
        rw [tally_snoc, ht]
        show (if stk w r = some [] then some (tlyR w xs r) else none) = some (tlyR w xs r)
        rw [if_pos e]
      have hn := (List.getElem?_eq_some_iff.mp em).1
      have hz := int_at (xs := xs) (j := w.rows.length) (by omega)
      walk_at "dl"
      rw [List.length_map]
      refine i_ixHT em hz ?_
      walk_at "dl"
      rw [List.length_map]
      refine i_incA (xs := xs) (j := w.rows.length) em (by omega) ?_
      simp only [G.put]
      walk_at "dl"
      refine forG r (fun k => W.t (.int k)) (fun pre2 g' => ∃ (mem2 : Sto) (o4 o5 : Option W), g' = ⟨[some (.t (.tup [.lst (w.places.map T.int), .lst (w.rows.map Row.t)])), some (.t (.lst (heap.map runT))), some (.h n), some (.t (.lst (r.map T.int))), o4, o5], mem2⟩ ∧ mem2[n]? = some (some (.lt ((pre2.foldl (tly1 w) (incA xs w.rows.length)).map T.int))))
        (by rw [List.map_map]; rfl) ⟨_, _, _, rfl, List.getElem?_set_self hn⟩ (by rintro _ _ ⟨_, _, _, rfl, _⟩; rfl) ?_ ?_
      · rintro pre2 k post2 hsp2 g2 ⟨mem2, o4', o5', rfl, em2⟩ N3 hN3
        have hk := hrng k (by rw [hsp2]; simp)
        obtain ⟨kn, rfl⟩ := toI hk.1
        have hkn : kn < w.rows.length := by omega
        have hrow := row_at hkn
        unfold Row.t at hrow
        have hro := hok.2.2.1 _ (row_mem hkn)
        unfold Web.rowOk at hro
        have hlen : (pre2.foldl (tly1 w) (incA xs w.rows.length)).length = w.rows.length + w.places.length := by
          rw [hfl, incA_len, hxl]
        have hfold : (pre2 ++ [(kn : Int)]).foldl (tly1 w) (incA xs w.rows.length) = tly1 w (pre2.foldl (tly1 w) (incA xs w.rows.length)) kn := by rw [List.foldl_append]; rfl
        rw [hfold] at hN3
        generalize pre2.foldl (tly1 w) (incA xs w.rows.length) = ys at em2 hlen hN3
        have hn2 := (List.getElem?_eq_some_iff.mp em2).1
        have hz2 := int_at (xs := ys) (j := kn) (by omega)
        walk_at "dl"
        refine i_incA (xs := ys) (j := kn) em2 (by omega) ?_
        simp only [G.put]
        have em3 : (mem2.set n (some (Cell.lt ((incA ys kn).map T.int))))[n]? = some (some (.lt ((incA ys kn).map T.int))) := List.getElem?_set_self hn2
        walk_at "dl"
        refine k_d (fun c => ?_) (fun c => ?_)
        · walk_at "dl"
          obtain ⟨cn, hcn⟩ := toI c
          rw [List.length_map, hcn, show (w.rows.length : Int) + (cn : Int) = ((w.rows.length + cn : Nat) : Int) by omega]
          have hz3 := int_at (xs := incA ys kn) (j := w.rows.length + cn) (by rw [incA_len]; omega)
          walk_at "dl"
          refine i_incA (xs := incA ys kn) (j := w.rows.length + cn) em3 (by rw [incA_len]; omega) ?_
          simp only [G.put]
          refine hN3 _ ⟨_, _, _, rfl, ?_⟩
          unfold tly1
          rw [Int.toNat_natCast, if_pos c, hcn, Int.toNat_natCast]
          exact List.getElem?_set_self (by rw [List.length_set]; exact hn2)
        · walk_at "dl"
          refine hN3 _ ⟨_, _, _, rfl, ?_⟩
          unfold tly1
          rw [Int.toNat_natCast, if_neg c]
          exact em3
      · rintro g2 ⟨mem2, o4', o5', rfl, em2⟩
        refine hN2 _ ⟨tlyR w xs r, n, mem2, _, _, _, rfl, em2, hnx, ?_⟩
        unfold tlyR
        rw [hfl, incA_len, hxl]
  · rintro g' ⟨xs, n, mem, o3, o4, o5, rfl, em, ht, hxl⟩
    walk_at "dl"
    exact e_h em rfl (hS xs ht)
theorem tally_len {w : Web} {heap : List (List Int)} {xs : List Int} (e : tally w heap = some xs) : xs.length = w.rows.length + w.places.length := by
  have hfl : ∀ (l : List Int) (ys : List Int), (l.foldl (tly1 w) ys).length = ys.length := fun l => by
    induction l with
    | nil => intro ys; rfl
    | cons a l ih => intro ys; rw [List.foldl_cons, ih, tly1_len]
  have key : ∀ (bs as : List (List Int)), (∀ ys, tally w as = some ys → ys.length = w.rows.length + w.places.length) → ∀ ys, tally w (as ++ bs) = some ys → ys.length = w.rows.length + w.places.length := by
    intro bs
    induction bs with
    | nil => intro as h ys e; rw [List.append_nil] at e; exact h ys e
    | cons b bs ih =>
      intro as h ys e
      rw [show as ++ b :: bs = (as ++ [b]) ++ bs by simp] at e
      refine ih (as ++ [b]) (fun zs e2 => ?_) ys e
      rw [tally_snoc] at e2
      cases e3 : tally w as with
      | none => rw [e3] at e2; cases e2
      | some us =>
        rw [e3] at e2
        have e4 : (if stk w b = some [] then some (tlyR w us b) else none) = some zs := e2
        split at e4
        · cases e4
          unfold tlyR
          rw [hfl, incA_len, h us e3]
        · cases e4
  exact key heap [] (fun ys e => by cases e; rw [List.length_replicate]) xs e
/-! relations: plain law -/
def bI (b : Bool) : Int := if b then 1 else 0
def relRow (p : Nat) (x : Int) (r : Row) : Int := bI (decide (r.p = p) && decide (r.e = x)) - bI (decide (r.p = p) && decide (r.s = x))
def relBeg (x : Int) : Int := bI (decide (x = 0)) - bI (decide (x = 1))
def relAt (w : Web) (p : Nat) (x : Int) : List Int := w.rows.map (relRow p x) ++ (List.range w.places.length).map fun o : Nat => relBeg x * bI (decide ((o : Int) = p))
def relC (w : Web) (p : Nat) : List Int := w.rows.map (fun r => bI (decide (r.c = (p : Int)))) ++ (List.range w.places.length).map fun o : Nat => 0 - bI (decide ((o : Int) = p))
def rels1 (w : Web) (p : Nat) : List (List Int) := (List.range (w.place p).toNat).map fun x : Nat => relAt w p (x : Int)
def rels (w : Web) : List (List Int) := (List.range w.places.length).flatMap (rels1 w) ++ (List.range' 1 (w.places.length - 1)).map (relC w)
theorem relAt_len (w : Web) (p : Nat) (x : Int) : (relAt w p x).length = w.rows.length + w.places.length := by
  unfold relAt
  rw [List.length_append, List.length_map, List.length_map, List.length_range]
theorem relC_len (w : Web) (p : Nat) : (relC w p).length = w.rows.length + w.places.length := by
  unfold relC
  rw [List.length_append, List.length_map, List.length_map, List.length_range]
theorem rels_len {w : Web} {r : List Int} (h : r ∈ rels w) : r.length = w.rows.length + w.places.length := by
  unfold rels at h
  rcases List.mem_append.mp h with h | h
  · obtain ⟨p, _, h⟩ := List.mem_flatMap.mp h
    obtain ⟨x, _, rfl⟩ := List.mem_map.mp h
    exact relAt_len w p x
  · obtain ⟨p, _, rfl⟩ := List.mem_map.mp h
    exact relC_len w p
/-- the sum over counts -/
def dot (rel xs : List Int) : Int := (List.zipWith (fun a b => a * b) rel xs).sum
structure Bal (w : Web) (rel : List Int) (f : Int × Int → Int) : Prop where
  len : rel.length = w.rows.length + w.places.length
  beg : rel.getD w.rows.length 0 = f (0, 0)
  row : ∀ k < w.rows.length, rel.getD k 0 + (if 0 ≤ (w.row k).c then rel.getD (w.rows.length + (w.row k).c.toNat) 0 else 0) = f ((w.row k).p, (w.row k).e) - f ((w.row k).p, (w.row k).s) + (if 0 ≤ (w.row k).c then f ((w.row k).c, 0) else 0)
  out : ∀ q, f (q, 1) = 0
theorem getD_mapR {α : Type} {g : α → Int} {xs : List α} {k : Nat} {r : α} (h : xs[k]? = some r) (ys : List Int) : ((xs.map g) ++ ys).getD k 0 = g r := by
  have hk := (List.getElem?_eq_some_iff.mp h).1
  rw [List.getD_eq_getElem?_getD, List.getElem?_append_left (by rw [List.length_map]; exact hk), List.getElem?_map, h]
  rfl
theorem getD_app {α : Type} {g : α → Int} {xs : List α} {h : Nat → Int} {n j : Nat} (hj : j < n) : ((xs.map g) ++ (List.range n).map h).getD (xs.length + j) 0 = h j := by
  rw [List.getD_eq_getElem?_getD, List.getElem?_append_right (by rw [List.length_map]; omega), List.length_map, Nat.add_sub_cancel_left, List.getElem?_map, List.getElem?_range hj]
  rfl
theorem bI_dec {P : Prop} [Decidable P] : bI (decide P) = if P then 1 else 0 := by
  unfold bI
  by_cases h : P
  · rw [decide_eq_true h, if_pos rfl, if_pos h]
  · rw [decide_eq_false h, if_neg (by decide), if_neg h]
theorem bI_and {P R : Prop} [Decidable P] [Decidable R] : bI (decide P && decide R) = if P ∧ R then 1 else 0 := by
  rw [← Bool.decide_and, bI_dec]
theorem dot_range {rel xs : List Int} (h : rel.length = xs.length) : ((List.range xs.length).map fun k => rel.getD k 0 * xs.getD k 0).sum = dot rel xs := by
  unfold dot
  congr 1
  refine List.ext_getElem (by rw [List.length_map, List.length_range, List.length_zipWith]; omega) fun i h1 h2 => ?_
  rw [List.length_map, List.length_range] at h1
  rw [List.getElem_map, List.getElem_range, List.getElem_zipWith, List.getD_eq_getElem?_getD, List.getD_eq_getElem?_getD, List.getElem?_eq_getElem (by omega), List.getElem?_eq_getElem h1]
  rfl
/-- counts stay small -/
def Sml (B : Int) (xs : List Int) : Prop := ∀ j, 0 ≤ xs.getD j 0 ∧ xs.getD j 0 ≤ B
theorem sml_inc {B : Int} {xs : List Int} (h : Sml B xs) (j : Nat) : Sml (B + 1) (incA xs j) := fun i => by
  have h0 := h i
  have h1 := h j
  unfold incA
  rw [List.getD_eq_getElem?_getD, List.getElem?_set]
  split
  · split
    · show 0 ≤ xs.getD j 0 + 1 ∧ xs.getD j 0 + 1 ≤ B + 1
      omega
    · have : (0 : Int) ≤ B := by omega
      show (0 : Int) ≤ 0 ∧ (0 : Int) ≤ B + 1
      omega
  · rw [← List.getD_eq_getElem?_getD]
    omega
theorem sml_le {B C : Int} {xs : List Int} (h : Sml B xs) (hb : B ≤ C) : Sml C xs := fun j => by have := h j; omega
theorem sml_run {w : Web} : ∀ (ks : List Int) (B : Int) (xs : List Int), Sml B xs → Sml (B + 2 * ks.length) (ks.foldl (tly1 w) xs)
  | [], B, xs, h => sml_le h (by simp)
  | k :: ks, B, xs, h => by
    have h1 : Sml (B + 2) (tly1 w xs k) := by
      unfold tly1
      split
      · exact sml_le (sml_inc (sml_inc h _) _) (by omega)
      · exact sml_le (sml_inc h _) (by omega)
    rw [List.foldl_cons]
    exact sml_le (sml_run ks (B + 2) _ h1) (by rw [List.length_cons]; omega)
theorem tally_small {w : Web} : ∀ (bs as : List (List Int)) (B : Int) (xs ys : List Int), tally w as = some xs → Sml B xs → (∀ r ∈ bs, r.length ≤ 900) → tally w (as ++ bs) = some ys → Sml (B + 1801 * bs.length) ys := by
  intro bs
  induction bs with
  | nil => intro as B xs ys e h _ e'; rw [List.append_nil, e] at e'; cases e'; exact sml_le h (by simp)
  | cons b bs ih =>
    intro as B xs ys e h hb e'
    rw [show as ++ b :: bs = (as ++ [b]) ++ bs by simp] at e'
    have hbl := hb b (by simp)
    by_cases hr : stk w b = some []
    · have e2 : tally w (as ++ [b]) = some (tlyR w xs b) := by
        rw [tally_snoc, e]
        show (if stk w b = some [] then some (tlyR w xs b) else none) = _
        rw [if_pos hr]
      have h2 : Sml (B + 1801) (tlyR w xs b) := sml_le (sml_run b (B + 1) _ (sml_inc h _)) (by omega)
      exact sml_le (ih (as ++ [b]) (B + 1801) _ ys e2 h2 (fun r hr => hb r (List.mem_cons_of_mem _ hr)) e') (by rw [List.length_cons]; omega)
    · have e2 : tally w (as ++ [b]) = none := by
        rw [tally_snoc, e]
        show (if stk w b = some [] then some (tlyR w xs b) else none) = _
        rw [if_neg hr]
      rw [tally_none e2] at e'
      cases e'
theorem rel_small {w : Web} {r : List Int} (h : r ∈ rels w) (k : Nat) : -2 ≤ r.getD k 0 ∧ r.getD k 0 ≤ 2 := by
  have hb : ∀ b, 0 ≤ bI b ∧ bI b ≤ 1 := fun b => by cases b <;> decide
  rw [List.getD_eq_getElem?_getD]
  cases e : r[k]? with
  | none => decide
  | some z =>
    show -2 ≤ z ∧ z ≤ 2
    have hz := List.mem_of_getElem? e
    unfold rels at h
    rcases List.mem_append.mp h with h | h
    · obtain ⟨p, _, h⟩ := List.mem_flatMap.mp h
      obtain ⟨x, _, rfl⟩ := List.mem_map.mp h
      unfold relAt at hz
      rcases List.mem_append.mp hz with hz | hz
      · obtain ⟨q, _, rfl⟩ := List.mem_map.mp hz
        unfold relRow
        have h1 := hb (decide (q.p = p) && decide (q.e = ((x : Nat) : Int)))
        have h2 := hb (decide (q.p = p) && decide (q.s = ((x : Nat) : Int)))
        omega
      · obtain ⟨o, _, rfl⟩ := List.mem_map.mp hz
        have h1 := hb (decide (((x : Nat) : Int) = 0))
        have h2 := hb (decide (((x : Nat) : Int) = 1))
        unfold relBeg
        rw [bI_dec (P := ((o : Nat) : Int) = p)]
        split <;> omega
    · obtain ⟨p, hp, rfl⟩ := List.mem_map.mp h
      unfold relC at hz
      rcases List.mem_append.mp hz with hz | hz
      · obtain ⟨q, _, rfl⟩ := List.mem_map.mp hz
        have h1 := hb (decide (q.c = p))
        omega
      · obtain ⟨o, _, rfl⟩ := List.mem_map.mp hz
        have h1 := hb (decide (((o : Nat) : Int) = p))
        omega
/-! relations: walks -/
def C_relation_at : PC := fun ts Q => ∃ (w : Web) (p x : Nat), ts = [w.t, .int p, .int x] ∧ w.rows.length ≤ 60 ∧ w.places.length ≤ 4 ∧ Q (.f (.lt ((relAt w p x).map T.int)))
theorem ln_relation_at : ∀ ts Q, C_relation_at ts Q → ts.length = ["a", "b", "c"].length := by rintro ts Q ⟨_, _, _, rfl, _⟩; rfl
theorem bI_if (b : Bool) : (if b = true then (1 : Int) else 0) = bI b := rfl
def rd_relation_at : DSt :=
  dSeq (dAsg (dLstH (dNil)) (dgN 3))
  (dSeq (dFor (diL (d2 fIx (dVar 0) (dC (.int 1)))) (dgN 4) (dSeq (dAsg (d2 (fEq false) (d2 fIx (dVar 4) (dC (.int 0))) (dVar 1)) (dgN 5))
  (dDrop (dM fAppend (dVar 3) (dCons (d2 (fI0 fun i j => .int (i - j)) (dN fInt (dCons (dAndV (dVar 5) (d2 (fEq false) (d2 fIx (dVar 4) (dC (.int 2))) (dVar 2))) (dNil))) (dN fInt (dCons (dAndV (dVar 5) (d2 (fEq false) (d2 fIx (dVar 4) (dC (.int 1))) (dVar 2))) (dNil)))) (dNil))))))
  (dSeq (dAsg (d2 (fI0 fun i j => .int (i - j)) (dN fInt (dCons (d2 (fEq false) (dVar 2) (dC (.int 0))) (dNil))) (dN fInt (dCons (d2 (fEq false) (dVar 2) (dC (.int 1))) (dNil)))) (dgN 6))
  (dRet (d2 fAddH (dVar 3) (dLc finT (diR1 (dCons (dN fLen (dCons (d2 fIx (dVar 0) (dC (.int 0))) (dNil))) (dNil))) (dgN 7) (dYes) (d2 (fI IntMulOk fun i j => .int (i * j)) (dVar 6) (dN fInt (dCons (d2 (fEq false) (dVar 7) (dVar 1)) (dNil)))) [7])))))

theorem rp_relation_at : ∀ ts Q, C_relation_at ts Q → rd_relation_at ⟨FinP Q (.t .non), FinP Q, fun _ => False, fun _ => False⟩ ⟨ts.map (fun t => some (W.t t)) ++ List.replicate (8 - ts.length) none, []⟩ := by
  rintro ts Q ⟨w, p, x, rfl, hr, hp, hQ⟩
  unfold rd_relation_at Web.t
  walk_at "dl"
  refine ⟨by decide, ?_⟩
  walk_at "dl"
  refine forG w.rows (fun r => W.t r.t) (fun pre g' => ∃ (o4 o5 : Option W), g' = ⟨[some (.t (.tup [.lst (w.places.map T.int), .lst (w.rows.map Row.t)])), some (.t (.int p)), some (.t (.int x)), some (.h 0), o4, o5, none, none], [some (.lt ((pre.map (relRow p x)).map T.int))]⟩)
    (by rw [List.map_map]; rfl) ⟨_, _, rfl⟩ (fun _ _ _ => by trivial) ?_ ?_
  · rintro pre r post hsp g' ⟨o4, o5, rfl⟩ N hN
    have hpl : pre.length < w.rows.length := by
      have := congrArg List.length hsp
      rw [List.length_append, List.length_cons] at this
      omega
    unfold Row.t
    walk_at "dl"
    refine ⟨isL_lt rfl, ?_⟩
    walk_at "dl"
    have em : (pre.map (relRow p x)).map T.int ++ [T.int (relRow p x r)] = ((pre ++ [r]).map (relRow p x)).map T.int := by
      rw [List.map_append, List.map_append]
      rfl
    by_cases hpp : r.p = p
    · rw [decide_eq_true hpp]
      rw [if_pos rfl]
      walk_at "dl"
      have e : relRow p x r = bI (decide (r.e = (x : Int))) - bI (decide (r.s = (x : Int))) := by
        unfold relRow
        rw [decide_eq_true hpp, Bool.true_and, Bool.true_and]
      rw [bI_if, bI_if, ← e]
      refine i_append rfl (lineLt (by rw [List.length_map, List.length_map]; omega)) ?_
      rw [em]
      exact hN _ ⟨_, _, rfl⟩
    · rw [decide_eq_false hpp]
      rw [if_neg (by decide)]
      walk_at "dl"
      have e : relRow p x r = bI false - bI false := by
        unfold relRow
        rw [decide_eq_false hpp, Bool.false_and, Bool.false_and]
      rw [bI_if, ← e]
      refine i_append rfl (lineLt (by rw [List.length_map, List.length_map]; omega)) ?_
      rw [em]
      exact hN _ ⟨_, _, rfl⟩
  · rintro g' ⟨o4, o5, rfl⟩
    walk_at "dl"
    rw [List.length_map]
    refine ⟨by omega, ?_⟩
    refine lcP (List.range w.places.length) (fun k => W.t (natT k)) (fun _ => true) (fun o => T.int (relBeg x * bI (decide ((o : Int) = p)))) (by rw [Int.toNat_natCast, rgW0]; rfl) (by rw [List.length_range]; exact lineLe (by omega)) trivial ?_ rfl ?_
    · intro o ho Y N2 hY hN2
      unfold natT
      walk_at "dl"
      refine i_fI (mulR (by split <;> decide) (by split <;> decide)) ?_
      exact hY rfl _ rfl
    rw [List.filter_eq_self.mpr (fun _ _ => rfl)]
    walk_at "dl"
    refine i_addHL (xs := (w.rows.map (relRow p x)).map T.int) (ys := (List.range w.places.length).map fun o : Nat => T.int (relBeg x * bI (decide ((o : Int) = p)))) rfl rfl (lineLe (by rw [List.length_map, List.length_map, List.length_map, List.length_range]; omega)) ?_
    refine e_h at_last rfl ?_
    have e : (w.rows.map (relRow p x)).map T.int ++ ((List.range w.places.length).map fun o : Nat => T.int (relBeg x * bI (decide ((o : Int) = p)))) = (relAt w p x).map T.int := by
      unfold relAt
      rw [List.map_append, List.map_map (l := List.range _)]
      rfl
    rw [e]
    exact hQ
def C_relation_of_calls : PC := fun ts Q => ∃ (w : Web) (p : Nat), ts = [w.t, .int p] ∧ w.rows.length ≤ 60 ∧ w.places.length ≤ 4 ∧ Q (.f (.lt ((relC w p).map T.int)))
theorem ln_relation_of_calls : ∀ ts Q, C_relation_of_calls ts Q → ts.length = ["a", "b"].length := by rintro ts Q ⟨_, _, rfl, _⟩; rfl
def rd_relation_of_calls : DSt :=
  dRet (d2 fAddH (dLc finT (diL (d2 fIx (dVar 0) (dC (.int 1)))) (dgN 2) (dYes) (dN fInt (dCons (d2 (fEq false) (d2 fIx (dVar 2) (dC (.int 3))) (dVar 1)) (dNil))) [2]) (dLc finT (diR1 (dCons (dN fLen (dCons (d2 fIx (dVar 0) (dC (.int 0))) (dNil))) (dNil))) (dgN 3) (dYes) (d2 (fI0 fun i j => .int (i - j)) (dC (.int 0)) (dN fInt (dCons (d2 (fEq false) (dVar 3) (dVar 1)) (dNil)))) [3]))

theorem rp_relation_of_calls : ∀ ts Q, C_relation_of_calls ts Q → rd_relation_of_calls ⟨FinP Q (.t .non), FinP Q, fun _ => False, fun _ => False⟩ ⟨ts.map (fun t => some (W.t t)) ++ List.replicate (4 - ts.length) none, []⟩ := by
  rintro ts Q ⟨w, p, rfl, hr, hp, hQ⟩
  unfold rd_relation_of_calls Web.t
  walk_at "dl"
  refine lcP w.rows (fun r => W.t r.t) (fun _ => true) (fun r => T.int (bI (decide (r.c = (p : Int))))) (by rw [List.map_map]; rfl) (lineLe (by omega)) rfl ?_ rfl ?_
  · intro r hr Y N2 hY hN2
    unfold Row.t
    walk_at "dl"
    exact hY rfl _ rfl
  rw [List.filter_eq_self.mpr (fun _ _ => rfl)]
  walk_at "dl"
  rw [List.length_map]
  refine ⟨by omega, ?_⟩
  refine lcP (List.range w.places.length) (fun k => W.t (natT k)) (fun _ => true) (fun o => T.int (0 - bI (decide ((o : Int) = p)))) (by rw [Int.toNat_natCast, rgW0]; rfl) (by rw [List.length_range]; exact lineLe (by omega)) trivial ?_ rfl ?_
  · intro o ho Y N2 hY hN2
    unfold natT
    walk_at "dl"
    exact hY rfl _ rfl
  rw [List.filter_eq_self.mpr (fun _ _ => rfl)]
  walk_at "dl"
  refine i_addHL (xs := w.rows.map fun r => T.int (bI (decide (r.c = (p : Int))))) (ys := (List.range w.places.length).map fun o : Nat => T.int (0 - bI (decide ((o : Int) = p)))) rfl rfl (lineLe (by rw [List.length_map, List.length_map, List.length_range]; omega)) ?_
  refine e_h at_last rfl ?_
  have e : (w.rows.map fun r => T.int (bI (decide (r.c = (p : Int))))) ++ ((List.range w.places.length).map fun o : Nat => T.int (0 - bI (decide ((o : Int) = p)))) = (relC w p).map T.int := by
    unfold relC
    rw [List.map_append, List.map_map, List.map_map]
    rfl
  rw [e]
  exact hQ
/-- handles of lists of whole numbers -/
theorem rels1_len {w : Web} (hok : w.Ok) {p : Nat} (hp : p < w.places.length) : (rels1 w p).length ≤ 16 := by
  have hpv := hok.2.1 _ (place_mem hp)
  unfold rels1
  rw [List.length_map, List.length_range]
  omega
theorem flat_len {α β : Type} {f : α → List β} {n : Nat} : ∀ {xs : List α}, (∀ x ∈ xs, (f x).length ≤ n) → (xs.flatMap f).length ≤ n * xs.length
  | [], _ => by simp
  | x :: xs, h => by
    have h1 := h x (by simp)
    have h2 := flat_len (f := f) (n := n) (xs := xs) fun y hy => h y (List.mem_cons_of_mem _ hy)
    rw [List.flatMap_cons, List.length_append, List.length_cons, Nat.mul_add]
    omega
def C_related : PC := fun ts Q => ∃ w : Web, ts = [w.t] ∧ w.Ok ∧ Q (.f (.lt ((rels w).map runT)))
theorem ln_related : ∀ ts Q, C_related ts Q → ts.length = ["a"].length := by rintro ts Q ⟨_, rfl, _⟩; rfl
def rd_related : DSt :=
  dSeq (dAsg (dLst (dNil)) (dgN 1))
  (dSeq (dFor (diR1 (dCons (dN fLen (dCons (d2 fIx (dVar 0) (dC (.int 0))) (dNil))) (dNil))) (dgN 2) (dAsg (d2 fAdd (dVar 1) (dLc finT (diR1 (dCons (d2 fIx (d2 fIx (dVar 0) (dC (.int 0))) (dVar 2)) (dNil))) (dgN 3) (dYes) (dCallT C_relation_at (dCons (dVar 0) (dCons (dVar 2) (dCons (dVar 3) (dNil))))) [3])) (dgN 1)))
  (dRet (d2 fAddH (dVar 1) (dLc finT (diR2 (dCons (dC (.int 1)) (dCons (dN fLen (dCons (d2 fIx (dVar 0) (dC (.int 0))) (dNil))) (dNil)))) (dgN 2) (dYes) (dCallT C_relation_of_calls (dCons (dVar 0) (dCons (dVar 2) (dNil)))) [2]))))

theorem rp_related : ∀ ts Q, C_related ts Q → rd_related ⟨FinP Q (.t .non), FinP Q, fun _ => False, fun _ => False⟩ ⟨ts.map (fun t => some (W.t t)) ++ List.replicate (4 - ts.length) none, []⟩ := by
  rintro ts Q ⟨w, rfl, hok, hQ⟩
  have hr := hok.1.2.2.2
  have hp := hok.1.2.1
  unfold rd_related Web.t
  walk_at "dl"
  refine ⟨by decide, ?_⟩
  walk_at "dl"
  rw [List.length_map]
  refine ⟨by omega, ?_⟩
  refine forG (List.range w.places.length) (fun k => W.t (natT k)) (fun pre g' => ∃ (o2 o3 : Option W), g' = ⟨[some (.t (.tup [.lst (w.places.map T.int), .lst (w.rows.map Row.t)])), some (.t (.lst ((pre.flatMap (rels1 w)).map runT))), o2, o3], []⟩)
    (by rw [Int.toNat_natCast, rgW0]; rfl) ⟨_, _, rfl⟩ (fun _ _ _ => by trivial) ?_ ?_
  · rintro pre p post hsp g' ⟨o2, o3, rfl⟩ N hN
    have hpr : p < w.places.length := by
      have : p ∈ List.range w.places.length := by rw [hsp]; simp
      simpa using this
    have hpv := hok.2.1 _ (place_mem hpr)
    obtain ⟨pn, hpn⟩ := toI (i := w.place p) (by omega)
    have hix := place_at (w := w) (i := p) (by omega) (by omega)
    rw [hpn] at hpv hix
    have hr1 : rels1 w p = (List.range pn).map fun x : Nat => relAt w p (x : Int) := by
      unfold rels1
      rw [hpn, Int.toNat_natCast]
    have hpl : pre.length < w.places.length := by
      have := congrArg List.length hsp
      rw [List.length_append, List.length_cons, List.length_range] at this
      omega
    have hfl := flat_len (f := rels1 w) (n := 16) (xs := pre) fun q hq => rels1_len hok (List.mem_range.mp (by rw [hsp]; exact List.mem_append_left _ hq))
    unfold natT
    walk_at "dl"
    refine ⟨by omega, ?_⟩
    refine lcP (List.range pn) (fun k => W.t (natT k)) (fun _ => true) (fun x : Nat => runT (relAt w p (x : Int))) (by rw [Int.toNat_natCast, rgW0]; rfl) (by rw [List.length_range]; exact lineLe (by omega)) trivial ?_ rfl ?_
    · intro x hx Y N2 hY hN2
      unfold natT
      walk_at "dl"
      refine ⟨w, p, x, rfl, hr, hp, ?_⟩
      walk_at "dl"
      exact hY rfl _ rfl
    rw [List.filter_eq_self.mpr (fun _ _ => rfl)]
    walk_at "dl"
    refine i_addL (xs := (pre.flatMap (rels1 w)).map runT) (ys := (List.range pn).map fun x : Nat => runT (relAt w p (x : Int))) rfl rfl (lineLe (by rw [List.length_map, List.length_map, List.length_range]; omega)) ?_
    walk_at "dl"
    have e2 : ((pre ++ [p]).flatMap (rels1 w)).map runT = (pre.flatMap (rels1 w)).map runT ++ (List.range pn).map fun x : Nat => runT (relAt w p (x : Int)) := by
      rw [List.flatMap_append, List.flatMap_cons, List.flatMap_nil, List.append_nil, hr1, List.map_append, List.map_map]
      rfl
    rw [← e2]
    exact hN _ ⟨_, _, rfl⟩
  · rintro g' ⟨o2, o3, rfl⟩
    walk_at "dl"
    rw [List.length_map]
    refine ⟨by omega, ?_⟩
    refine lcP (List.range (w.places.length - 1)) (fun k => W.t (.int (1 + (k : Nat)))) (fun _ => true) (fun x => runT (relC w (1 + x))) (by rw [show ((w.places.length : Int) - 1).toNat = w.places.length - 1 by omega, rgW_map]) (by rw [List.length_range]; exact lineLe (by omega)) trivial ?_ rfl ?_
    · intro x hx Y N2 hY hN2
      walk_at "dl"
      refine ⟨w, 1 + x, by rw [show ((1 + x : Nat) : Int) = 1 + (x : Int) by omega]; rfl, hr, hp, ?_⟩
      walk_at "dl"
      exact hY rfl _ rfl
    rw [List.filter_eq_self.mpr (fun _ _ => rfl)]
    walk_at "dl"
    have hfl := flat_len (f := rels1 w) (n := 16) (xs := List.range w.places.length) fun p hp => rels1_len hok (by simpa using hp)
    rw [List.length_range] at hfl
    refine i_addHL (xs := ((List.range w.places.length).flatMap (rels1 w)).map runT) (ys := (List.range (w.places.length - 1)).map fun x => runT (relC w (1 + x))) rfl rfl (lineLe (by rw [List.length_map, List.length_map, List.length_range]; omega)) ?_
    have e : (List.range w.places.length).flatMap (rels1 w) ++ (List.range (w.places.length - 1)).map (fun x => relC w (1 + x)) = rels w := by
      unfold rels
      rw [List.range'_eq_map_range, List.map_map]
      rfl
    rw [← e, List.map_append, List.map_map] at hQ
    walk_at "dl"
    exact hQ
/-! the law's own relations -/
def lawRow (p : Nat) (x : Int) (r : Row) : Int := (bI (decide (r.e = x)) - bI (decide (r.s = x))) * bI (decide (r.p = p))
theorem lawRow_eq (p : Nat) (x : Int) (r : Row) : lawRow p x r = relRow p x r := by
  unfold lawRow relRow
  by_cases h : r.p = p
  · rw [decide_eq_true h, Bool.true_and, Bool.true_and]
    show _ * (1 : Int) = _
    omega
  · rw [decide_eq_false h, Bool.false_and, Bool.false_and]
    show _ * (0 : Int) = 0 - 0
    omega
def C__law_every : PC := fun ts Q => ∃ w : Web, ts = [w.t] ∧ w.Ok ∧ Q (.f (.lt ((rels w).map runT)))
theorem ln__law_every : ∀ ts Q, C__law_every ts Q → ts.length = ["a"].length := by rintro ts Q ⟨_, rfl, _⟩; rfl
def rd__law_every : DSt :=
  dSeq (dAsg (dLstH (dNil)) (dgN 1))
  (dSeq (dFor (diR1 (dCons (dN fLen (dCons (d2 fIx (dVar 0) (dC (.int 0))) (dNil))) (dNil))) (dgN 2) (dFor (diR1 (dCons (d2 fIx (d2 fIx (dVar 0) (dC (.int 0))) (dVar 2)) (dNil))) (dgN 3) (dSeq (dAsg (dLstH (dNil)) (dgN 4))
  (dSeq (dFor (diL (d2 fIx (dVar 0) (dC (.int 1)))) (dgN 5) (dSeq (dAsg (d2 (fI0 fun i j => .int (i - j)) (dN fInt (dCons (d2 (fEq false) (d2 fIx (dVar 5) (dC (.int 2))) (dVar 3)) (dNil))) (dN fInt (dCons (d2 (fEq false) (d2 fIx (dVar 5) (dC (.int 1))) (dVar 3)) (dNil)))) (dgN 6))
  (dDrop (dM fAppend (dVar 4) (dCons (d2 (fI IntMulOk fun i j => .int (i * j)) (dVar 6) (dN fInt (dCons (d2 (fEq false) (d2 fIx (dVar 5) (dC (.int 0))) (dVar 2)) (dNil)))) (dNil))))))
  (dSeq (dFor (diR1 (dCons (dN fLen (dCons (d2 fIx (dVar 0) (dC (.int 0))) (dNil))) (dNil))) (dgN 7) (dDrop (dM fAppend (dVar 4) (dCons (d2 (fI IntMulOk fun i j => .int (i * j)) (dN fInt (dCons (d2 (fEq false) (dVar 7) (dVar 2)) (dNil))) (d2 (fI0 fun i j => .int (i - j)) (dN fInt (dCons (d2 (fEq false) (dVar 3) (dC (.int 0))) (dNil))) (dN fInt (dCons (d2 (fEq false) (dVar 3) (dC (.int 1))) (dNil))))) (dNil)))))
  (dDrop (dM fAppend (dVar 1) (dCons (dFrz 4) (dNil)))))))))
  (dSeq (dFor (diR2 (dCons (dC (.int 1)) (dCons (dN fLen (dCons (d2 fIx (dVar 0) (dC (.int 0))) (dNil))) (dNil)))) (dgN 2) (dDrop (dM fAppend (dVar 1) (dCons (d2 fAdd (dLc finT (diL (d2 fIx (dVar 0) (dC (.int 1)))) (dgN 5) (dYes) (dN fInt (dCons (d2 (fEq false) (d2 fIx (dVar 5) (dC (.int 3))) (dVar 2)) (dNil))) [5]) (dLc finT (diR1 (dCons (dN fLen (dCons (d2 fIx (dVar 0) (dC (.int 0))) (dNil))) (dNil))) (dgN 7) (dYes) (d2 (fI0 fun i j => .int (i - j)) (dC (.int 0)) (dN fInt (dCons (d2 (fEq false) (dVar 7) (dVar 2)) (dNil)))) [7])) (dNil)))))
  (dRet (dVar 1))))

theorem rp__law_every : ∀ ts Q, C__law_every ts Q → rd__law_every ⟨FinP Q (.t .non), FinP Q, fun _ => False, fun _ => False⟩ ⟨ts.map (fun t => some (W.t t)) ++ List.replicate (8 - ts.length) none, []⟩ := by
  rintro ts Q ⟨w, rfl, hok, hQ⟩
  have hr := hok.1.2.2.2
  have hp := hok.1.2.1
  unfold rd__law_every Web.t
  walk_at "dl"
  refine ⟨by decide, ?_⟩
  walk_at "dl"
  rw [List.length_map]
  refine ⟨by omega, ?_⟩
  refine forG (List.range w.places.length) (fun k => W.t (natT k)) (fun pre g' => ∃ (o2 o3 o4 o5 o6 o7 : Option W) (mem : Sto), g' = ⟨[some (.t (.tup [.lst (w.places.map T.int), .lst (w.rows.map Row.t)])), some (.h 0), o2, o3, o4, o5, o6, o7], mem⟩ ∧ mem[0]? = some (some (.lt ((pre.flatMap (rels1 w)).map runT))))
    (by rw [Int.toNat_natCast, rgW0]; rfl) ⟨_, _, _, _, _, _, _, rfl, rfl⟩ (fun _ _ _ => by trivial) ?_ ?_
  · rintro pre p post hsp g' ⟨o2, o3, o4, o5, o6, o7, mem, rfl, em⟩ N hN
    have hpr : p < w.places.length := List.mem_range.mp (by rw [hsp]; simp)
    have hplr : pre.length < w.places.length := by
      have := congrArg List.length hsp
      rw [List.length_append, List.length_cons, List.length_range] at this
      omega
    have hfl : (pre.flatMap (rels1 w)).length ≤ 16 * pre.length := flat_len (f := rels1 w) (n := 16) (xs := pre) fun q hq => rels1_len hok (List.mem_range.mp (by rw [hsp]; exact List.mem_append_left _ hq))
    have hpv := hok.2.1 _ (place_mem hpr)
    obtain ⟨pn, hpn⟩ := toI (i := w.place p) (by omega)
    have hix := place_at (w := w) (i := p) (by omega) (by omega)
    rw [hpn] at hpv hix
    have hr1 : rels1 w p = (List.range pn).map fun x : Nat => relAt w p (x : Int) := by
      unfold rels1
      rw [hpn, Int.toNat_natCast]
    unfold natT
    walk_at "dl"
    refine ⟨by omega, ?_⟩
    refine forG (List.range pn) (fun k => W.t (natT k)) (fun pre2 g' => ∃ (o3 o4 o5 o6 o7 : Option W) (mem : Sto), g' = ⟨[some (.t (.tup [.lst (w.places.map T.int), .lst (w.rows.map Row.t)])), some (.h 0), some (.t (.int p)), o3, o4, o5, o6, o7], mem⟩ ∧ mem[0]? = some (some (.lt ((pre.flatMap (rels1 w) ++ pre2.map fun x : Nat => relAt w p (x : Int)).map runT))))
      (by rw [Int.toNat_natCast, rgW0]; rfl) ⟨_, _, _, _, _, _, rfl, by rw [List.map_nil, List.append_nil]; exact em⟩ (fun _ _ _ => by trivial) ?_ ?_
    · rintro pre2 x post2 hsp2 g2 ⟨p3, p4, p5, p6, p7, mem2, rfl, em2⟩ N2 hN2
      have hxl : pre2.length < pn := by
        have := congrArg List.length hsp2
        rw [List.length_append, List.length_cons, List.length_range] at this
        omega
      have h0 := (List.getElem?_eq_some_iff.mp em2).1
      unfold natT
      walk_at "dl"
      refine ⟨by decide, ?_⟩
      walk_at "dl"
      have e0 : (mem2 ++ [some (Cell.lt [])])[0]? = mem2[0]? := List.getElem?_append_left h0
      refine forG w.rows (fun r => W.t r.t) (fun pre3 g' => ∃ (o5 o6 o7 : Option W) (mem : Sto), g' = ⟨[some (.t (.tup [.lst (w.places.map T.int), .lst (w.rows.map Row.t)])), some (.h 0), some (.t (.int p)), some (.t (.int x)), some (.h mem2.length), o5, o6, o7], mem⟩ ∧ mem[0]? = mem2[0]? ∧ mem[mem2.length]? = some (some (.lt ((pre3.map (relRow p x)).map T.int))))
        (by rw [List.map_map]; rfl) ⟨_, _, _, _, rfl, e0, at_last⟩ (fun _ _ z => by obtain ⟨_, _, _, _, rfl, _⟩ := z; rfl) ?_ ?_
      · rintro pre3 r post3 hsp3 g3 ⟨q5, q6, q7, mem3, rfl, em3, el3⟩ N3 hN3
        have hpl : pre3.length < w.rows.length := by
          have := congrArg List.length hsp3
          rw [List.length_append, List.length_cons] at this
          omega
        unfold Row.t
        walk_at "dl"
        refine ⟨isL_lt el3, ?_⟩
        walk_at "dl"
        refine i_fI (mulR (by split <;> decide) (by split <;> decide)) ?_
        walk_at "dl"
        refine i_append el3 (lineLt (by rw [List.length_map, List.length_map]; omega)) ?_
        rw [bI_if, bI_if, bI_if]
        have e5 : (bI (decide (r.e = (x : Int))) - bI (decide (r.s = (x : Int)))) * bI (decide (r.p = (p : Int))) = relRow p x r := lawRow_eq p x r
        rw [e5]
        simp only [G.put]
        refine hN3 _ ⟨_, _, _, _, rfl, ?_, ?_⟩
        · rw [List.getElem?_set_ne (by omega)]
          exact em3
        · rw [List.map_append, List.map_append]
          exact List.getElem?_set_self (List.getElem?_eq_some_iff.mp el3).1
      · rintro g3 ⟨q5, q6, q7, mem3, rfl, em3, el3⟩
        walk_at "dl"
        rw [List.length_map]
        refine ⟨by omega, ?_⟩
        refine forG (List.range w.places.length) (fun k => W.t (natT k)) (fun pre4 g' => ∃ (o5 o6 o7 : Option W) (mem : Sto), g' = ⟨[some (.t (.tup [.lst (w.places.map T.int), .lst (w.rows.map Row.t)])), some (.h 0), some (.t (.int p)), some (.t (.int x)), some (.h mem2.length), o5, o6, o7], mem⟩ ∧ mem[0]? = mem2[0]? ∧ mem[mem2.length]? = some (some (.lt ((w.rows.map (relRow p x) ++ pre4.map fun o : Nat => relBeg x * bI (decide ((o : Int) = p))).map T.int))))
          (by rw [Int.toNat_natCast, rgW0]; rfl) ⟨_, _, _, _, rfl, em3, by rw [List.map_nil, List.append_nil]; exact el3⟩ (fun _ _ _ => by trivial) ?_ ?_
        · rintro pre4 o post4 hsp4 g4 ⟨s5, s6, s7, mem4, rfl, em4, el4⟩ N4 hN4
          have hol : pre4.length < w.places.length := by
            have := congrArg List.length hsp4
            rw [List.length_append, List.length_cons, List.length_range] at this
            omega
          unfold natT
          walk_at "dl"
          refine ⟨isL_lt el4, ?_⟩
          walk_at "dl"
          refine i_fI (mulL (by split <;> decide) (by split <;> decide)) ?_
          walk_at "dl"
          refine i_append el4 (lineLt (by rw [List.length_map, List.length_append, List.length_map, List.length_map]; omega)) ?_
          rw [bI_if, bI_if, bI_if]
          have e5 : bI (decide ((o : Int) = (p : Int))) * (bI (decide ((x : Int) = 0)) - bI (decide ((x : Int) = 1))) = relBeg x * bI (decide ((o : Int) = p)) := Int.mul_comm _ _
          rw [e5]
          simp only [G.put]
          refine hN4 _ ⟨_, _, _, _, rfl, ?_, ?_⟩
          · rw [List.getElem?_set_ne (by omega)]
            exact em4
          · rw [List.map_append (l₁ := pre4), ← List.append_assoc, List.map_append (l₂ := List.map _ [o])]
            exact List.getElem?_set_self (List.getElem?_eq_some_iff.mp el4).1
        · rintro g4 ⟨s5, s6, s7, mem4, rfl, em4, el4⟩
          have e6 : w.rows.map (relRow p x) ++ (List.range w.places.length).map (fun o : Nat => relBeg x * bI (decide ((o : Int) = p))) = relAt w p x := rfl
          rw [e6] at el4
          rw [em2] at em4
          walk_at "dl"
          refine ⟨isL_lt em4, ?_⟩
          refine i_cons ?_
          refine i_frzH rfl el4 rfl ?_
          have n0 : ¬ (0 = mem2.length) := by omega
          unfold G.frz
          simp only [List.map_cons, List.map_nil, frzW, if_true, if_neg n0]
          have em5 : (mem4.set mem2.length none)[0]? = some (some (.lt ((pre.flatMap (rels1 w) ++ pre2.map fun x : Nat => relAt w p (x : Int)).map runT))) := by
            rw [List.getElem?_set_ne (by omega)]
            exact em4
          walk_at "dl"
          refine i_append em5 (lineLt (by rw [List.length_map, List.length_append, List.length_map]; omega)) ?_
          simp only [G.put]
          refine hN2 _ ⟨_, _, _, _, _, _, rfl, ?_⟩
          rw [List.map_append (l₁ := pre2), ← List.append_assoc, List.map_append (l₂ := List.map _ [x])]
          exact List.getElem?_set_self (List.getElem?_eq_some_iff.mp em5).1
    · rintro g2 ⟨p3, p4, p5, p6, p7, mem2, rfl, em2⟩
      refine hN _ ⟨_, _, _, _, _, _, mem2, rfl, ?_⟩
      rw [List.flatMap_append, List.flatMap_cons, List.flatMap_nil, List.append_nil, hr1]
      exact em2
  · rintro g' ⟨o2, o3, o4, o5, o6, o7, mem, rfl, em⟩
    walk_at "dl"
    rw [List.length_map]
    refine ⟨by omega, ?_⟩
    have hfl : ((List.range w.places.length).flatMap (rels1 w)).length ≤ 16 * (List.range w.places.length).length := flat_len (f := rels1 w) (n := 16) fun q hq => rels1_len hok (List.mem_range.mp hq)
    rw [List.length_range] at hfl
    refine forG (List.range (w.places.length - 1)) (fun k => W.t (.int (1 + (k : Nat)))) (fun pre g' => ∃ (o2 o3 o4 o5 o6 o7 : Option W) (mem : Sto), g' = ⟨[some (.t (.tup [.lst (w.places.map T.int), .lst (w.rows.map Row.t)])), some (.h 0), o2, o3, o4, o5, o6, o7], mem⟩ ∧ mem[0]? = some (some (.lt (((List.range w.places.length).flatMap (rels1 w) ++ pre.map fun x => relC w (1 + x)).map runT))))
      (by rw [show ((w.places.length : Int) - 1).toNat = w.places.length - 1 by omega, rgW_map]) ⟨_, _, _, _, _, _, _, rfl, by rw [List.map_nil, List.append_nil]; exact em⟩ (fun _ _ _ => by trivial) ?_ ?_
    · rintro pre x post hsp g2 ⟨p2, p3, p4, p5, p6, p7, mem2, rfl, em2⟩ N hN
      have hxl : pre.length < w.places.length := by
        have := congrArg List.length hsp
        rw [List.length_append, List.length_cons, List.length_range] at this
        omega
      walk_at "dl"
      refine ⟨isL_lt em2, ?_⟩
      walk_at "dl"
      refine lcP w.rows (fun r => W.t r.t) (fun _ => true) (fun r => T.int (bI (decide (r.c = ((1 + x : Nat) : Int))))) (by rw [List.map_map]; rfl) (lineLe (by omega)) rfl ?_ rfl ?_
      · intro r hr Y N2 hY hN2
        unfold Row.t
        walk_at "dl"
        rw [bI_if, show (1 : Int) + (x : Int) = ((1 + x : Nat) : Int) by omega]
        exact hY rfl _ rfl
      rw [List.filter_eq_self.mpr (fun _ _ => rfl)]
      walk_at "dl"
      rw [List.length_map]
      refine ⟨by omega, ?_⟩
      refine lcP (List.range w.places.length) (fun k => W.t (natT k)) (fun _ => true) (fun o => T.int (0 - bI (decide ((o : Int) = ((1 + x : Nat) : Int))))) (by rw [Int.toNat_natCast, rgW0]; rfl) (by rw [List.length_range]; exact lineLe (by omega)) trivial ?_ rfl ?_
      · intro o ho Y N2 hY hN2
        unfold natT
        walk_at "dl"
        rw [bI_if, show (1 : Int) + (x : Int) = ((1 + x : Nat) : Int) by omega]
        exact hY rfl _ rfl
      rw [List.filter_eq_self.mpr (fun _ _ => rfl)]
      walk_at "dl"
      refine i_addL (xs := w.rows.map fun r => T.int (bI (decide (r.c = ((1 + x : Nat) : Int))))) (ys := (List.range w.places.length).map fun o : Nat => T.int (0 - bI (decide ((o : Int) = ((1 + x : Nat) : Int))))) rfl rfl (lineLe (by rw [List.length_map, List.length_map, List.length_range]; omega)) ?_
      have e : (w.rows.map fun r => T.int (bI (decide (r.c = ((1 + x : Nat) : Int))))) ++ ((List.range w.places.length).map fun o : Nat => T.int (0 - bI (decide ((o : Int) = ((1 + x : Nat) : Int))))) = (relC w (1 + x)).map T.int := by
        unfold relC
        rw [List.map_append, List.map_map, List.map_map]
        rfl
      rw [e]
      walk_at "dl"
      refine i_append em2 (lineLt (by rw [List.length_map, List.length_append, List.length_map]; omega)) ?_
      simp only [G.put]
      refine hN _ ⟨_, _, _, _, _, _, _, rfl, ?_⟩
      rw [List.map_append (l₁ := pre), ← List.append_assoc, List.map_append (l₂ := List.map _ [x])]
      exact List.getElem?_set_self (List.getElem?_eq_some_iff.mp em2).1
    · rintro g2 ⟨p2, p3, p4, p5, p6, p7, mem2, rfl, em2⟩
      have e : (List.range w.places.length).flatMap (rels1 w) ++ (List.range (w.places.length - 1)).map (fun x => relC w (1 + x)) = rels w := by
        unfold rels
        rw [List.range'_eq_map_range, List.map_map]
        rfl
      rw [e] at em2
      walk_at "dl"
      exact e_h em2 rfl hQ
/-! rows taken one behind the other from those left -/
def chn (w : Web) (p : Int) : Int → List Nat → Int → Prop
  | x, [], y => x = y
  | x, k :: ks, y => k < w.rows.length ∧ (w.row k).p = p ∧ (w.row k).s = x ∧ chn w p (w.row k).e ks y
theorem chn_app {w : Web} {p : Int} : ∀ {x y z : Int} {ks js : List Nat}, chn w p x ks y → chn w p y js z → chn w p x (ks ++ js) z
  | x, y, z, [], js, h, h' => by have : x = y := h; rw [this]; exact h'
  | x, y, z, k :: ks, js, h, h' => ⟨h.1, h.2.1, h.2.2.1, chn_app (ks := ks) h.2.2.2 h'⟩
theorem chn_split {w : Web} {p : Int} : ∀ {x z : Int} {ks js : List Nat}, chn w p x (ks ++ js) z → ∃ y, chn w p x ks y ∧ chn w p y js z
  | x, z, [], js, h => ⟨x, rfl, h⟩
  | x, z, k :: ks, js, h => by
    obtain ⟨y, h1, h2⟩ := chn_split (ks := ks) h.2.2.2
    exact ⟨y, ⟨h.1, h.2.1, h.2.2.1, h1⟩, h2⟩
theorem chn_in {w : Web} {p : Int} : ∀ {x y : Int} {ks : List Nat}, chn w p x ks y → ∀ k ∈ ks, k < w.rows.length ∧ (w.row k).p = p
  | _, _, [], _, k, h => by cases h
  | x, y, k' :: ks, h, k, hk => by
    rcases List.mem_cons.mp hk with z | z
    · rw [z]; exact ⟨h.1, h.2.1⟩
    · exact chn_in (ks := ks) h.2.2.2 k z
abbrev Lft := Nat → Nat
def decL (L : Lft) (k : Nat) : Lft := fun j => if j = k then L j - 1 else L j
def okR (w : Web) (L : Lft) (x : Int) (k : Nat) : Bool := decide (0 < L k) && decide ((w.row k).s = x)
def fromL (w : Web) (p : Int) (L : Lft) (x : Int) : List Nat := (w.rowsOf p).filter (okR w L x)
inductive Trl (w : Web) (p : Int) : Lft → Int → List Nat → Lft → Int → Prop
  | stop {L : Lft} {x : Int} (h : fromL w p L x = []) : Trl w p L x [] L x
  | go {L L' : Lft} {x y : Int} {k : Nat} {r ks : List Nat} (h : fromL w p L x = k :: r) (t : Trl w p (decL L k) (w.row k).e ks L' y) : Trl w p L x (k :: ks) L' y
theorem mem_fromL {w : Web} {p x : Int} {L : Lft} {k : Nat} : k ∈ fromL w p L x ↔ (k < w.rows.length ∧ (w.row k).p = p) ∧ 0 < L k ∧ (w.row k).s = x := by
  unfold fromL okR
  rw [List.mem_filter, mem_rowsOf, Bool.and_eq_true, decide_eq_true_eq, decide_eq_true_eq]
theorem fromL_head {w : Web} {p x : Int} {L : Lft} {k : Nat} {r : List Nat} (h : fromL w p L x = k :: r) : (k < w.rows.length ∧ (w.row k).p = p) ∧ 0 < L k ∧ (w.row k).s = x := mem_fromL.mp (by rw [h]; simp)
theorem fromL_nil {w : Web} {p x : Int} {L : Lft} (h : fromL w p L x = []) {k : Nat} (h1 : k < w.rows.length) (h2 : (w.row k).p = p) (h3 : (w.row k).s = x) : L k = 0 := by
  rcases Nat.eq_zero_or_pos (L k) with c | c
  · exact c
  · have : k ∈ fromL w p L x := mem_fromL.mpr ⟨⟨h1, h2⟩, c, h3⟩
    rw [h] at this
    cases this
section
variable {w : Web} {p : Int}
theorem Trl.chn {L L' : Lft} {x y : Int} {ks : List Nat} (h : Trl w p L x ks L' y) : DL.chn w p x ks y := by
  induction h with
  | stop _ => exact rfl
  | go h t ih =>
    obtain ⟨h1, h2, h3⟩ := fromL_head h
    exact ⟨h1.1, h1.2, h3, ih⟩
theorem Trl.cnt {L L' : Lft} {x y : Int} {ks : List Nat} (h : Trl w p L x ks L' y) : ∀ j, L' j + ks.count j = L j := by
  induction h with
  | stop _ => intro j; rfl
  | @go L L' x y k r ks h t ih =>
    intro j
    obtain ⟨h1, h2, h3⟩ := fromL_head h
    have := ih j
    unfold decL at this
    rw [List.count_cons]
    by_cases c : j = k
    · subst c
      rw [if_pos rfl] at this
      rw [if_pos (beq_self_eq_true j)]
      omega
    · rw [if_neg c] at this
      rw [if_neg (by simpa using fun z => c z.symm)]
      omega
theorem Trl.stuck {L L' : Lft} {x y : Int} {ks : List Nat} (h : Trl w p L x ks L' y) : fromL w p L' y = [] := by
  induction h with
  | stop h => exact h
  | go _ _ ih => exact ih
/-- what leaves a place less what comes to it -/
def excT (w : Web) (L : Lft) (v : Int) (k : Nat) : Int := ((if (w.row k).s = v then (L k : Int) else 0) - (if (w.row k).e = v then (L k : Int) else 0))
def exc (w : Web) (p : Int) (L : Lft) (v : Int) : Int := ((w.rowsOf p).map (excT w L v)).sum
def one (c : Prop) [Decidable c] : Int := if c then 1 else 0
theorem sum_upd {f g : Nat → Int} {d : Int} {k : Nat} (h1 : ∀ j, j ≠ k → g j = f j) (h2 : g k = f k - d) : ∀ {ks : List Nat}, ks.Nodup → k ∈ ks → (ks.map g).sum = (ks.map f).sum - d
  | [], _, h => by cases h
  | j :: ks, nd, h => by
    obtain ⟨n1, n2⟩ := List.nodup_cons.mp nd
    rw [List.map_cons, List.map_cons, List.sum_cons, List.sum_cons]
    by_cases c : j = k
    · subst c
      have e : ks.map g = ks.map f := List.map_congr_left fun i hi => h1 i fun z => n1 (z ▸ hi)
      rw [e, h2]
      omega
    · have hk : k ∈ ks := (List.mem_cons.mp h).resolve_left (fun z => c z.symm)
      rw [h1 j c, sum_upd h1 h2 n2 hk]
      omega
theorem rowsOf_nd (w : Web) (p : Int) : (w.rowsOf p).Nodup := by
  unfold Web.rowsOf
  exact List.nodup_range.filter _
theorem exc_dec {L : Lft} {k : Nat} (h : k < w.rows.length ∧ (w.row k).p = p) (h0 : 0 < L k) (v : Int) : exc w p (decL L k) v = exc w p L v - (one ((w.row k).s = v) - one ((w.row k).e = v)) := by
  unfold exc
  refine sum_upd (k := k) (fun j hj => ?_) ?_ (rowsOf_nd w p) (mem_rowsOf.mpr h)
  · unfold excT decL
    rw [if_neg hj]
  · unfold excT decL one
    rw [if_pos rfl]
    have e : ((L k - 1 : Nat) : Int) = (L k : Int) - 1 := by omega
    rw [e]
    by_cases c1 : (w.row k).s = v <;> by_cases c2 : (w.row k).e = v <;> simp only [c1, c2, if_true, if_false] <;> omega
theorem Trl.exc {L L' : Lft} {x y : Int} {ks : List Nat} (h : Trl w p L x ks L' y) (v : Int) : DL.exc w p L' v = DL.exc w p L v - (one (x = v) - one (y = v)) := by
  induction h with
  | stop _ => omega
  | @go L L' x y k r ks h t ih =>
    obtain ⟨h1, h2, h3⟩ := fromL_head h
    rw [ih, exc_dec h1 h2, h3]
    omega
theorem exc_stuck {L : Lft} {y : Int} (h : fromL w p L y = []) : exc w p L y ≤ 0 := by
  have key : ∀ ks : List Nat, (∀ k ∈ ks, k < w.rows.length ∧ (w.row k).p = p) → (ks.map (excT w L y)).sum ≤ 0 := by
    intro ks
    induction ks with
    | nil => intro _; exact Int.le_refl _
    | cons k ks ih =>
      intro hk
      rw [List.map_cons, List.sum_cons]
      have h1 := ih fun j hj => hk j (by simp [hj])
      have h2 : excT w L y k ≤ 0 := by
        obtain ⟨a, b⟩ := hk k (by simp)
        unfold excT
        by_cases c : (w.row k).s = y
        · have := fromL_nil h a b c
          rw [if_pos c, this]
          split <;> simp
        · rw [if_neg c]
          split <;> omega
      omega
  exact key _ fun k hk => mem_rowsOf.mp hk
/-- a trail from 0 with runs still to begin ends at 1 -/
theorem Trl.run {L L' : Lft} {y : Int} {ks : List Nat} {b : Int} (h : Trl w p L 0 ks L' y) (hb : 0 < b) (hE : ∀ v, DL.exc w p L v = b * (one (0 = v) - one (1 = v))) : y = 1 ∧ ∀ v, DL.exc w p L' v = (b - 1) * (one (0 = v) - one (1 = v)) := by
  have h1 := exc_stuck h.stuck
  have hy : y = 1 := by
    rw [h.exc y, hE y] at h1
    unfold one at h1
    rw [if_pos (rfl : y = y)] at h1
    by_cases c1 : (1 : Int) = y
    · exact c1.symm
    · exfalso
      rw [if_neg c1] at h1
      by_cases c0 : (0 : Int) = y
      · rw [if_pos c0] at h1; simp at h1; omega
      · rw [if_neg c0] at h1; simp at h1
  refine ⟨hy, fun v => ?_⟩
  rw [h.exc v, hE v, hy, Int.sub_mul, Int.one_mul]
/-- a trail where all is balanced comes back -/
theorem Trl.back {L L' : Lft} {x y : Int} {ks : List Nat} (h : Trl w p L x ks L' y) (hE : ∀ v, DL.exc w p L v = 0) : y = x ∧ ∀ v, DL.exc w p L' v = 0 := by
  have h1 := exc_stuck h.stuck
  have hy : y = x := by
    rw [h.exc y, hE y] at h1
    unfold one at h1
    rw [if_pos (rfl : y = y)] at h1
    by_cases c : x = y
    · exact c.symm
    · exfalso
      rw [if_neg c] at h1
      omega
  subst hy
  exact ⟨rfl, fun v => by rw [h.exc v, hE v]; omega⟩
/-- rounds put in ahead of each row -/
inductive InsR (w : Web) (p : Int) : Lft → List Nat → List Nat → Lft → List Nat → Prop
  | done {L : Lft} {pre : List Nat} : InsR w p L pre [] L pre
  | step {L L1 L' : Lft} {pre rest t rest' fin : List Nat} {k h : Nat} {y : Int} (T : Trl w p L (w.row k).s t L1 y) (e : t ++ k :: rest = h :: rest') (n : InsR w p L1 (pre ++ [h]) rest' L' fin) : InsR w p L pre (k :: rest) L' fin
def Shut0 (w : Web) (p : Int) (L : Lft) (x : Int) : Prop := ∀ k, k < w.rows.length → (w.row k).p = p → (w.row k).s = x → L k = 0
theorem InsR.ok {L L' : Lft} {pre rest fin : List Nat} (h : InsR w p L pre rest L' fin) : (∀ v, DL.exc w p L v = 0) → ∀ {a b : Int}, DL.chn w p a (pre ++ rest) b → (∀ j ∈ pre, Shut0 w p L (w.row j).s) →
    DL.chn w p a fin b ∧ (∀ v, DL.exc w p L' v = 0) ∧ (∀ j, L' j + fin.count j = L j + (pre ++ rest).count j) ∧ (∀ j ∈ fin, Shut0 w p L' (w.row j).s) ∧ (∀ j, L' j ≤ L j) := by
  induction h with
  | done =>
    intro hE a b hc hs
    rw [List.append_nil] at hc
    exact ⟨hc, hE, fun j => by rw [List.append_nil], hs, fun _ => Nat.le_refl _⟩
  | @step L L1 L' pre rest t rest' fin k h y T e n ih =>
    intro hE a b hc hs
    obtain ⟨hy, hE1⟩ := T.back hE
    subst hy
    have hcnt := T.cnt
    have hle : ∀ j, L1 j ≤ L j := fun j => by have := hcnt j; omega
    obtain ⟨z, c1, c2⟩ := chn_split hc
    have ez : (w.row k).s = z := c2.2.2.1
    have hc' : DL.chn w p a ((pre ++ [h]) ++ rest') b := by
      rw [List.append_assoc, List.singleton_append, ← e]
      refine chn_app c1 (chn_app ?_ c2)
      have := T.chn
      rw [ez] at this
      exact this
    have hh : (w.row h).s = (w.row k).s := by
      cases t with
      | nil => cases e; rfl
      | cons t0 t =>
        cases e
        exact T.chn.2.2.1
    obtain ⟨r1, r2, r3, r4, r5⟩ := ih hE1 hc' (fun j hj => by
      rcases List.mem_append.mp hj with q | q
      · exact fun i i1 i2 i3 => by have := hs j q i i1 i2 i3; have := hle i; omega
      · rw [List.mem_singleton.mp q, hh]
        exact fun i i1 i2 i3 => fromL_nil T.stuck i1 i2 i3)
    refine ⟨r1, r2, fun j => ?_, r4, fun j => Nat.le_trans (r5 j) (hle j)⟩
    have h1 := r3 j
    have h2 := hcnt j
    have h3 : (pre ++ [h] ++ rest').count j = pre.count j + (t.count j + (k :: rest).count j) := by
      rw [List.append_assoc, List.singleton_append, ← e, List.count_append, List.count_append]
    rw [h3] at h1
    rw [List.count_append]
    omega
/-- all runs of a part -/
inductive Runs1 (w : Web) (p : Int) : Lft → List (List Nat) → Lft → Prop
  | nil {L : Lft} : Runs1 w p L [] L
  | cons {L L1 L' : Lft} {t : List Nat} {rs : List (List Nat)} {y : Int} (T : Trl w p L 0 t L1 y) (n : Runs1 w p L1 rs L') : Runs1 w p L (t :: rs) L'
inductive Runs2 (w : Web) (p : Int) : Lft → List (List Nat) → Lft → List (List Nat) → Prop
  | nil {L : Lft} : Runs2 w p L [] L []
  | cons {L L1 L' : Lft} {t u : List Nat} {rs us : List (List Nat)} (T : InsR w p L [] t L1 u) (n : Runs2 w p L1 rs L' us) : Runs2 w p L (t :: rs) L' (u :: us)
def cntRs (rs : List (List Nat)) (j : Nat) : Nat := (rs.map fun r => r.count j).sum
theorem Runs1.ok {L L' : Lft} {rs : List (List Nat)} (h : Runs1 w p L rs L') : (∀ v, DL.exc w p L v = (rs.length : Int) * (one (0 = v) - one (1 = v))) → (∀ r ∈ rs, DL.chn w p 0 r 1) ∧ (∀ v, DL.exc w p L' v = 0) ∧ ∀ j, L' j + cntRs rs j = L j := by
  induction h with
  | nil =>
    intro hE
    refine ⟨fun r hr => (by cases hr), fun v => (by rw [hE v]; simp), fun j => ?_⟩
    exact Nat.add_zero _
  | @cons L L1 L' t rs y T n ih =>
    intro hE
    have hb : (0 : Int) < ((t :: rs).length : Int) := by rw [List.length_cons]; omega
    obtain ⟨hy, hE1⟩ := T.run hb hE
    have e : (((t :: rs).length : Nat) : Int) - 1 = (rs.length : Nat) := by rw [List.length_cons]; omega
    rw [e] at hE1
    obtain ⟨r1, r2, r3⟩ := ih hE1
    refine ⟨fun r hr => ?_, r2, fun j => ?_⟩
    · rcases List.mem_cons.mp hr with z | z
      · have := T.chn
        rw [z]
        rw [hy] at this
        exact this
      · exact r1 r z
    · have h1 := T.cnt j
      have h2 := r3 j
      show L' j + (((t :: rs).map fun r => r.count j).sum) = L j
      rw [List.map_cons, List.sum_cons]
      unfold cntRs at h2
      omega
theorem Runs2.ok {L L' : Lft} {rs us : List (List Nat)} (h : Runs2 w p L rs L' us) : (∀ v, DL.exc w p L v = 0) → (∀ r ∈ rs, DL.chn w p 0 r 1) → (∀ u ∈ us, DL.chn w p 0 u 1) ∧ us.length = rs.length ∧ (∀ j, L' j + cntRs us j = L j + cntRs rs j) ∧ (∀ u ∈ us, ∀ j ∈ u, Shut0 w p L' (w.row j).s) ∧ ∀ j, L' j ≤ L j := by
  induction h with
  | nil => intro _ _; exact ⟨fun u hu => (by cases hu), rfl, fun j => rfl, fun u hu => (by cases hu), fun _ => Nat.le_refl _⟩
  | @cons L L1 L' t u rs us T n ih =>
    intro hE hr
    obtain ⟨q1, q2, q3, q4, q5⟩ := T.ok hE (a := 0) (b := 1) (hr t (by simp)) (fun j hj => by cases hj)
    obtain ⟨r1, r2, r3, r4, r5⟩ := ih q2 fun r h => hr r (by simp [h])
    refine ⟨fun x hx => ?_, by rw [List.length_cons, List.length_cons, r2], fun j => ?_, fun x hx j hj => ?_, fun j => Nat.le_trans (r5 j) (q5 j)⟩
    · rcases List.mem_cons.mp hx with z | z
      · rw [z]; exact q1
      · exact r1 x z
    · have h1 := q3 j
      have h2 := r3 j
      show L' j + (((u :: us).map fun r => r.count j).sum) = L j + (((t :: rs).map fun r => r.count j).sum)
      rw [List.map_cons, List.map_cons, List.sum_cons, List.sum_cons]
      unfold cntRs at h2
      rw [List.nil_append] at h1
      omega
    · rcases List.mem_cons.mp hx with z | z
      · rw [z] at hj
        exact fun i i1 i2 i3 => by have := q4 j hj i i1 i2 i3; have := r5 i; omega
      · exact r4 x z j hj
/-- where each row with a number hangs on, nothing is left -/
inductive HangR (w : Web) (p : Int) (N : Nat → Nat) : Int → Prop
  | zero : HangR w p N 0
  | step {k : Nat} (h : HangR w p N (w.row k).s) (h1 : k < w.rows.length) (h2 : (w.row k).p = p) (h3 : 0 < N k) : HangR w p N (w.row k).e
theorem chn_next {x y : Int} : ∀ {ks : List Nat} {k : Nat}, DL.chn w p x ks y → k ∈ ks → (w.row k).e = y ∨ ∃ j ∈ ks, (w.row j).s = (w.row k).e
  | [], k, _, h => by cases h
  | k0 :: ks, k, hc, h => by
    rcases List.mem_cons.mp h with z | z
    · subst z
      cases ks with
      | nil => exact .inl hc.2.2.2
      | cons k1 ks => exact .inr ⟨k1, by simp, hc.2.2.2.2.2.1⟩
    · rcases chn_next (ks := ks) hc.2.2.2 z with q | ⟨j, hj, q⟩
      · exact .inl q
      · exact .inr ⟨j, by simp [hj], q⟩
theorem all_gone {N L' : Lft} {us : List (List Nat)} (hok : w.Ok) (hc : ∀ u ∈ us, DL.chn w p 0 u 1) (hsum : ∀ j, j < w.rows.length → (w.row j).p = p → L' j + cntRs us j = N j) (hs : ∀ u ∈ us, ∀ j ∈ u, Shut0 w p L' (w.row j).s) (hne : us ≠ []) (hH : ∀ k, k < w.rows.length → (w.row k).p = p → 0 < N k → HangR w p N (w.row k).s) :
    ∀ k, k < w.rows.length → (w.row k).p = p → L' k = 0 := by
  have sh : ∀ v, HangR w p N v → v = 1 ∨ Shut0 w p L' v := by
    intro v h
    induction h with
    | zero =>
      obtain ⟨u, us', e⟩ := List.exists_cons_of_ne_nil hne
      have hu := hc u (by rw [e]; simp)
      cases u with
      | nil =>
        have h01 : (0 : Int) = 1 := hu
        omega
      | cons k0 u =>
        have h1 := hs (k0 :: u) (by rw [e]; simp) k0 (by simp)
        rw [hu.2.2.1] at h1
        exact .inr h1
    | @step k h h1 h2 h3 ih =>
      have hx : (w.row k).s ≠ 1 := (hok.2.2.1 _ (row_mem h1)).2.2.2.2.2.2.1
      have hs0 := (ih.resolve_left hx) k h1 h2 rfl
      have hsm := hsum k h1 h2
      have hpos : 0 < cntRs us k := by omega
      obtain ⟨u, hu, hk⟩ : ∃ u ∈ us, k ∈ u := by
        refine Classical.byContradiction fun hn => ?_
        have : cntRs us k = 0 := by
          unfold cntRs
          have : us.map (fun r => r.count k) = us.map fun _ => 0 := List.map_congr_left fun r hr => List.count_eq_zero.mpr fun hk => hn ⟨r, hr, hk⟩
          rw [this]
          clear this hpos hsm hne hsum hc hs hH
          induction us with
          | nil => rfl
          | cons u us ih => rw [List.map_cons, List.sum_cons, Nat.zero_add]; exact ih (fun ⟨r, hr, hk⟩ => hn ⟨r, by simp [hr], hk⟩)
        omega
      rcases chn_next (hc u hu) hk with q | ⟨j, hj, q⟩
      · exact .inl q
      · have := hs u hu j hj
        rw [q] at this
        exact .inr this
  intro k h1 h2
  rcases Nat.eq_zero_or_pos (N k) with c | c
  · have := hsum k h1 h2; omega
  · have hx : (w.row k).s ≠ 1 := (hok.2.2.1 _ (row_mem h1)).2.2.2.2.2.2.1
    exact ((sh _ (hH k h1 h2 c)).resolve_left hx) k h1 h2 rfl
end
/-! runs of called parts put in -/
def wk (w : Web) (s : Stk) (ks : List Int) : Option Stk := ks.foldl (fun o k => o.bind fun s => stp w s k) (some s)
theorem wk_cons {w : Web} {s s1 : Stk} {k : Int} {ks : List Int} (h : stp w s k = some s1) : wk w s (k :: ks) = wk w s1 ks := by
  unfold wk
  rw [List.foldl_cons]
  show ks.foldl _ (stp w s k) = _
  rw [h]
theorem wk_app {w : Web} {s s1 : Stk} {as bs : List Int} (h : wk w s as = some s1) : wk w s (as ++ bs) = wk w s1 bs := by
  unfold wk at h ⊢
  rw [List.foldl_append, h]
abbrev Wt := Nat → List (List Int)
def updW (Ws : Wt) (c : Nat) (v : List (List Int)) : Wt := fun j => if j = c then v else Ws j
inductive Cin (w : Web) : Wt → List Nat → List Int → Wt → Prop
  | nil {Ws : Wt} : Cin w Ws [] [] Ws
  | plain {Ws Ws' : Wt} {k : Nat} {ks : List Nat} {out : List Int} (h : (w.row k).c < 0) (t : Cin w Ws ks out Ws') : Cin w Ws (k :: ks) ((k : Int) :: out) Ws'
  | call {Ws Ws' : Wt} {k c : Nat} {ks : List Nat} {sub out : List Int} {ini : List (List Int)} (h : (w.row k).c = (c : Nat)) (e : Ws c = ini ++ [sub]) (t : Cin w (updW Ws c ini) ks out Ws') : Cin w Ws (k :: ks) ((k : Int) :: (sub ++ out)) Ws'
def callsTo (w : Web) (c : Nat) (ks : List Nat) : Nat := (ks.filter fun k => decide ((w.row k).c = (c : Nat))).length
theorem callsTo_cons (w : Web) (c k : Nat) (ks : List Nat) : callsTo w c (k :: ks) = (if (w.row k).c = (c : Nat) then 1 else 0) + callsTo w c ks := by
  unfold callsTo
  rw [List.filter_cons]
  by_cases h : (w.row k).c = (c : Nat)
  · rw [if_pos (decide_eq_true h), if_pos h, List.length_cons]; omega
  · rw [if_neg (by simpa using h), if_neg h]; omega
section
variable {w : Web}
theorem Cin.len {Ws Ws' : Wt} {ks : List Nat} {out : List Int} (h : Cin w Ws ks out Ws') : ∀ c, (Ws' c).length + callsTo w c ks = (Ws c).length := by
  induction h with
  | nil => intro c; rfl
  | plain h t ih =>
    intro c
    rw [callsTo_cons, if_neg (by omega), Nat.zero_add]
    exact ih c
  | @call Ws Ws' k c ks sub out ini h e t ih =>
    intro d
    have h1 := ih d
    rw [callsTo_cons]
    unfold updW at h1
    by_cases hd : d = c
    · subst hd
      rw [if_pos rfl] at h1
      rw [if_pos h, e, List.length_append, List.length_singleton]
      omega
    · rw [if_neg hd] at h1
      rw [if_neg (by rw [h]; omega)]
      omega
def FR (w : Web) (p : Nat) (sub : List Int) : Prop := ∀ s : Stk, wk w (((p : Int), 0) :: s) sub = some (popE s)
theorem popE_ne {p x : Int} {s : Stk} (hx : x ≠ 1) : popE ((p, x) :: s) = (p, x) :: s := popE_last rfl hx
theorem popE_one {p : Int} {s : Stk} : popE ((p, 1) :: s) = popE s := by rw [popE, if_pos rfl]
theorem Cin.fr (hok : w.Ok) {Ws Ws' : Wt} {ks : List Nat} {out : List Int} (h : Cin w Ws ks out Ws') : (∀ c, ∀ r ∈ Ws c, FR w c r) → (∀ c, ∀ r ∈ Ws' c, FR w c r) ∧ ∀ {p x y : Int} {s : Stk}, chn w p x ks y → wk w (popE ((p, x) :: s)) out = some (popE ((p, y) :: s)) := by
  induction h with
  | nil =>
    intro hW
    refine ⟨hW, fun {p x y s} hc => ?_⟩
    have : x = y := hc
    rw [this]
    rfl
  | @plain Ws Ws' k ks out h t ih =>
    intro hW
    obtain ⟨i1, i2⟩ := ih hW
    refine ⟨i1, fun {p x y s} hc => ?_⟩
    obtain ⟨c1, c2, c3, c4⟩ := hc
    have hx : x ≠ 1 := by rw [← c3]; exact (hok.2.2.1 _ (row_mem c1)).2.2.2.2.2.2.1
    rw [popE_ne hx, wk_cons (stp_in (mem_fromP.mpr ⟨c1, c2, c3⟩))]
    have := i2 (s := s) c4
    unfold bhd
    rw [if_neg (by omega), c2]
    exact this
  | @call Ws Ws' k c ks sub out ini h e t ih =>
    intro hW
    obtain ⟨i1, i2⟩ := ih fun d r hr => by
      unfold updW at hr
      by_cases hd : d = c
      · rw [if_pos hd] at hr
        rw [hd]
        exact hW c r (by rw [e]; exact List.mem_append_left _ hr)
      · rw [if_neg hd] at hr
        exact hW d r hr
    refine ⟨i1, fun {p x y s} hc => ?_⟩
    obtain ⟨c1, c2, c3, c4⟩ := hc
    have hx : x ≠ 1 := by rw [← c3]; exact (hok.2.2.1 _ (row_mem c1)).2.2.2.2.2.2.1
    rw [popE_ne hx, wk_cons (stp_in (mem_fromP.mpr ⟨c1, c2, c3⟩))]
    have hs := hW c sub (by rw [e]; simp) ((p, (w.row k).e) :: s)
    have eb : bhd w k s = ((c : Int), 0) :: (p, (w.row k).e) :: s := by
      unfold bhd
      rw [if_pos (by omega), h, c2, popE_ne (by decide)]
    rw [eb, wk_app hs]
    exact i2 (s := s) c4
def totW (n : Nat) (Ws : Wt) (j : Nat) : Nat := ((List.range n).map fun c => ((Ws c).map fun r => r.count (j : Int)).sum).sum
theorem sum_updN {f g : Nat → Nat} {d k : Nat} (h1 : ∀ j, j ≠ k → g j = f j) (h2 : f k = g k + d) : ∀ {ks : List Nat}, ks.Nodup → k ∈ ks → (ks.map f).sum = (ks.map g).sum + d
  | [], _, h => by cases h
  | j :: ks, nd, h => by
    obtain ⟨n1, n2⟩ := List.nodup_cons.mp nd
    rw [List.map_cons, List.map_cons, List.sum_cons, List.sum_cons]
    by_cases c : j = k
    · subst c
      have e : ks.map g = ks.map f := List.map_congr_left fun i hi => h1 i fun z => n1 (z ▸ hi)
      rw [e, h2]
      omega
    · have hk : k ∈ ks := (List.mem_cons.mp h).resolve_left (fun z => c z.symm)
      rw [h1 j c, sum_updN h1 h2 n2 hk]
      omega
theorem totW_pop {n : Nat} {Ws : Wt} {c : Nat} {ini : List (List Int)} {sub : List Int} (hc : c < n) (e : Ws c = ini ++ [sub]) (j : Nat) : totW n Ws j = totW n (updW Ws c ini) j + sub.count (j : Int) := by
  unfold totW
  refine sum_updN (k := c) (fun i hi => ?_) ?_ List.nodup_range (List.mem_range.mpr hc)
  · unfold updW
    rw [if_neg hi]
  · unfold updW
    rw [if_pos rfl, e, List.map_append, List.sum_append]
    simp
theorem totW_put {n : Nat} {Ws : Wt} {q : Nat} {rs : List (List Int)} (hq : q < n) (e : Ws q = []) (j : Nat) : totW n (updW Ws q rs) j = totW n Ws j + (rs.map fun r => r.count (j : Int)).sum := by
  unfold totW
  refine sum_updN (k := q) (fun i hi => ?_) ?_ List.nodup_range (List.mem_range.mpr hq)
  · unfold updW
    rw [if_neg hi]
  · unfold updW
    rw [if_pos rfl, e]
    simp
theorem count_cast (k j : Nat) (ks : List Int) : ((k : Int) :: ks).count (j : Int) = (if k = j then 1 else 0) + ks.count (j : Int) := by
  rw [List.count_cons]
  by_cases h : k = j
  · rw [if_pos h, h, if_pos (beq_self_eq_true _)]; omega
  · rw [if_neg h, if_neg (by simpa using fun z : (k : Int) = j => h (Int.ofNat.inj z))]; omega
theorem count_castN (k j : Nat) (ks : List Nat) : (k :: ks).count j = (if k = j then 1 else 0) + ks.count j := by
  rw [List.count_cons]
  by_cases h : k = j
  · rw [if_pos h, h, if_pos (beq_self_eq_true _)]; omega
  · rw [if_neg h, if_neg (by simpa using h)]; omega
theorem Cin.cnt {n : Nat} {Ws Ws' : Wt} {ks : List Nat} {out : List Int} (h : Cin w Ws ks out Ws') : (∀ k ∈ ks, (w.row k).c < (n : Nat)) → ∀ j : Nat, out.count (j : Int) + totW n Ws' j = ks.count j + totW n Ws j := by
  induction h with
  | nil => intro _ j; rfl
  | plain h t ih =>
    intro hk j
    have := ih (fun i hi => hk i (by simp [hi])) j
    rw [count_cast, count_castN]
    omega
  | @call Ws Ws' k c ks sub out ini h e t ih =>
    intro hk j
    have hc := hk k (by simp)
    have := ih (fun i hi => hk i (by simp [hi])) j
    have h2 := totW_pop (n := n) (c := c) (by omega) e j
    rw [count_cast, count_castN, List.count_append]
    omega
inductive Cins (w : Web) : Wt → List (List Nat) → List (List Int) → Wt → Prop
  | nil {Ws : Wt} : Cins w Ws [] [] Ws
  | cons {Ws Ws1 Ws' : Wt} {u : List Nat} {us : List (List Nat)} {o : List Int} {os : List (List Int)} (h : Cin w Ws u o Ws1) (t : Cins w Ws1 us os Ws') : Cins w Ws (u :: us) (o :: os) Ws'
def callsR (w : Web) (c : Nat) (us : List (List Nat)) : Nat := (us.map (callsTo w c)).sum
theorem Cins.ok (hok : w.Ok) {n : Nat} {Ws Ws' : Wt} {us : List (List Nat)} {os : List (List Int)} (h : Cins w Ws us os Ws') : (∀ c, ∀ r ∈ Ws c, FR w c r) → ∀ {q : Nat}, (∀ u ∈ us, chn w q 0 u 1) → (∀ u ∈ us, ∀ k ∈ u, (w.row k).c < (n : Nat)) →
    (∀ c, ∀ r ∈ Ws' c, FR w c r) ∧ (∀ o ∈ os, FR w q o) ∧ os.length = us.length ∧ (∀ c, (Ws' c).length + callsR w c us = (Ws c).length) ∧ ∀ j : Nat, (os.map fun r => r.count (j : Int)).sum + totW n Ws' j = cntRs us j + totW n Ws j := by
  induction h with
  | nil => intro hW q _ _; exact ⟨hW, fun o ho => (by cases ho), rfl, fun c => rfl, fun j => rfl⟩
  | @cons Ws Ws1 Ws' u us o os t t' ih =>
    intro hW q hu hk
    obtain ⟨a1, a2⟩ := t.fr hok hW
    obtain ⟨b1, b2, b3, b4, b5⟩ := ih a1 (q := q) (fun x hx => hu x (by simp [hx])) (fun x hx => hk x (by simp [hx]))
    refine ⟨b1, fun x hx => ?_, by rw [List.length_cons, List.length_cons, b3], fun c => ?_, fun j => ?_⟩
    · rcases List.mem_cons.mp hx with z | z
      · rw [z]
        intro s
        have := a2 (s := s) (hu u (by simp))
        rw [popE_ne (by decide), popE_one] at this
        exact this
      · exact b2 x z
    · have h1 := t.len c
      have h2 := b4 c
      have e : callsR w c (u :: us) = callsTo w c u + callsR w c us := by unfold callsR; rw [List.map_cons, List.sum_cons]
      rw [e]
      omega
    · have h1 := t.cnt (n := n) (hk u (by simp)) j
      have h2 := b5 j
      have e : cntRs (u :: us) j = u.count j + cntRs us j := by unfold cntRs; rw [List.map_cons, List.sum_cons]
      rw [e, List.map_cons, List.sum_cons]
      omega
end
/-! lists of live lists; calls that are handed all cells -/
structure HL (mem : Sto) (hs : List Nat) (rs : List (List Int)) : Prop where
  nd : hs.Nodup
  len : hs.length = rs.length
  val : ∀ i h : Nat, hs[i]? = some h → ∃ r : List Int, rs[i]? = some r ∧ mem[h]? = some (some (Cell.lt (r.map T.int)))
def lC (r : List Int) : Cell := Cell.lt (r.map T.int)
theorem HL.lt {mem : Sto} {hs : List Nat} {rs : List (List Int)} (h : HL mem hs rs) : ∀ j ∈ hs, j < mem.length := fun j hj => by
  obtain ⟨i, hi⟩ := List.getElem?_of_mem hj
  obtain ⟨r, _, e⟩ := h.val i j hi
  exact (List.getElem?_eq_some_iff.mp e).1
theorem HL.nil {mem : Sto} : HL mem [] [] := ⟨List.nodup_nil, rfl, fun i h e => by simp at e⟩
theorem HL.grow {mem more : Sto} {hs : List Nat} {rs : List (List Int)} (h : HL mem hs rs) : HL (mem ++ more) hs rs := ⟨h.nd, h.len, fun i k e => by
  obtain ⟨r, e1, e2⟩ := h.val i k e
  exact ⟨r, e1, at_more e2⟩⟩
theorem HL.add {mem : Sto} {hs : List Nat} {rs : List (List Int)} (h : HL mem hs rs) (rs2 : List (List Int)) : HL (mem ++ rs2.map fun r => some (lC r)) (hs ++ (List.range rs2.length).map (mem.length + ·)) (rs ++ rs2) := by
  refine ⟨List.nodup_append.mpr ⟨h.nd, by
    rw [List.nodup_iff_pairwise_ne, List.pairwise_map]
    exact List.Pairwise.imp (fun hab e => hab (by omega)) List.nodup_range, fun a ha b hb e => ?_⟩, by rw [List.length_append, List.length_append, List.length_map, List.length_range, h.len], fun i k e => ?_⟩
  · subst e
    have h1 := h.lt a ha
    obtain ⟨c, _, e⟩ := List.mem_map.mp hb
    omega
  · by_cases hi : i < hs.length
    · rw [List.getElem?_append_left hi] at e
      obtain ⟨r, e1, e2⟩ := h.val i k e
      exact ⟨r, by rw [List.getElem?_append_left (by rw [← h.len]; exact hi)]; exact e1, at_more e2⟩
    · rw [List.getElem?_append_right (by omega), List.getElem?_map] at e
      have hb : i - hs.length < rs2.length := by
        rcases Nat.lt_or_ge (i - hs.length) rs2.length with z | z
        · exact z
        · rw [List.getElem?_eq_none (by rw [List.length_range]; exact z)] at e
          cases e
      rw [List.getElem?_range hb] at e
      cases e
      refine ⟨rs2[i - hs.length], ?_, ?_⟩
      · rw [List.getElem?_append_right (by rw [← h.len]; omega), ← h.len, List.getElem?_eq_getElem hb]
      · show (mem ++ _)[mem.length + (i - hs.length)]? = _
        rw [List.getElem?_append_right (by omega), Nat.add_sub_cancel_left, List.getElem?_map, List.getElem?_eq_getElem hb]
        rfl
theorem ups_hl {r hs : List Nat} (h : ∀ (i k : Nat), hs[i]? = some k → r[i]? = some k) : ups r ((List.range hs.length).map W.h) = some (hs.map W.h) := by
  have key : ∀ js : List Nat, (∀ j ∈ js, j < hs.length) → ups r (js.map W.h) = some (js.map fun j => W.h (hs.getD j 0)) := by
    intro js
    induction js with
    | nil => intro _; rfl
    | cons j js ih =>
      intro hj
      have e := ih fun k hk => hj k (List.mem_cons_of_mem _ hk)
      have hjl := hj j (by simp)
      have e2 : r[j]? = some (hs.getD j 0) := h j _ (by rw [List.getD_eq_getElem?_getD, List.getElem?_eq_getElem hjl]; rfl)
      show (match W.up r (.h j), ups r (js.map W.h) with | some w', some ws' => some (w' :: ws') | _, _ => none) = _
      rw [e]
      unfold W.up
      dsimp only
      rw [e2]
      rfl
  rw [key _ (fun j hj => by simpa using hj)]
  congr 1
  refine List.ext_getElem (by rw [List.length_map, List.length_map, List.length_range]) fun i h1 h2 => ?_
  rw [List.length_map, List.length_range] at h1
  rw [List.getElem_map, List.getElem_map, List.getElem_range, List.getD_eq_getElem?_getD, List.getElem?_eq_getElem h1]
  rfl
theorem fin_hl {QC : W → List Cell → List Cell → Prop} {sl : List (Option W)} {mem : Sto} {hs : List Nat} {rs : List (List Int)} {n : Nat} (em : mem[n]? = some (some (Cell.lw (hs.map W.h)))) (hh : HL mem hs rs)
    (q : QC (.h rs.length) [] (rs.map lC ++ [.lw ((List.range rs.length).map W.h)])) : FinS 0 QC (.h n) ⟨sl, mem⟩ := by
  have hlt := hh.lt
  have hl := hh.len
  refine fin_s (hs ++ [n]) [] (rs.map lC ++ [.lw ((List.range rs.length).map W.h)]) (.h rs.length) ?_ (fun j hj => ?_) ?_ rfl (by rw [List.length_append, List.length_append, List.length_map, hl]; rfl) (fun i c' e => ?_) q
  · show (hs ++ [n]).Nodup
    refine List.nodup_append.mpr ⟨hh.nd, by simp, fun a ha b hb e => ?_⟩
    have : b = n := by simpa using hb
    subst this e
    obtain ⟨i, hi⟩ := List.getElem?_of_mem ha
    obtain ⟨r, _, e⟩ := hh.val i _ hi
    rw [em] at e
    cases e
  · rcases List.mem_append.mp (show j ∈ hs ++ [n] from hj) with z | z
    · exact hlt j z
    · have : j = n := by simpa using z
      subst this
      exact (List.getElem?_eq_some_iff.mp em).1
  · show W.up (hs ++ [n]) (.h rs.length) = _
    unfold W.up
    dsimp only
    rw [← hl, at_last]
  · have e' : (rs.map lC ++ [Cell.lw ((List.range rs.length).map W.h)])[i]? = some c' := e
    show ∃ j c, (hs ++ [n])[i]? = some j ∧ c'.up (hs ++ [n]) = some c ∧ mem[j]? = some (some c)
    by_cases hi : i < rs.length
    · rw [List.getElem?_append_left (by rw [List.length_map]; exact hi), List.getElem?_map] at e'
      obtain ⟨k, hk⟩ := getLt (xs := hs) (j := i) (by omega)
      obtain ⟨r, e1, e2⟩ := hh.val i k hk
      rw [e1] at e'
      cases e'
      exact ⟨k, _, by rw [List.getElem?_append_left (by omega)]; exact hk, rfl, e2⟩
    · rw [List.getElem?_append_right (by rw [List.length_map]; omega), List.length_map] at e'
      have hi2 : i = rs.length := by
        have := (List.getElem?_eq_some_iff.mp e').1
        rw [List.length_singleton] at this
        omega
      subst hi2
      rw [Nat.sub_self] at e'
      cases e'
      refine ⟨n, .lw (hs.map W.h), by rw [← hl]; exact at_last, ?_, em⟩
      unfold Cell.up
      dsimp only
      rw [← hl, ups_hl (fun i k e => at_more e)]
theorem cups_l (r : List Nat) : ∀ rs : List (List Int), cups r (rs.map lC) = some (rs.map lC)
  | [] => rfl
  | x :: rs => by
    show (match Cell.up r (lC x), cups r (rs.map lC) with | some w', some ws' => some (w' :: ws') | _, _ => none) = _
    rw [cups_l r rs]
    rfl
theorem cups_app {r : List Nat} : ∀ {as bs as' bs' : List Cell}, cups r as = some as' → cups r bs = some bs' → cups r (as ++ bs) = some (as' ++ bs')
  | [], bs, as', bs', e, e2 => by cases e; exact e2
  | a :: as, bs, as', bs', e, e2 => by
    unfold cups at e
    split at e
    · rename_i w' ws' h1 h2
      cases e
      show (match Cell.up r a, cups r (as ++ bs) with | some w', some ws' => some (w' :: ws') | _, _ => none) = _
      rw [h1, cups_app h2 e2]
      rfl
    · cases e
theorem ups_gen2 {r : List Nat} (f : Nat → Nat) : ∀ ks : List Nat, (∀ k ∈ ks, r[k]? = some (f k)) → ups r (ks.map W.h) = some (ks.map fun k => W.h (f k))
  | [], _ => rfl
  | k :: ks, h => by
    show (match W.up r (.h k), ups r (ks.map W.h) with | some w', some ws' => some (w' :: ws') | _, _ => none) = _
    rw [ups_gen2 f ks fun j hj => h j (List.mem_cons_of_mem _ hj)]
    unfold W.up
    dsimp only
    rw [h k (by simp)]
    rfl
theorem hl_new (mem : Sto) (rs : List (List Int)) : (mem ++ (rs.map lC ++ [Cell.lw ((List.range rs.length).map fun j => W.h (mem.length + j))]).map some)[mem.length + rs.length]? = some (some (Cell.lw (((List.range rs.length).map (mem.length + ·)).map W.h))) ∧ HL (mem ++ (rs.map lC ++ [Cell.lw ((List.range rs.length).map fun j => W.h (mem.length + j))]).map some) ((List.range rs.length).map (mem.length + ·)) rs := by
  have h := (HL.nil (mem := mem)).add rs
  rw [List.nil_append, List.nil_append] at h
  rw [List.map_append, List.map_map, ← List.append_assoc]
  refine ⟨?_, h.grow⟩
  rw [List.getElem?_append_right (by rw [List.length_append, List.length_map]; omega), List.length_append, List.length_map, Nat.sub_self, List.map_map]
  rfl
def UpOk (n : Nat) (c : Cell) : Prop := c.up (List.range n) = some c
def UpAll (m : List Cell) : Prop := ∀ c ∈ m, UpOk m.length c
theorem up_h {n j : Nat} (h : j < n) : W.up (List.range n) (.h j) = some (.h j) := by
  unfold W.up
  dsimp only
  rw [List.getElem?_range h]
theorem ups_hs {n : Nat} : ∀ {hs : List Nat}, (∀ j ∈ hs, j < n) → ups (List.range n) (hs.map W.h) = some (hs.map W.h)
  | [], _ => rfl
  | j :: hs, h => by
    have e := ups_hs (hs := hs) fun k hk => h k (List.mem_cons_of_mem _ hk)
    show (match W.up (List.range n) (.h j), ups (List.range n) (hs.map W.h) with | some w', some ws' => some (w' :: ws') | _, _ => none) = _
    rw [e, up_h (h j (by simp))]
    rfl
theorem cups_idR {k : Nat} : ∀ {ms : List Cell}, (∀ c ∈ ms, UpOk k c) → cups (List.range k) ms = some ms
  | [], _ => rfl
  | c :: ms, h => by
    show (match Cell.up _ c, cups _ ms with | some w', some ws' => some (w' :: ws') | _, _ => none) = _
    rw [cups_idR fun d hd => h d (List.mem_cons_of_mem _ hd), show Cell.up (List.range k) c = some c from h c (by simp)]
theorem setAll_rg {M : Sto} {m1 : List Cell} (hl : m1.length = M.length) : setAll M (List.range M.length) m1 = m1.map some := by
  refine List.ext_getElem? fun n => ?_
  by_cases hn : n < M.length
  · obtain ⟨c, h1, h2⟩ := setAll_in M (List.range M.length) m1 List.nodup_range (fun j hj => List.mem_range.mp hj) (by rw [List.length_range, hl]) (i := n) (List.getElem?_range hn)
    rw [h2, List.getElem?_map, h1]
    rfl
  · rw [List.getElem?_eq_none (by rw [setAll_len]; omega), List.getElem?_eq_none (by rw [List.length_map, hl]; omega)]
theorem range_more (a b : Nat) : List.range a ++ (List.range b).map (a + ·) = List.range (a + b) := (List.range_add ..).symm
theorem callS_all {C : SC} {ws : List W} {M : List Cell} {sl : List (Option W)} {Q : W → G → Prop} (hw : ups (List.range M.length) ws = some ws) (hM : UpAll M)
    (h : ∀ QC : W → List Cell → List Cell → Prop, (∀ (n : Nat) (m1 cs : List Cell), m1.length = M.length → UpAll (m1 ++ cs) → n < (m1 ++ cs).length → Q (.h n) ⟨sl, (m1 ++ cs).map some⟩ → QC (.h n) m1 cs) → C ws M QC) : callS C ws ⟨sl, M.map some⟩ Q := by
  refine ⟨List.range M.length, M, ws, List.nodup_range, List.length_range, hw, fun i c e => ?_, h _ fun n m1 cs hl hu hn q => ?_⟩
  · have hi := (List.getElem?_eq_some_iff.mp e).1
    refine ⟨i, c, List.getElem?_range hi, hM c (List.mem_of_getElem? e), ?_⟩
    show (M.map some)[i]? = _
    rw [List.getElem?_map, e]
    rfl
  · have er : List.range M.length ++ (List.range cs.length).map ((⟨sl, M.map some⟩ : G).mem.length + ·) = List.range (m1 ++ cs).length := by
      show List.range M.length ++ (List.range cs.length).map ((M.map some).length + ·) = _
      rw [List.length_map, range_more, List.length_append, hl]
    rw [er]
    refine ⟨.h n, m1, cs, up_h hn, cups_idR fun c hc => hu c (by simp [hc]), cups_idR fun c hc => hu c (by simp [hc]), ?_⟩
    show Q _ ⟨sl, setAll (M.map some) (List.range M.length) m1 ++ cs.map some⟩
    have := setAll_rg (M := M.map some) (m1 := m1) (by rw [List.length_map]; exact hl)
    rw [List.length_map] at this
    rw [this, ← List.map_append]
    exact q
theorem callS_hlP {C : SC} {P : List (List Int) → Prop} {ws : List W} {sl : List (Option W)} {mem : Sto} {Q : W → G → Prop} (hw : ups [] ws = some ws) (hC : ∀ QC : W → List Cell → List Cell → Prop, (∀ rs : List (List Int), P rs → QC (.h rs.length) [] (rs.map lC ++ [.lw ((List.range rs.length).map W.h)])) → C ws [] QC)
    (h : ∀ rs : List (List Int), P rs → Q (.h (mem.length + rs.length)) ⟨sl, mem ++ (rs.map lC ++ [Cell.lw ((List.range rs.length).map fun j => W.h (mem.length + j))]).map some⟩) : callS C ws ⟨sl, mem⟩ Q := by
  refine ⟨[], [], ws, List.nodup_nil, rfl, hw, fun i c e => by simp at e, hC _ fun rs hp => ?_⟩
  have hlen : (rs.map lC ++ [Cell.lw ((List.range rs.length).map W.h)]).length = rs.length + 1 := by rw [List.length_append, List.length_map]; rfl
  rw [hlen]
  have e1 : ∀ j, j < rs.length + 1 → (([] : List Nat) ++ (List.range (rs.length + 1)).map (mem.length + ·))[j]? = some (mem.length + j) := fun j hj => by
    rw [List.nil_append, List.getElem?_map, List.getElem?_range hj]
    rfl
  refine ⟨.h (mem.length + rs.length), [], _, ?_, rfl, cups_app (cups_l _ _) (bs' := [Cell.lw ((List.range rs.length).map fun j => W.h (mem.length + j))]) ?_, h rs hp⟩
  · unfold W.up
    dsimp only
    rw [e1 _ (by omega)]
  · have e2 := ups_gen2 (r := ([] : List Nat) ++ (List.range (rs.length + 1)).map (mem.length + ·)) (mem.length + ·) (List.range rs.length) fun k hk => e1 k (by have := List.mem_range.mp hk; omega)
    show (match Cell.up _ (Cell.lw _), cups _ [] with | some w', some ws' => some (w' :: ws') | _, _ => none) = _
    unfold Cell.up
    dsimp only
    rw [e2]
    rfl
theorem up_rng {n m : Nat} (h : n ≤ m) {w : W} : w.up (List.range n) = some w → w.up (List.range m) = some w := by
  cases w with
  | t x => intro _; rfl
  | h k =>
    intro e
    unfold W.up at e ⊢
    dsimp only at e ⊢
    rcases Nat.lt_or_ge k n with q | q
    · rw [List.getElem?_range (by omega)]
    · rw [List.getElem?_eq_none (by rw [List.length_range]; exact q)] at e
      cases e
theorem ups_rng {n m : Nat} (h : n ≤ m) : ∀ {ws : List W}, ups (List.range n) ws = some ws → ups (List.range m) ws = some ws
  | [], _ => rfl
  | w :: ws, e => by
    unfold ups at e ⊢
    split at e
    · rename_i a' b' e1 e2
      cases e
      rw [up_rng h e1, ups_rng h e2]
    · cases e
theorem UpOk.mono {n m : Nat} {c : Cell} (h : UpOk n c) (hm : n ≤ m) : UpOk m c := by
  unfold UpOk at *
  cases c with
  | lt ts => rfl
  | dt ks ts => rfl
  | dp ks ts => rfl
  | lw ws =>
    unfold Cell.up at h ⊢
    dsimp only at h ⊢
    split at h
    · rename_i ws' e
      cases h
      rw [ups_rng hm e]
    · cases h
  | dw ks ws =>
    unfold Cell.up at h ⊢
    dsimp only at h ⊢
    split at h
    · rename_i ws' e
      cases h
      rw [ups_rng hm e]
    · cases h
  | tw ws =>
    unfold Cell.up at h ⊢
    dsimp only at h ⊢
    split at h
    · rename_i ws' e
      cases h
      rw [ups_rng hm e]
    · cases h
  | ob n fs ws =>
    unfold Cell.up at h ⊢
    dsimp only at h ⊢
    split at h
    · rename_i ws' e
      cases h
      rw [ups_rng hm e]
    · cases h
theorem Wup_take {n : Nat} {R : List Nat} (h : n ≤ R.length) {w : W} (u : w.up (List.range n) = some w) : w.up (R.take n) = w.up R := by
  cases w with
  | t x => rfl
  | h k =>
    unfold W.up at u ⊢
    dsimp only at u ⊢
    rcases Nat.lt_or_ge k n with q | q
    · rw [List.getElem?_take, if_pos q]
    · rw [List.getElem?_eq_none (by rw [List.length_range]; exact q)] at u
      cases u
theorem ups_take {n : Nat} {R : List Nat} (h : n ≤ R.length) : ∀ {ws : List W}, ups (List.range n) ws = some ws → ups (R.take n) ws = ups R ws
  | [], _ => rfl
  | w :: ws, u => by
    unfold ups at u
    split at u
    · rename_i a b e1 e2
      cases u
      unfold ups
      rw [Wup_take h e1, ups_take h e2]
    · cases u
theorem up_take {n : Nat} {R : List Nat} {c : Cell} (h : n ≤ R.length) (u : UpOk n c) : c.up (R.take n) = c.up R := by
  unfold UpOk at u
  cases c with
  | lt ts => rfl
  | dt ks ts => rfl
  | dp ks ts => rfl
  | lw ws =>
    unfold Cell.up at u ⊢
    dsimp only at u ⊢
    split at u
    · rename_i ws' e
      cases u
      rw [ups_take h e]
    · cases u
  | dw ks ws =>
    unfold Cell.up at u ⊢
    dsimp only at u ⊢
    split at u
    · rename_i ws' e
      cases u
      rw [ups_take h e]
    · cases u
  | tw ws =>
    unfold Cell.up at u ⊢
    dsimp only at u ⊢
    split at u
    · rename_i ws' e
      cases u
      rw [ups_take h e]
    · cases u
  | ob n fs ws =>
    unfold Cell.up at u ⊢
    dsimp only at u ⊢
    split at u
    · rename_i ws' e
      cases u
      rw [ups_take h e]
    · cases u
theorem upAll_set {m : List Cell} {j : Nat} {c : Cell} (h : UpAll m) (hc : UpOk m.length c) : UpAll (m.set j c) := fun d hd => by
  rw [List.length_set]
  rcases List.mem_or_eq_of_mem_set hd with z | z
  · exact h d z
  · rw [z]; exact hc
theorem upAll_push {m : List Cell} {c : Cell} (h : UpAll m) (hc : UpOk (m.length + 1) c) : UpAll (m ++ [c]) := fun d hd => by
  rw [List.length_append, List.length_singleton]
  rcases List.mem_append.mp hd with z | z
  · exact (h d z).mono (Nat.le_succ _)
  · rw [List.mem_singleton.mp z]; exact hc
theorem seqL_h {g : G} {n : Nat} {us : List T} (em : g.mem[n]? = some (some (.lt us))) : g.seqL? (.h n) = some us := by unfold G.seqL?; rw [cell_h em]
theorem up_more {n x : Nat} {c : Cell} (h : UpOk n c) : c.up (List.range n ++ [x]) = some c := by
  have e := up_take (R := List.range n ++ [x]) (n := n) (by rw [List.length_append, List.length_range]; omega) h
  rw [← e, List.take_left' (by rw [List.length_range])]
  exact h
/-! the heap made of counts -/
def nN (xs : List Int) (k : Nat) : Nat := (xs.getD k 0).toNat
structure RightC (w : Web) (xs : List Int) : Prop where
  len : xs.length = w.rows.length + w.places.length
  pos : ∀ k, 0 ≤ xs.getD k 0
  even : ∀ r ∈ rels w, dot r xs = 0
  beg : ∀ p : Nat, p < w.places.length → nN xs (w.rows.length + p) = 0 → ∀ k, k < w.rows.length → (w.row k).p = (p : Nat) → nN xs k = 0
  hang : ∀ p : Nat, p < w.places.length → ∀ k, k < w.rows.length → (w.row k).p = (p : Nat) → 0 < nN xs k → HangR w p (nN xs) (w.row k).s
theorem sum_filt {α : Type} {f : α → Int} {q : α → Bool} : ∀ xs : List α, ((xs.filter q).map f).sum = (xs.map fun x => if q x = true then f x else 0).sum
  | [] => rfl
  | x :: xs => by
    rw [List.filter_cons, List.map_cons, List.sum_cons, ← sum_filt xs]
    by_cases h : q x = true
    · rw [if_pos h, if_pos h, List.map_cons, List.sum_cons]
    · rw [if_neg h, if_neg h, Int.zero_add]
theorem sum_add2 {α : Type} {f g h : α → Int} : ∀ {xs : List α}, (∀ x ∈ xs, f x = g x + h x) → (xs.map f).sum = (xs.map g).sum + (xs.map h).sum
  | [], _ => rfl
  | x :: xs, e => by
    rw [List.map_cons, List.map_cons, List.map_cons, List.sum_cons, List.sum_cons, List.sum_cons, sum_add2 (xs := xs) fun y hy => e y (List.mem_cons_of_mem _ hy), e x (by simp)]
    omega
theorem sum_nil0 {α : Type} {f : α → Int} : ∀ {xs : List α}, (∀ x ∈ xs, f x = 0) → (xs.map f).sum = 0
  | [], _ => rfl
  | x :: xs, e => by
    rw [List.map_cons, List.sum_cons, sum_nil0 (xs := xs) fun y hy => e y (List.mem_cons_of_mem _ hy), e x (by simp)]
    rfl
theorem sum_one {h : Nat → Int} {p n : Nat} (hp : p < n) (h0 : ∀ j, j ≠ p → h j = 0) : ((List.range n).map h).sum = h p := by
  have := sum_upd (f := h) (g := fun _ => 0) (d := h p) (k := p) (fun j hj => (h0 j hj).symm) (by omega) List.nodup_range (List.mem_range.mpr hp)
  rw [sum_nil0 (fun _ _ => rfl)] at this
  omega
theorem dot_split {w : Web} {g : Row → Int} {h : Nat → Int} {xs : List Int} (hl : xs.length = w.rows.length + w.places.length) :
    dot (w.rows.map g ++ (List.range w.places.length).map h) xs = ((List.range w.rows.length).map fun k => g (w.row k) * xs.getD k 0).sum + ((List.range w.places.length).map fun o => h o * xs.getD (w.rows.length + o) 0).sum := by
  rw [← dot_range (by rw [List.length_append, List.length_map, List.length_map, List.length_range, hl]), hl, List.range_add, List.map_append, List.sum_append, List.map_map]
  congr 2
  · refine List.map_congr_left fun k hk => ?_
    obtain ⟨r, hr⟩ := getLt (xs := w.rows) (j := k) (List.mem_range.mp hk)
    have er : w.row k = r := by
      unfold Web.row
      rw [List.getD_eq_getElem?_getD, hr]
      rfl
    rw [getD_mapR hr, er]
  · refine List.map_congr_left fun o ho => ?_
    show _ * xs.getD (w.rows.length + o) 0 = _
    rw [getD_app (List.mem_range.mp ho)]
section
variable {w : Web} {xs : List Int}
theorem RightC.cast (h : RightC w xs) (k : Nat) : ((nN xs k : Nat) : Int) = xs.getD k 0 := by
  have := h.pos k
  unfold nN
  omega
theorem RightC.exc (h : RightC w xs) (hok : w.Ok) {p : Nat} (hp : p < w.places.length) (v : Int) : DL.exc w p (nN xs) v = ((nN xs (w.rows.length + p) : Nat) : Int) * (one (0 = v) - one (1 = v)) := by
  have hpl := hok.2.1 _ (place_mem hp)
  by_cases hv : 0 ≤ v ∧ v < w.place p
  · have hm : relAt w p v ∈ rels w := by
      unfold rels
      refine List.mem_append_left _ (List.mem_flatMap.mpr ⟨p, List.mem_range.mpr hp, List.mem_map.mpr ⟨v.toNat, List.mem_range.mpr (by omega), ?_⟩⟩)
      rw [Int.toNat_of_nonneg hv.1]
    have h1 := h.even _ hm
    unfold relAt at h1
    rw [dot_split h.len, sum_one (h := fun o : Nat => relBeg v * bI (decide ((o : Int) = p)) * xs.getD (w.rows.length + o) 0) hp (fun j hj => by
      rw [bI_dec, if_neg (by omega), Int.mul_zero, Int.zero_mul]), bI_dec, if_pos rfl, Int.mul_one] at h1
    have h2 : ((List.range w.rows.length).map fun k => relRow p v (w.row k) * xs.getD k 0).sum + DL.exc w p (nN xs) v = 0 := by
      unfold DL.exc Web.rowsOf
      rw [sum_filt, ← sum_add2 (f := fun _ => (0 : Int)) (fun k hk => ?_)]
      · exact sum_nil0 fun _ _ => rfl
      · unfold excT
        rw [h.cast k]
        unfold relRow
        rw [bI_and, bI_and]
        by_cases c1 : (w.row k).p = (p : Int) <;> by_cases c2 : (w.row k).s = v <;> by_cases c3 : (w.row k).e = v <;> simp [c1, c2, c3] <;> omega
    have h3 : relBeg v = one (0 = v) - one (1 = v) := by
      unfold relBeg one
      rw [bI_dec, bI_dec]
      by_cases c0 : v = 0
      · subst c0; rfl
      · by_cases c1 : v = 1
        · subst c1; rfl
        · rw [if_neg c0, if_neg c1, if_neg (fun z => c0 z.symm), if_neg (fun z => c1 z.symm)]
    rw [h.cast, ← h3, Int.mul_comm]
    omega
  · have e0 : one (0 = v) - one (1 = v) = 0 := by
      unfold one
      rw [if_neg (by omega), if_neg (by omega)]
      rfl
    rw [e0, Int.mul_zero]
    unfold DL.exc
    refine sum_nil0 fun k hk => ?_
    obtain ⟨k1, k2⟩ := mem_rowsOf.mp hk
    have hro := hok.2.2.1 _ (row_mem k1)
    unfold Web.rowOk at hro
    rw [k2] at hro
    unfold excT
    rw [if_neg (by omega), if_neg (by omega)]
    rfl
def OwnR (w : Web) (p : Nat) (N : Lft) (b : Nat) (us : List (List Nat)) : Prop := ∃ (L1 L' : Lft) (rs : List (List Nat)), Runs1 w p N rs L1 ∧ rs.length = b ∧ Runs2 w p L1 rs L' us
theorem cntRs_nil {us : List (List Nat)} {j : Nat} (h : ∀ u ∈ us, j ∉ u) : cntRs us j = 0 := by
  unfold cntRs
  induction us with
  | nil => rfl
  | cons u us ih =>
    rw [List.map_cons, List.sum_cons, List.count_eq_zero.mpr (h u (by simp)), ih fun v hv => h v (by simp [hv])]
theorem OwnR.ok (h : RightC w xs) (hok : w.Ok) {p : Nat} (hp : p < w.places.length) {us : List (List Nat)} (o : OwnR w p (nN xs) (nN xs (w.rows.length + p)) us) :
    (∀ u ∈ us, chn w p 0 u 1) ∧ us.length = nN xs (w.rows.length + p) ∧ ∀ k, cntRs us k = if k < w.rows.length ∧ (w.row k).p = (p : Nat) then nN xs k else 0 := by
  obtain ⟨L1, L', rs, h1, h2, h3⟩ := o
  obtain ⟨a1, a2, a3⟩ := h1.ok (fun v => by rw [h2]; exact h.exc hok hp v)
  obtain ⟨b1, b2, b3, b4, b5⟩ := h3.ok a2 a1
  refine ⟨b1, by rw [b2, h2], fun k => ?_⟩
  have hsum : ∀ j, L' j + cntRs us j = nN xs j := fun j => by have := a3 j; have := b3 j; omega
  by_cases hk : k < w.rows.length ∧ (w.row k).p = (p : Nat)
  · rw [if_pos hk]
    have hz : L' k = 0 := by
      by_cases hne : us = []
      · have hb : nN xs (w.rows.length + p) = 0 := by rw [← h2, ← b2, hne]; rfl
        have := h.beg p hp hb k hk.1 hk.2
        have := hsum k
        omega
      · exact all_gone hok b1 (fun j _ _ => hsum j) b4 hne (h.hang p hp) k hk.1 hk.2
    have := hsum k
    omega
  · rw [if_neg hk]
    exact cntRs_nil fun u hu hku => hk (chn_in (b1 u hu) k hku)
/-- calls from parts at or behind q -/
def clGe (w : Web) (xs : List Int) (q c : Nat) : Nat := ((List.range w.rows.length).map fun k => if (q : Int) ≤ (w.row k).p ∧ (w.row k).c = (c : Nat) then nN xs k else 0).sum
def clAt (w : Web) (xs : List Int) (q c : Nat) : Nat := ((List.range w.rows.length).map fun k => if (w.row k).p = (q : Nat) ∧ (w.row k).c = (c : Nat) then nN xs k else 0).sum
theorem sumN_add {α : Type} {f g h : α → Nat} : ∀ {l : List α}, (∀ x ∈ l, f x = g x + h x) → (l.map f).sum = (l.map g).sum + (l.map h).sum
  | [], _ => rfl
  | x :: l, e => by
    rw [List.map_cons, List.map_cons, List.map_cons, List.sum_cons, List.sum_cons, List.sum_cons, sumN_add (l := l) fun y hy => e y (List.mem_cons_of_mem _ hy), e x (by simp)]
    omega
theorem sumN_nil {α : Type} {f : α → Nat} : ∀ {l : List α}, (∀ x ∈ l, f x = 0) → (l.map f).sum = 0
  | [], _ => rfl
  | x :: l, e => by
    rw [List.map_cons, List.sum_cons, sumN_nil (l := l) fun y hy => e y (List.mem_cons_of_mem _ hy), e x (by simp)]
theorem clGe_step (q c : Nat) : clGe w xs q c = clGe w xs (q + 1) c + clAt w xs q c := by
  unfold clGe clAt
  refine sumN_add fun k _ => ?_
  by_cases c1 : (w.row k).c = (c : Nat)
  · by_cases c2 : (w.row k).p = (q : Nat)
    · rw [if_pos ⟨by omega, c1⟩, if_neg (by omega), if_pos ⟨c2, c1⟩]; omega
    · by_cases c3 : (q : Int) ≤ (w.row k).p
      · rw [if_pos ⟨c3, c1⟩, if_pos ⟨by omega, c1⟩, if_neg (fun z => c2 z.1)]; omega
      · rw [if_neg (fun z => c3 z.1), if_neg (by omega), if_neg (fun z => c2 z.1)]
  · rw [if_neg (fun z => c1 z.2), if_neg (fun z => c1 z.2), if_neg (fun z => c1 z.2)]
theorem clAt_low (hok : w.Ok) {q c : Nat} (h : c ≤ q ∨ w.places.length ≤ c) : clAt w xs q c = 0 := by
  refine sumN_nil fun k hk => ?_
  have hro := hok.2.2.1 _ (row_mem (List.mem_range.mp hk))
  unfold Web.rowOk at hro
  rw [if_neg (by omega)]
theorem clGe_low (hok : w.Ok) {q c : Nat} (h : c ≤ q ∨ w.places.length ≤ c) : clGe w xs q c = 0 := by
  refine sumN_nil fun k hk => ?_
  have hro := hok.2.2.1 _ (row_mem (List.mem_range.mp hk))
  unfold Web.rowOk at hro
  rw [if_neg (by omega)]
theorem clGe_le (q d c : Nat) : clGe w xs (q + d) c ≤ clGe w xs q c := by
  induction d with
  | zero => exact Nat.le_refl _
  | succ d ih =>
    have := clGe_step (w := w) (xs := xs) (q + d) c
    rw [show q + (d + 1) = q + d + 1 from rfl]
    omega
theorem RightC.calls (h : RightC w xs) (hok : w.Ok) {c : Nat} (h0 : 1 ≤ c) (hc : c < w.places.length) : clGe w xs 0 c = nN xs (w.rows.length + c) := by
  have hm : relC w c ∈ rels w := by
    unfold rels
    exact List.mem_append_right _ (List.mem_map.mpr ⟨c, List.mem_range'_1.mpr (by omega), rfl⟩)
  have h1 := h.even _ hm
  unfold relC at h1
  rw [dot_split h.len, sum_one (h := fun o : Nat => (0 - bI (decide ((o : Int) = c))) * xs.getD (w.rows.length + o) 0) hc (fun j hj => by
    rw [bI_dec, if_neg (by omega), Int.sub_zero, Int.zero_mul]), bI_dec, if_pos rfl] at h1
  have h2 : ((clGe w xs 0 c : Nat) : Int) = ((List.range w.rows.length).map fun k => bI (decide ((w.row k).c = (c : Int))) * xs.getD k 0).sum := by
    unfold clGe
    have key : ∀ l : List Nat, (∀ k ∈ l, k < w.rows.length) → (((l.map fun k => if ((0 : Nat) : Int) ≤ (w.row k).p ∧ (w.row k).c = (c : Nat) then nN xs k else 0).sum : Nat) : Int) = (l.map fun k => bI (decide ((w.row k).c = (c : Int))) * xs.getD k 0).sum := by
      intro l
      induction l with
      | nil => intro _; rfl
      | cons k l ih =>
        intro hl
        have hro := hok.2.2.1 _ (row_mem (hl k (by simp)))
        unfold Web.rowOk at hro
        rw [List.map_cons, List.map_cons, List.sum_cons, List.sum_cons, Int.natCast_add, ih fun j hj => hl j (by simp [hj]), bI_dec, ← h.cast k]
        congr 1
        by_cases c1 : (w.row k).c = (c : Nat)
        · rw [if_pos ⟨by omega, c1⟩, if_pos c1, Int.one_mul]
        · rw [if_neg (fun z => c1 z.2), if_neg c1, Int.zero_mul]; rfl
    exact key _ fun k hk => List.mem_range.mp hk
  rw [← h2, ← h.cast] at h1
  omega
theorem callsR_is {us : List (List Nat)} (hu : ∀ u ∈ us, ∀ k ∈ u, k < w.rows.length) (c : Nat) : callsR w c us = ((List.range w.rows.length).map fun k => if (w.row k).c = (c : Nat) then cntRs us k else 0).sum := by
  have one1 : ∀ u : List Nat, (∀ k ∈ u, k < w.rows.length) → callsTo w c u = ((List.range w.rows.length).map fun k => if (w.row k).c = (c : Nat) then u.count k else 0).sum := by
    intro u
    induction u with
    | nil => intro _; exact (sumN_nil fun k _ => by split <;> rfl).symm
    | cons k u ih =>
      intro h
      rw [callsTo_cons, ih fun j hj => h j (by simp [hj])]
      have e := sum_updN (f := fun j => if (w.row j).c = (c : Nat) then (k :: u).count j else 0) (g := fun j => if (w.row j).c = (c : Nat) then u.count j else 0) (d := if (w.row k).c = (c : Nat) then 1 else 0) (k := k) (fun j hj => by
        rw [count_castN, if_neg (show ¬ k = j from fun z => hj z.symm), Nat.zero_add]) (by
        rw [count_castN, if_pos rfl]
        split <;> omega) (List.nodup_range (n := w.rows.length)) (List.mem_range.mpr (h k (by simp)))
      rw [e]
      omega
  induction us with
  | nil => exact (sumN_nil fun k _ => by split <;> rfl).symm
  | cons u us ih =>
    have e : callsR w c (u :: us) = callsTo w c u + callsR w c us := by unfold callsR; rw [List.map_cons, List.sum_cons]
    rw [e, one1 u (hu u (by simp)), ih fun v hv => hu v (by simp [hv])]
    refine (sumN_add fun k _ => ?_).symm
    show (if (w.row k).c = (c : Nat) then ((u :: us).map fun r : List Nat => r.count k).sum else 0) = _
    rw [List.map_cons, List.sum_cons]
    split <;> rfl
structure HpI (w : Web) (xs : List Int) (q : Nat) (Ws : Wt) : Prop where
  low : ∀ c, c < q → Ws c = []
  high : ∀ c, w.places.length ≤ c → Ws c = []
  fr : ∀ c, ∀ r ∈ Ws c, FR w c r
  len : ∀ c, q ≤ c → c < w.places.length → (Ws c).length + clGe w xs q c = nN xs (w.rows.length + c)
  tot : ∀ j, totW w.places.length Ws j = if j < w.rows.length ∧ (q : Int) ≤ (w.row j).p then nN xs j else 0
theorem hpi_start (hok : w.Ok) : HpI w xs w.places.length (fun _ => []) := by
  refine ⟨fun _ _ => rfl, fun _ _ => rfl, fun c r h => (by cases h), fun c h1 h2 => absurd h1 (by omega), fun j => ?_⟩
  have e : totW w.places.length (fun _ => []) j = 0 := sumN_nil fun c _ => rfl
  rw [e, if_neg]
  rintro ⟨h1, h2⟩
  have hro := hok.2.2.1 _ (row_mem h1)
  unfold Web.rowOk at hro
  omega
theorem clAt_calls {q : Nat} {us : List (List Nat)} (hu : ∀ u ∈ us, ∀ k ∈ u, k < w.rows.length) (hc : ∀ k, cntRs us k = if k < w.rows.length ∧ (w.row k).p = (q : Nat) then nN xs k else 0) (c : Nat) : callsR w c us = clAt w xs q c := by
  rw [callsR_is hu]
  unfold clAt
  congr 1
  refine List.map_congr_left fun k hk => ?_
  rw [hc k]
  have := List.mem_range.mp hk
  by_cases c1 : (w.row k).c = (c : Nat)
  · by_cases c2 : (w.row k).p = (q : Nat)
    · rw [if_pos c1, if_pos ⟨this, c2⟩, if_pos ⟨c2, c1⟩]
    · rw [if_pos c1, if_neg (fun z => c2 z.2), if_neg (fun z => c2 z.1)]
  · rw [if_neg c1, if_neg (fun z => c1 z.2)]
theorem HpI.room (h : RightC w xs) (hok : w.Ok) {q : Nat} (hq : q < w.places.length) {Ws : Wt} (i : HpI w xs (q + 1) Ws) {us : List (List Nat)} (o : OwnR w q (nN xs) (nN xs (w.rows.length + q)) us) (c : Nat) : callsR w c us ≤ (Ws c).length := by
  obtain ⟨o1, o2, o3⟩ := OwnR.ok h hok hq o
  rw [clAt_calls (fun u hu k hk => (chn_in (o1 u hu) k hk).1) o3]
  by_cases hc : c ≤ q ∨ w.places.length ≤ c
  · rw [clAt_low hok hc]; exact Nat.zero_le _
  · have h1 := i.len c (by omega) (by omega)
    have h2 := clGe_step (w := w) (xs := xs) q c
    have h3 := clGe_le (w := w) (xs := xs) 0 q c
    rw [Nat.zero_add] at h3
    have h4 := h.calls hok (c := c) (by omega) (by omega)
    omega
theorem HpI.step (h : RightC w xs) (hok : w.Ok) {q : Nat} (hq : q < w.places.length) {Ws Ws' : Wt} (i : HpI w xs (q + 1) Ws) {us : List (List Nat)} {os : List (List Int)} (o : OwnR w q (nN xs) (nN xs (w.rows.length + q)) us) (t : Cins w Ws us os Ws') : HpI w xs q (updW Ws' q os) := by
  obtain ⟨o1, o2, o3⟩ := OwnR.ok h hok hq o
  have hin : ∀ u ∈ us, ∀ k ∈ u, k < w.rows.length := fun u hu k hk => (chn_in (o1 u hu) k hk).1
  have hcl := clAt_calls hin o3
  obtain ⟨t1, t2, t3, t4, t5⟩ := t.ok hok (n := w.places.length) i.fr o1 fun u hu k hk => by
    have hro := hok.2.2.1 _ (row_mem (hin u hu k hk))
    unfold Web.rowOk at hro
    omega
  have t4n : ∀ c, Ws c = [] → Ws' c = [] := fun c e => by
    have := t4 c
    rw [e] at this
    rw [List.length_nil] at this
    exact List.eq_nil_of_length_eq_zero (by omega)
  refine ⟨fun c hc => ?_, fun c hc => ?_, fun c r hr => ?_, fun c h1 h2 => ?_, fun j => ?_⟩
  · unfold updW
    rw [if_neg (by omega)]
    exact t4n c (i.low c (by omega))
  · unfold updW
    rw [if_neg (by omega)]
    exact t4n c (i.high c hc)
  · unfold updW at hr
    by_cases hcq : c = q
    · rw [if_pos hcq] at hr
      rw [hcq]
      exact t2 r hr
    · rw [if_neg hcq] at hr
      exact t1 c r hr
  · unfold updW
    by_cases hcq : c = q
    · rw [if_pos hcq, hcq, t3, o2, clGe_low hok (.inl (Nat.le_refl q))]
      omega
    · rw [if_neg hcq]
      have a1 := t4 c
      have a2 := i.len c (by omega) h2
      have a3 := clGe_step (w := w) (xs := xs) q c
      rw [hcl c] at a1
      omega
  · have e0 : Ws' q = [] := t4n q (i.low q (by omega))
    rw [totW_put hq e0]
    have a1 := t5 j
    rw [i.tot j, o3 j] at a1
    by_cases c1 : j < w.rows.length
    · by_cases c2 : (w.row j).p = (q : Nat)
      · rw [if_pos ⟨c1, c2⟩, if_neg (by omega)] at a1
        rw [if_pos ⟨c1, by omega⟩]
        omega
      · rw [if_neg (fun z => c2 z.2)] at a1
        by_cases c3 : (q : Int) ≤ (w.row j).p
        · rw [if_pos ⟨c1, by omega⟩] at a1
          rw [if_pos ⟨c1, c3⟩]
          omega
        · rw [if_neg (by omega)] at a1
          rw [if_neg (fun z => c3 z.2)]
          omega
    · rw [if_neg (fun z => c1 z.1), if_neg (fun z => c1 z.1)] at a1
      rw [if_neg (fun z => c1 z.1)]
      omega
/-! the heap's counts -/
theorem fr_stk {r : List Int} (h : FR w (0 : Nat) r) : stk w r = some [] := h []
theorem incA_getD {ys : List Int} {j i : Nat} (hj : j < ys.length) : (incA ys j).getD i 0 = ys.getD i 0 + if i = j then 1 else 0 := by
  unfold incA
  rw [List.getD_eq_getElem?_getD, List.getElem?_set]
  by_cases c : j = i
  · subst c
    rw [if_pos rfl, if_pos hj, if_pos rfl]
    rfl
  · rw [if_neg c, if_neg (fun z => c z.symm), ← List.getD_eq_getElem?_getD]
    omega
def callsI (w : Web) (c : Nat) (ks : List Int) : Nat := (ks.filter fun k => decide ((w.row k.toNat).c = (c : Nat))).length
theorem callsI_cons (c : Nat) (k : Int) (ks : List Int) : callsI w c (k :: ks) = (if (w.row k.toNat).c = (c : Nat) then 1 else 0) + callsI w c ks := by
  unfold callsI
  rw [List.filter_cons]
  by_cases h : (w.row k.toNat).c = (c : Nat)
  · rw [if_pos (decide_eq_true h), if_pos h, List.length_cons]; omega
  · rw [if_neg (by simpa using h), if_neg h]; omega
theorem tly1_getD (hok : w.Ok) {ys : List Int} (hl : ys.length = w.rows.length + w.places.length) {k : Int} (h0 : 0 ≤ k) (hk : k < w.rows.length) :
    (∀ j, j < w.rows.length → (tly1 w ys k).getD j 0 = ys.getD j 0 + if (j : Int) = k then 1 else 0) ∧ ∀ c, c < w.places.length → (tly1 w ys k).getD (w.rows.length + c) 0 = ys.getD (w.rows.length + c) 0 + if (w.row k.toNat).c = (c : Nat) then 1 else 0 := by
  have hro := hok.2.2.1 _ (row_mem (k := k.toNat) (by omega))
  unfold Web.rowOk at hro
  unfold tly1
  by_cases hc : 0 ≤ (w.row k.toNat).c
  · rw [if_pos hc]
    refine ⟨fun j hj => ?_, fun c hcc => ?_⟩
    · rw [incA_getD (by rw [incA_len]; omega), incA_getD (by omega), if_neg (show ¬ j = w.rows.length + (w.row k.toNat).c.toNat by omega)]
      by_cases e : (j : Int) = k
      · rw [if_pos e, if_pos (by omega)]; omega
      · rw [if_neg e, if_neg (by omega)]; omega
    · rw [incA_getD (by rw [incA_len]; omega), incA_getD (by omega), if_neg (show ¬ w.rows.length + c = k.toNat by omega)]
      by_cases e : (w.row k.toNat).c = (c : Nat)
      · rw [if_pos e, if_pos (by omega)]; omega
      · rw [if_neg e, if_neg (by omega)]; omega
  · rw [if_neg hc]
    refine ⟨fun j hj => ?_, fun c hcc => ?_⟩
    · rw [incA_getD (by omega)]
      by_cases e : (j : Int) = k
      · rw [if_pos e, if_pos (by omega)]
      · rw [if_neg e, if_neg (by omega)]
    · rw [incA_getD (by omega), if_neg (by omega), if_neg (by omega)]
theorem tlyF_getD (hok : w.Ok) : ∀ (ks : List Int) (ys : List Int), ys.length = w.rows.length + w.places.length → (∀ k ∈ ks, 0 ≤ k ∧ k < w.rows.length) →
    (∀ j, j < w.rows.length → (ks.foldl (tly1 w) ys).getD j 0 = ys.getD j 0 + (ks.count (j : Int) : Nat)) ∧ (∀ c, c < w.places.length → (ks.foldl (tly1 w) ys).getD (w.rows.length + c) 0 = ys.getD (w.rows.length + c) 0 + (callsI w c ks : Nat)) ∧ (ks.foldl (tly1 w) ys).length = ys.length
  | [], ys, _, _ => ⟨fun j _ => (Int.add_zero _).symm, fun c _ => (Int.add_zero _).symm, rfl⟩
  | k :: ks, ys, hl, hk => by
    obtain ⟨k0, k1⟩ := hk k (by simp)
    obtain ⟨a1, a2⟩ := tly1_getD hok hl k0 k1
    obtain ⟨b1, b2, b3⟩ := tlyF_getD hok ks (tly1 w ys k) (by rw [tly1_len, hl]) fun j hj => hk j (by simp [hj])
    refine ⟨fun j hj => ?_, fun c hc => ?_, by rw [List.foldl_cons, b3, tly1_len]⟩
    · rw [List.foldl_cons, b1 j hj, a1 j hj, List.count_cons]
      by_cases e : (j : Int) = k
      · rw [if_pos e, if_pos (by simp [e])]; omega
      · rw [if_neg e, if_neg (by simpa using fun z : k = (j : Int) => e z.symm)]; omega
    · rw [List.foldl_cons, b2 c hc, a2 c hc, callsI_cons]
      by_cases e : (w.row k.toNat).c = (c : Nat)
      · rw [if_pos e, if_pos e]; omega
      · rw [if_neg e, if_neg e]; omega
theorem tally_getD (hok : w.Ok) : ∀ (rs hs : List (List Int)) (ys : List Int), tally w hs = some ys → ys.length = w.rows.length + w.places.length → (∀ r ∈ rs, stk w r = some []) → ∃ zs, tally w (hs ++ rs) = some zs ∧ zs.length = ys.length ∧
    (∀ j, j < w.rows.length → zs.getD j 0 = ys.getD j 0 + ((rs.map fun r => r.count (j : Int)).sum : Nat)) ∧ ∀ c, c < w.places.length → zs.getD (w.rows.length + c) 0 = ys.getD (w.rows.length + c) 0 + ((rs.map (callsI w c)).sum : Nat) + (if c = 0 then (rs.length : Int) else 0)
  | [], hs, ys, e, _, _ => ⟨ys, by rw [List.append_nil]; exact e, rfl, fun j _ => (Int.add_zero _).symm, fun c _ => (by split <;> simp)⟩
  | r :: rs, hs, ys, e, hl, hr => by
    have hst := hr r (by simp)
    have e2 : tally w (hs ++ [r]) = some (tlyR w ys r) := by
      rw [tally_snoc, e]
      show (if stk w r = some [] then some (tlyR w ys r) else none) = _
      rw [if_pos hst]
    have hP := hok.1
    obtain ⟨a1, a2, a3⟩ := tlyF_getD hok r (incA ys w.rows.length) (by rw [incA_len, hl]) (stk_rng hst)
    rw [incA_len] at a3
    obtain ⟨zs, b1, b2, b3, b4⟩ := tally_getD hok rs (hs ++ [r]) _ e2 (by show (r.foldl (tly1 w) (incA ys w.rows.length)).length = _; rw [a3, hl]) fun x hx => hr x (by simp [hx])
    refine ⟨zs, by rw [show hs ++ r :: rs = hs ++ [r] ++ rs by simp]; exact b1, by rw [b2]; exact a3, fun j hj => ?_, fun c hc => ?_⟩
    · have h1 := b3 j hj
      have h2 := a1 j hj
      rw [incA_getD (by omega), if_neg (by omega)] at h2
      unfold tlyR at h1
      rw [h1, h2, List.map_cons, List.sum_cons]
      omega
    · have h1 := b4 c hc
      have h2 := a2 c hc
      rw [incA_getD (by omega)] at h2
      unfold tlyR at h1
      rw [h1, h2, List.map_cons, List.sum_cons, List.length_cons]
      by_cases e0 : c = 0
      · rw [if_pos e0, if_pos e0, if_pos (by omega)]; omega
      · rw [if_neg e0, if_neg e0, if_neg (by omega)]; omega
theorem callsI_is (c : Nat) {r : List Int} (h : ∀ k ∈ r, 0 ≤ k ∧ k < w.rows.length) : callsI w c r = ((List.range w.rows.length).map fun k => if (w.row k).c = (c : Nat) then r.count (k : Int) else 0).sum := by
  induction r with
  | nil => exact (sumN_nil fun k _ => by split <;> rfl).symm
  | cons k r ih =>
    obtain ⟨k0, k1⟩ := h k (by simp)
    obtain ⟨n, rfl⟩ := toI k0
    rw [callsI_cons, ih fun j hj => h j (by simp [hj]), Int.toNat_natCast]
    have e := sum_updN (f := fun j : Nat => if (w.row j).c = (c : Nat) then ((n : Int) :: r).count (j : Int) else 0) (g := fun j : Nat => if (w.row j).c = (c : Nat) then r.count (j : Int) else 0) (d := if (w.row n).c = (c : Nat) then 1 else 0) (k := n) (fun j hj => by
      rw [count_cast, if_neg (show ¬ n = j from fun z => hj z.symm), Nat.zero_add]) (by
      rw [count_cast, if_pos rfl]
      split <;> omega) (List.nodup_range (n := w.rows.length)) (List.mem_range.mpr (by omega))
    rw [e]
    omega
theorem callsI_sum (c : Nat) {rs : List (List Int)} (h : ∀ r ∈ rs, ∀ k ∈ r, 0 ≤ k ∧ k < w.rows.length) : (rs.map (callsI w c)).sum = ((List.range w.rows.length).map fun k => if (w.row k).c = (c : Nat) then (rs.map fun r => r.count (k : Int)).sum else 0).sum := by
  induction rs with
  | nil => exact (sumN_nil fun k _ => by split <;> rfl).symm
  | cons r rs ih =>
    rw [List.map_cons, List.sum_cons, ih fun x hx => h x (by simp [hx]), callsI_is c (h r (by simp))]
    refine (sumN_add fun k _ => ?_).symm
    rw [List.map_cons, List.sum_cons]
    split <;> rfl
theorem HpI.done (h : RightC w xs) (hok : w.Ok) {Ws : Wt} (i : HpI w xs 0 Ws) : tally w (Ws 0) = some xs ∧ (Ws 0).length = nN xs w.rows.length ∧ ∀ r ∈ Ws 0, stk w r = some [] := by
  have hP := hok.1
  have e0 : ∀ c, 1 ≤ c → Ws c = [] := fun c hc => by
    by_cases h2 : c < w.places.length
    · have h1 := i.len c (by omega) h2
      rw [h.calls hok hc h2] at h1
      exact List.eq_nil_of_length_eq_zero (by omega)
    · exact i.high c (by omega)
  have hl0 : (Ws 0).length = nN xs w.rows.length := by
    have h1 := i.len 0 (Nat.le_refl _) (by omega)
    rw [clGe_low hok (.inl (Nat.le_refl 0))] at h1
    exact h1
  have hst : ∀ r ∈ Ws 0, stk w r = some [] := fun r hr => fr_stk (i.fr 0 r hr)
  have htot : ∀ j : Nat, ((Ws 0).map fun r => r.count (j : Int)).sum = if j < w.rows.length then nN xs j else 0 := fun j : Nat => by
    have h1 := i.tot j
    have h2 : totW w.places.length Ws j = ((Ws 0).map fun r => r.count (j : Int)).sum := by
      unfold totW
      have e := sum_updN (f := fun c => ((Ws c).map fun r => r.count (j : Int)).sum) (g := fun _ => 0) (d := ((Ws 0).map fun r => r.count (j : Int)).sum) (k := 0) (fun c hc => by
        rw [e0 c (by omega)]
        rfl) (by omega) (List.nodup_range (n := w.places.length)) (List.mem_range.mpr (by omega))
      rw [e, sumN_nil (fun _ _ => rfl)]
      omega
    rw [← h2, h1]
    by_cases c1 : j < w.rows.length
    · have hro := hok.2.2.1 _ (row_mem c1)
      unfold Web.rowOk at hro
      rw [if_pos ⟨c1, by omega⟩, if_pos c1]
    · rw [if_neg (fun z => c1 z.1), if_neg c1]
  refine ⟨?_, hl0, hst⟩
  obtain ⟨zs, b1, b2, b3, b4⟩ := tally_getD hok (Ws 0) [] _ rfl (by rw [List.length_replicate]) hst
  rw [List.nil_append] at b1
  rw [b1]
  congr 1
  rw [List.length_replicate] at b2
  have g0 : ∀ j, (List.replicate (w.rows.length + w.places.length) (0 : Int)).getD j 0 = 0 := fun j => by
    rw [List.getD_eq_getElem?_getD, List.getElem?_replicate]
    split <;> rfl
  have key : ∀ j, j < w.rows.length + w.places.length → zs.getD j 0 = xs.getD j 0 := fun j hj => by
    by_cases c1 : j < w.rows.length
    · rw [b3 j c1, g0, htot j, if_pos c1, h.cast]
      omega
    · obtain ⟨c, rfl⟩ : ∃ c, j = w.rows.length + c := ⟨j - w.rows.length, by omega⟩
      rw [b4 c (by omega), g0, callsI_sum c fun r hr => stk_rng (hst r hr)]
      have e1 : ((List.range w.rows.length).map fun k => if (w.row k).c = (c : Nat) then ((Ws 0).map fun r => r.count (k : Int)).sum else 0).sum = clGe w xs 0 c := by
        unfold clGe
        congr 1
        refine List.map_congr_left fun k hk => ?_
        have hk' := List.mem_range.mp hk
        have hro := hok.2.2.1 _ (row_mem hk')
        unfold Web.rowOk at hro
        rw [htot k, if_pos hk']
        by_cases c2 : (w.row k).c = (c : Nat)
        · rw [if_pos c2, if_pos ⟨by omega, c2⟩]
        · rw [if_neg c2, if_neg (fun z => c2 z.2)]
      rw [e1]
      by_cases c0 : c = 0
      · subst c0
        rw [clGe_low hok (.inl (Nat.le_refl 0)), if_pos rfl, hl0, ← h.cast, Nat.add_zero]
        omega
      · rw [h.calls hok (by omega) (by omega), if_neg c0, h.cast]
        omega
  refine List.ext_getElem (by rw [b2, h.len]) fun j h1 h2 => ?_
  have := key j (by rw [← b2]; exact h1)
  rw [List.getD_eq_getElem?_getD, List.getD_eq_getElem?_getD, List.getElem?_eq_getElem h1, List.getElem?_eq_getElem h2] at this
  exact this
end
/-! whether numbers are counts -/
def Bx (xs : List Int) : Prop := ∀ j, -15000 ≤ xs.getD j 0 ∧ xs.getD j 0 ≤ 15000
def EvenC (w : Web) (xs : List Int) : Prop := ∀ r ∈ rels w, dot r xs = 0
def HangAll (w : Web) (p : Nat) (xs : List Int) : Prop := ∀ k, k < w.rows.length → (w.row k).p = (p : Nat) → 0 < nN xs k → HangR w p (nN xs) (w.row k).s
theorem nN_pos {xs : List Int} {k : Nat} : 0 < nN xs k ↔ 0 < xs.getD k 0 := by unfold nN; omega
def C_are_even : PC := fun ts Q => ∃ (w : Web) (xs : List Int), ts = [w.t, .lst (xs.map T.int)] ∧ w.Ok ∧ xs.length = w.rows.length + w.places.length ∧ Bx xs ∧ (EvenC w xs → Q (.t (.bl true))) ∧ (¬ EvenC w xs → Q (.t (.bl false)))
theorem ln_are_even : ∀ ts Q, C_are_even ts Q → ts.length = ["a", "b"].length := by rintro ts Q ⟨_, _, rfl, _⟩; rfl
def rd_are_even : DSt :=
  dSeq (dFor (diL (dCallT C_related (dCons (dVar 0) (dNil)))) (dgN 2) (dIfS (dB (d2 (fEq true) (dN fSum (dCons (dLc finT (diR1 (dCons (dN fLen (dCons (dVar 1) (dNil))) (dNil))) (dgN 3) (dYes) (d2 (fI IntMulOk fun i j => .int (i * j)) (d2 fIx (dVar 2) (dVar 3)) (d2 fIx (dVar 1) (dVar 3))) [3]) (dNil))) (dC (.int 0)))) (dRet (dC (.bl false))) (dNext)))
  (dRet (dC (.bl true)))

theorem rp_are_even : ∀ ts Q, C_are_even ts Q → rd_are_even ⟨FinP Q (.t .non), FinP Q, fun _ => False, fun _ => False⟩ ⟨ts.map (fun t => some (W.t t)) ++ List.replicate (4 - ts.length) none, []⟩ := by
  rintro ts Q ⟨w, xs, rfl, hok, hl, hb, hT, hF⟩
  have hok1 := hok.1
  unfold rd_are_even
  walk_at "dl"
  refine ⟨w, rfl, hok, ?_⟩
  walk_at "dl"
  refine forA (rels w) (fun r => W.t (runT r)) (fun r => dot r xs = 0) (fun g' => ∃ (o2 o3 : Option W), g' = ⟨[some (.t w.t), some (.t (.lst (xs.map T.int))), o2, o3], []⟩) (by rw [List.map_map]; rfl) ⟨_, _, rfl⟩ (fun _ _ => by trivial) ?_ ?_
  · rintro r hr g' ⟨o2, o3, rfl⟩ N hN
    have hrl := rels_len hr
    have hbd := rel_small hr
    unfold runT
    walk_at "dl"
    rw [List.length_map]
    refine ⟨by omega, ?_⟩
    refine lcP (List.range xs.length) (fun k => W.t (natT k)) (fun _ => true) (fun k => T.int (r.getD k 0 * xs.getD k 0)) (by rw [Int.toNat_natCast, rgW0]; rfl) (by rw [List.length_range]; exact lineLe (by omega)) trivial ?_ rfl ?_
    · intro z hz Y N3 hY hN3
      have hzl := List.mem_range.mp hz
      have h1 := int_at (xs := r) (j := z) (by omega)
      have h2 := int_at (xs := xs) (j := z) hzl
      have h3 := hb z
      unfold natT
      walk_at "dl"
      refine i_fI (mulR (by omega) (by omega)) ?_
      exact hY rfl _ rfl
    rw [List.filter_eq_self.mpr (fun _ _ => rfl)]
    walk_at "dl"
    refine i_sum (ns := (List.range xs.length).map fun k => r.getD k 0 * xs.getD k 0) (by rw [List.map_map]; rfl) ?_
    rw [dot_range (by omega)]
    walk_at "dl"
    refine k_n (fun h => ?_) (fun h => ?_)
    · walk_at "dl"
      exact hF fun e => h (e r hr)
    · walk_at "dl"
      exact hN h _ ⟨_, _, rfl⟩
  · rintro he g' ⟨o2, o3, rfl⟩
    walk_at "dl"
    exact hT he
theorem reach_hang {w : Web} {p : Nat} {xs : List Int} {v : Int} : Reach (((w.rowsOf p).filter fun k => decide (0 < xs.getD k 0)).map (w.edge false)) 0 v ↔ HangR w p (nN xs) v := by
  constructor
  · intro h
    induction h with
    | refl => exact .zero
    | step _ he ih =>
      obtain ⟨k, hk, e⟩ := List.mem_map.mp he
      obtain ⟨k1, k2⟩ := List.mem_filter.mp hk
      obtain ⟨k3, k4⟩ := mem_rowsOf.mp k1
      have e2 : w.edge false k = ((w.row k).s, (w.row k).e) := rfl
      rw [e2] at e
      cases e
      exact .step ih k3 k4 (nN_pos.mpr (of_decide_eq_true k2))
  · intro h
    induction h with
    | zero => exact .refl
    | @step k _ h1 h2 h3 ih => exact .step ih (List.mem_map.mpr ⟨k, List.mem_filter.mpr ⟨mem_rowsOf.mpr ⟨h1, h2⟩, decide_eq_true (nN_pos.mp h3)⟩, rfl⟩)
def C_hang_on : PC := fun ts Q => ∃ (w : Web) (p : Nat) (xs : List Int), ts = [w.t, .int p, .lst (xs.map T.int)] ∧ w.Ok ∧ xs.length = w.rows.length + w.places.length ∧ (HangAll w p xs → Q (.t (.bl true))) ∧ (¬ HangAll w p xs → Q (.t (.bl false)))
theorem ln_hang_on : ∀ ts Q, C_hang_on ts Q → ts.length = ["a", "b", "c"].length := by rintro ts Q ⟨_, _, _, rfl, _⟩; rfl
def rd_hang_on : DSt :=
  dSeq (dAsg (dLc finT (diL (dCallT C_rows_of (dCons (dVar 0) (dCons (dVar 1) (dNil))))) (dgN 6) (dB (d2 (fI0 fun i j => .bl (decide (j < i))) (d2 fIx (dVar 2) (dVar 6)) (dC (.int 0)))) (dVar 6) [6]) (dgN 3))
  (dSeq (dAsg (dDisp [(dC (.int 0), dC (.bl true))]) (dgN 4))
  (dSeq (dAsg (dC (.int 0)) (dgN 5))
  (dSeq (dWhile (dB (d2 (fI0 fun i j => .bl (decide (i < j))) (dVar 5) (dN fLen (dCons (dVar 4) (dNil))))) (dSeq (dAsg (dN fLen (dCons (dVar 4) (dNil))) (dgN 5))
  (dFor (diL (dVar 3)) (dgN 6) (dIfS (dB (d2 (fDin false) (d2 fIx (d2 fIx (d2 fIx (dVar 0) (dC (.int 1))) (dVar 6)) (dC (.int 1))) (dVar 4))) (dDput (dVar 4) (d2 fIx (d2 fIx (d2 fIx (dVar 0) (dC (.int 1))) (dVar 6)) (dC (.int 2))) (dC (.bl true))) (dNext)))))
  (dRet (d2 (fEq false) (dN fLen (dCons (dLc finT (diL (dVar 3)) (dgN 6) (dB (d2 (fDin true) (d2 fIx (d2 fIx (d2 fIx (dVar 0) (dC (.int 1))) (dVar 6)) (dC (.int 1))) (dVar 4))) (dVar 6) [6]) (dNil))) (dC (.int 0)))))))

theorem rp_hang_on : ∀ ts Q, C_hang_on ts Q → rd_hang_on ⟨FinP Q (.t .non), FinP Q, fun _ => False, fun _ => False⟩ ⟨ts.map (fun t => some (W.t t)) ++ List.replicate (7 - ts.length) none, []⟩ := by
  rintro ts Q ⟨w, p, xs, rfl, hok, hxl, hT, hF⟩
  have hok1 := hok.1
  have hl : w.rows.length ≤ 1000 := by omega
  have hrl : (w.rowsOf p).length ≤ w.rows.length := by
    unfold Web.rowsOf
    exact Nat.le_trans (List.length_filter_le _ _) (by rw [List.length_range]; exact Nat.le_refl _)
  unfold rd_hang_on Web.t
  walk_at "dl"
  refine ⟨w, p, rfl, hl, ?_⟩
  walk_at "dl"
  refine lcP (w.rowsOf p) (fun k => W.t (natT k)) (fun k => decide (0 < xs.getD k 0)) natT (by rw [List.map_map]; rfl) (lineLe (by omega)) rfl ?_ rfl ?_
  · intro z hz Y N3 hY hN3
    have hzl := (mem_rowsOf.mp hz).1
    have h2 := int_at (xs := xs) (j := z) (by omega)
    unfold natT
    walk_at "dl"
    refine k_d (fun hc => ?_) (fun hc => ?_)
    · walk_at "dl"
      exact hY (decide_eq_true hc) _ rfl
    · exact hN3 (decide_eq_false hc) _ rfl
  generalize hsome : ((w.rowsOf p).filter fun k => decide (0 < xs.getD k 0)) = some1
  have hsl : some1.length ≤ w.rows.length := by rw [← hsome]; exact Nat.le_trans (List.length_filter_le _ _) hrl
  have hsin : ∀ k ∈ some1, k < w.rows.length := fun k hk => (mem_rowsOf.mp (List.mem_filter.mp (by rw [hsome]; exact hk : k ∈ (w.rowsOf p).filter fun k => decide (0 < xs.getD k 0))).1).1
  have hrh : ∀ v, Reach (some1.map (w.edge false)) 0 v ↔ HangR w p (nN xs) v := fun v => by rw [← hsome]; exact reach_hang
  have hall : HangAll w p xs ↔ ∀ k ∈ some1, Reach (some1.map (w.edge false)) 0 (w.row k).s := by
    constructor
    · intro h k hk
      rw [← hsome] at hk
      obtain ⟨k1, k2⟩ := List.mem_filter.mp hk
      obtain ⟨k3, k4⟩ := mem_rowsOf.mp k1
      exact (hrh _).mpr (h k k3 k4 (nN_pos.mpr (of_decide_eq_true k2)))
    · intro h k h1 h2 h3
      exact (hrh _).mp (h k (by rw [← hsome]; exact List.mem_filter.mpr ⟨mem_rowsOf.mpr ⟨h1, h2⟩, decide_eq_true (nN_pos.mp h3)⟩))
  generalize hE : some1.map (w.edge false) = E at hall hrh
  have hEl : E.length = some1.length := by rw [← hE, List.length_map]
  clear hrh
  walk_at "dl"
  refine i_disp1 ?_
  walk_at "dl"
  refine o_Key rfl ?_
  walk_at "dl"
  refine ⟨by decide, ?_⟩
  walk_at "dl"
  have sub0 : ∀ ks : List Int, (∀ x ∈ ks, x ∈ (0 : Int) :: E.map (·.2)) → ks.Nodup → ks.length ≤ 1001 := fun ks h nd => by
    have h1 := nd.length_le_of_subset h
    rw [List.length_cons, List.length_map] at h1
    omega
  have rsub : ∀ x, Reach E 0 x → x ∈ (0 : Int) :: E.map (·.2) := fun x h => by
    cases h with
    | refl => simp
    | step _ he => exact List.mem_cons_of_mem _ (List.mem_map.mpr ⟨_, he, rfl⟩)
  refine ⟨fun n g' => ∃ (ks : List Int) (m : Nat) (o6 : Option W), g' = ⟨[some (.t (.tup [.lst (w.places.map T.int), .lst (w.rows.map Row.t)])), some (.t (.int p)), some (.t (.lst (xs.map T.int))), some (.t (.lst (some1.map natT))), some (.h 0), some (.t (.int m)), o6], [some (bset ks)]⟩ ∧
      ks.Nodup ∧ (0 : Int) ∈ ks ∧ (∀ x ∈ ks, Reach E 0 x) ∧ m ≤ ks.length ∧ (m = ks.length → ∀ a b, (a, b) ∈ E → a ∈ ks → b ∈ ks) ∧ n = 2000 - m, ⟨_, [0], 0, none, rfl, by simp, by simp, ?_, by simp, by simp, rfl⟩, ?_⟩
  · intro x hx
    simp at hx
    subst hx
    exact .refl
  · rintro n g' ⟨ks, m, o6, rfl, nd, hs, hr, hm, hcl, rfl⟩
    have hb : ks.length ≤ 1001 := sub0 ks (fun x hx => rsub x (hr x hx)) nd
    unfold bset
    walk_at "dl"
    rw [List.length_map]
    refine k_d (fun hlt => ?_) (fun hge => ?_)
    · walk_at "dl"
      rw [List.length_map]
      refine forP some1 (fun k => W.t (natT k)) (fun ks k => pass1 ks (w.edge false k))
        (fun ks' g' => ∃ (o6 : Option W), g' = ⟨[some (.t (.tup [.lst (w.places.map T.int), .lst (w.rows.map Row.t)])), some (.t (.int p)), some (.t (.lst (xs.map T.int))), some (.t (.lst (some1.map natT))), some (.h 0), some (.t (.int ks.length)), o6], [some (bset ks')]⟩)
        ks (by rw [List.map_map]; rfl) ⟨o6, rfl⟩ (fun _ _ _ => by trivial) ?_ ?_
      · rintro pre k post hsp g' ⟨o6, rfl⟩ N hN
        have hk : k < w.rows.length := hsin k (by rw [hsp]; simp)
        have hrow := row_at hk
        generalize hks : pre.foldl (fun ks k => pass1 ks (w.edge false k)) ks = ks2 at hN
        have hb2 : ks2.length ≤ 1001 := by
          have e1 : ks2 = ((pre.map (w.edge false)).foldl pass1 ks) := by rw [← hks, List.foldl_map]
          have hin : ∀ ab ∈ pre.map (w.edge false), ab ∈ E := fun ab hab => by
            obtain ⟨j, hj, rfl⟩ := List.mem_map.mp hab
            rw [← hE]
            exact List.mem_map.mpr ⟨j, by rw [hsp]; simp [hj], rfl⟩
          rw [e1]
          exact sub0 _ (fun x hx => rsub x (pass_reach _ hin hr x hx)) (pass_nd nd)
        unfold natT Row.t bset at *
        walk_at "dl"
        rw [look_bset]
        refine k_d (fun hin => ?_) (fun hin => ?_)
        · walk_at "dl"
          refine o_dput rfl rfl (by rw [List.length_map]; exact lineLt (by omega)) ?_
          walk_at "dn"
          rw [putKs_bset, putXs_bset]
          have e : pass1 ks2 (w.edge false k) = ins ks2 _ := if_pos hin
          rw [e] at hN
          exact hN _ ⟨_, rfl⟩
        · walk_at "dl"
          have e : pass1 ks2 (w.edge false k) = ks2 := if_neg hin
          rw [e] at hN
          exact hN _ ⟨_, rfl⟩
      · rintro g' ⟨o6, rfl⟩
        have e1 : some1.foldl (fun ks k => pass1 ks (w.edge false k)) ks = E.foldl pass1 ks := by rw [← hE, List.foldl_map]
        rw [e1]
        refine ⟨2000 - ks.length, by omega, _, ks.length, o6, rfl, pass_nd nd, pass_sub hs, pass_reach _ (fun _ h => h) hr, pass_len ks, fun he a b hab ha => ?_, rfl⟩
        have e2 := pass_eq he.symm
        rw [e2] at ha ⊢
        rw [← e2]
        exact pass_has hab ha
    · walk_at "dl"
      have he : m = ks.length := by omega
      have hmem : ∀ x, x ∈ ks ↔ Reach E 0 x := fun x => ⟨hr x, reach_closed hs (hcl he)⟩
      refine lcP some1 (fun k => W.t (natT k)) (fun k => !decide ((w.row k).s ∈ ks)) natT (by rw [List.map_map]; rfl) (lineLe (by omega)) rfl ?_ rfl ?_
      · intro z hz Y N3 hY hN3
        have hk := hsin z hz
        have hrow := row_at hk
        unfold natT Row.t at *
        walk_at "dl"
        rw [look_bset]
        refine k_n (fun hc => ?_) (fun hc => ?_)
        · walk_at "dl"
          exact hY (by simpa using hc) _ rfl
        · exact hN3 (by simpa using hc) _ rfl
      walk_at "dl"
      rw [List.length_map]
      by_cases ha : HangAll w p xs
      · have e0 : (some1.filter fun k => !decide ((w.row k).s ∈ ks)) = [] := List.filter_eq_nil_iff.mpr fun k hk => by
          have := (hmem _).mpr (hall.mp ha k hk)
          simpa using this
        rw [e0]
        exact hT ha
      · have e0 : ¬ (((some1.filter fun k => !decide ((w.row k).s ∈ ks)).length : Int) = 0) := fun z => ha (hall.mpr fun k hk => by
          have e1 : (some1.filter fun k => !decide ((w.row k).s ∈ ks)) = [] := List.eq_nil_of_length_eq_zero (by omega)
          have := List.filter_eq_nil_iff.mp e1 k hk
          exact (hmem _).mp (by simpa using this))
        rw [decide_eq_false e0]
        exact hF ha
theorem rowsOf_ne {w : Web} (hok : w.Ok) {p : Nat} (hp : p < w.places.length) : w.rowsOf p ≠ [] := by
  have hpl := hok.2.1 _ (place_mem hp)
  intro e
  have h := ((hok.2.2.2 p hp).1 1 (by omega) (by omega)).1
  have key : ∀ x y : Int, Reach (w.edges p false) x y → x = y := fun x y h => by
    induction h with
    | refl => rfl
    | step _ he _ =>
      unfold Web.edges at he
      rw [e] at he
      cases he
  have := key _ _ h
  omega
def BegC (w : Web) (p : Nat) (xs : List Int) : Prop := nN xs (w.rows.length + p) = 0 → ∀ k, k < w.rows.length → (w.row k).p = (p : Nat) → nN xs k = 0
theorem rightC_iff {w : Web} {xs : List Int} (hl : xs.length = w.rows.length + w.places.length) (hp : ∀ k, 0 ≤ xs.getD k 0) (he : EvenC w xs) (hb : ∀ p ∈ List.range w.places.length, BegC w p xs ∧ HangAll w p xs) : RightC w xs := ⟨hl, hp, he, fun p h => (hb p (List.mem_range.mpr h)).1, fun p h => (hb p (List.mem_range.mpr h)).2⟩
theorem getD_mem0 {xs : List Int} {m : Int} (h : m ∈ xs) : ∃ j : Nat, xs.getD j 0 = m := by
  obtain ⟨j, hj⟩ := List.getElem?_of_mem h
  exact ⟨j, by rw [List.getD_eq_getElem?_getD, hj]; rfl⟩
theorem getD_all {xs : List Int} {P : Int → Prop} (h0 : P 0) (h : ∀ m ∈ xs, P m) (j : Nat) : P (xs.getD j 0) := by
  rw [List.getD_eq_getElem?_getD]
  cases e : xs[j]? with
  | none => exact h0
  | some m => exact h m (List.mem_of_getElem? e)
def C_right_counts : PC := fun ts Q => ∃ (w : Web) (xs : List Int), ts = [w.t, .lst (xs.map T.int)] ∧ w.Ok ∧ xs.length ≤ 1000 ∧ Bx xs ∧ (RightC w xs → Q (.t (.bl true))) ∧ (¬ RightC w xs → Q (.t (.bl false)))
theorem ln_right_counts : ∀ ts Q, C_right_counts ts Q → ts.length = ["a", "b"].length := by rintro ts Q ⟨_, _, rfl, _⟩; rfl
def rd_right_counts : DSt :=
  dSeq (dIfS (dOr (dB (d2 (fEq true) (dN fLen (dCons (dVar 1) (dNil))) (d2 fAdd (dN fLen (dCons (d2 fIx (dVar 0) (dC (.int 1))) (dNil))) (dN fLen (dCons (d2 fIx (dVar 0) (dC (.int 0))) (dNil)))))) (dOr (dB (d2 (fI0 fun i j => .bl (decide (i < j))) (dN fMin (dCons (dVar 1) (dNil))) (dC (.int 0)))) (dNot (dB (dCallT C_are_even (dCons (dVar 0) (dCons (dVar 1) (dNil)))))))) (dRet (dC (.bl false))) (dNext))
  (dSeq (dFor (diR1 (dCons (dN fLen (dCons (d2 fIx (dVar 0) (dC (.int 0))) (dNil))) (dNil))) (dgN 2) (dSeq (dAsg (d2 fIx (dVar 1) (d2 fAdd (dN fLen (dCons (d2 fIx (dVar 0) (dC (.int 1))) (dNil))) (dVar 2))) (dgN 3))
  (dIfS (dOr (dAnd (dB (d2 (fEq false) (dVar 3) (dC (.int 0)))) (dB (d2 (fI0 fun i j => .bl (decide (j < i))) (dN fMax (dCons (dLc finT (diL (dCallT C_rows_of (dCons (dVar 0) (dCons (dVar 2) (dNil))))) (dgN 4) (dYes) (d2 fIx (dVar 1) (dVar 4)) [4]) (dNil))) (dC (.int 0))))) (dNot (dB (dCallT C_hang_on (dCons (dVar 0) (dCons (dVar 2) (dCons (dVar 1) (dNil)))))))) (dRet (dC (.bl false))) (dNext))))
  (dRet (dC (.bl true))))

theorem rp_right_counts : ∀ ts Q, C_right_counts ts Q → rd_right_counts ⟨FinP Q (.t .non), FinP Q, fun _ => False, fun _ => False⟩ ⟨ts.map (fun t => some (W.t t)) ++ List.replicate (5 - ts.length) none, []⟩ := by
  rintro ts Q ⟨w, xs, rfl, hok, hxl, hb, hT, hF⟩
  have hok1 := hok.1
  unfold rd_right_counts Web.t
  walk_at "dl"
  simp only [List.length_map]
  refine k_n (fun h => ?_) (fun h => ?_)
  · walk_at "dl"
    exact hF fun r => h (by have := r.len; omega)
  have hl : xs.length = w.rows.length + w.places.length := by omega
  walk_at "dl"
  refine i_min (ns := xs) rfl (by omega) fun m hm1 hm2 => ?_
  walk_at "dl"
  refine k_d (fun h => ?_) (fun h => ?_)
  · walk_at "dl"
    exact hF fun r => by
      obtain ⟨j, e⟩ := getD_mem0 hm1
      have := r.pos j
      omega
  have hpos : ∀ k, 0 ≤ xs.getD k 0 := getD_all (P := fun z => 0 ≤ z) (Int.le_refl 0) fun y hy => by have := hm2 y hy; omega
  walk_at "dl"
  refine ⟨w, xs, rfl, hok, hl, hb, fun he => ?_, fun he => ?_⟩
  · walk_at "dl"
    rw [Bool.not_true]
    walk_at "dl"
    rw [List.length_map]
    refine ⟨by omega, ?_⟩
    refine forA (List.range w.places.length) (fun k => W.t (natT k)) (fun p => BegC w p xs ∧ HangAll w p xs) (fun g' => ∃ (o2 o3 o4 : Option W), g' = ⟨[some (.t (.tup [.lst (w.places.map T.int), .lst (w.rows.map Row.t)])), some (.t (.lst (xs.map T.int))), o2, o3, o4], []⟩) (by rw [Int.toNat_natCast, rgW0]; rfl) ⟨_, _, _, rfl⟩ (fun _ _ => by trivial) ?_ ?_
    · rintro p hp g' ⟨o2, o3, o4, rfl⟩ N hN
      have hpl := List.mem_range.mp hp
      have h1 := int_at (xs := xs) (j := w.rows.length + p) (by omega)
      rw [Int.natCast_add] at h1
      have hbad : ¬ (BegC w p xs ∧ HangAll w p xs) → Q (.t (.bl false)) := fun hn => hF fun r => hn ⟨r.beg p hpl, r.hang p hpl⟩
      have hrl : (w.rowsOf p).length ≤ w.rows.length := by
        unfold Web.rowsOf
        exact Nat.le_trans (List.length_filter_le _ _) (by rw [List.length_range]; exact Nat.le_refl _)
      unfold natT
      walk_at "dl"
      rw [List.length_map]
      walk_at "dl"
      refine k_d (fun h0 => ?_) (fun h0 => ?_)
      · walk_at "dl"
        refine ⟨w, p, rfl, by omega, ?_⟩
        walk_at "dl"
        refine lcP (w.rowsOf p) (fun k => W.t (natT k)) (fun _ => true) (fun k => T.int (xs.getD k 0)) (by rw [List.map_map]; rfl) (lineLe (by omega)) rfl ?_ rfl ?_
        · intro z hz Y N3 hY hN3
          have hzl := (mem_rowsOf.mp hz).1
          have h2 := int_at (xs := xs) (j := z) (by omega)
          unfold natT
          walk_at "dl"
          exact hY rfl _ rfl
        rw [List.filter_eq_self.mpr (fun _ _ => rfl)]
        walk_at "dl"
        have hne := rowsOf_ne hok hpl
        refine i_max (ns := (w.rowsOf p).map fun k => xs.getD k 0) (by rw [List.map_map]; rfl) (by rw [List.length_map]; exact List.length_pos_iff.mpr hne) fun m hm1 hm2 => ?_
        obtain ⟨km, hkm, ekm⟩ := List.mem_map.mp hm1
        obtain ⟨hkm1, hkm2⟩ := mem_rowsOf.mp hkm
        walk_at "dl"
        refine k_d (fun hm => ?_) (fun hm => ?_)
        · walk_at "dl"
          exact hbad fun ⟨z, _⟩ => by
            have := z (by unfold nN; omega) km hkm1 hkm2
            unfold nN at this
            omega
        have hbeg : BegC w p xs := fun _ k k1 k2 => by
          have := hm2 _ (List.mem_map.mpr ⟨k, mem_rowsOf.mpr ⟨k1, k2⟩, rfl⟩)
          unfold nN
          omega
        walk_at "dl"
        refine ⟨w, p, xs, rfl, hok, hl, fun ha => ?_, fun ha => ?_⟩
        · walk_at "dl"
          rw [Bool.not_true]
          walk_at "dl"
          exact hN ⟨hbeg, ha⟩ _ ⟨_, _, _, rfl⟩
        · walk_at "dl"
          rw [Bool.not_false]
          walk_at "dl"
          exact hbad fun z => ha z.2
      · have hbeg : BegC w p xs := fun z => by
          have := hpos (w.rows.length + p)
          unfold nN at z
          omega
        walk_at "dl"
        refine ⟨w, p, xs, rfl, hok, hl, fun ha => ?_, fun ha => ?_⟩
        · walk_at "dl"
          rw [Bool.not_true]
          walk_at "dl"
          exact hN ⟨hbeg, ha⟩ _ ⟨_, _, _, rfl⟩
        · walk_at "dl"
          rw [Bool.not_false]
          walk_at "dl"
          exact hbad fun z => ha z.2
    · rintro hall g' ⟨o2, o3, o4, rfl⟩
      walk_at "dl"
      exact hT (rightC_iff hl hpos he hall)
  · walk_at "dl"
    rw [Bool.not_false]
    walk_at "dl"
    exact hF fun r => he r.even
def C_are_counts : PC := fun ts Q => ∃ (w : Web) (xs : List Int), ts = [w.t, .lst (xs.map T.int)] ∧ w.Ok ∧ xs.length ≤ 1000 ∧ Bx xs ∧ (RightC w xs → Q (.t (.bl true))) ∧ (¬ RightC w xs → Q (.t (.bl false)))
theorem ln_are_counts : ∀ ts Q, C_are_counts ts Q → ts.length = ["a", "b"].length := by rintro ts Q ⟨_, _, rfl, _⟩; rfl
def rd_are_counts : DSt :=
  dSeq (dDrop (dCallT C_must_be_web (dCons (dVar 0) (dNil))))
  (dRet (dCallH C_right_counts (dCons (dVar 0) (dCons (dVar 1) (dNil)))))

theorem rp_are_counts : ∀ ts Q, C_are_counts ts Q → rd_are_counts ⟨FinP Q (.t .non), FinP Q, fun _ => False, fun _ => False⟩ ⟨ts.map (fun t => some (W.t t)) ++ List.replicate (2 - ts.length) none, []⟩ := by
  rintro ts Q ⟨w, xs, rfl, hok, hxl, hb, hT, hF⟩
  unfold rd_are_counts
  walk_at "dl"
  refine ⟨w, rfl, hok, ?_⟩
  walk_at "dl"
  refine ⟨w, xs, rfl, hok, hxl, hb, fun he => ?_, fun he => ?_⟩
  · walk_at "dl"
    exact hT he
  · walk_at "dl"
    exact hF he
/-! rounds taken from a dict of rows left -/
theorem putKs_old {b : Int} {ks : List Int} (h : b ∈ ks) : putKs (ks.map Sum.inl) (Sum.inl b) = ks.map Sum.inl := by
  unfold putKs
  rw [hasK_ints, if_pos (decide_eq_true h)]
theorem putAll_upd {b v : Int} {F : Int → Int} : ∀ ks : List Int, putAll (Sum.inl b : Key) (T.int v) (ks.map Sum.inl) (ks.map fun x => T.int (F x)) = ks.map fun x => T.int (updI F b v x)
  | [] => rfl
  | k :: ks => by
    rw [List.map_cons, List.map_cons, List.map_cons]
    unfold putAll
    rw [putAll_upd ks]
    congr 1
    unfold updI
    by_cases e : k = b
    · subst e; rw [if_pos rfl, if_pos rfl]
    · rw [if_neg (fun z => e (Sum.inl.inj z)), if_neg e]
theorem putXs_old {b v : Int} {ks : List Int} {F : Int → Int} (h : b ∈ ks) : putXs (ks.map Sum.inl) (ks.map fun x => T.int (F x)) (Sum.inl b) (T.int v) = ks.map fun x => T.int (updI F b v x) := by
  unfold putXs
  rw [hasK_ints, if_pos (decide_eq_true h)]
  exact putAll_upd ks
def onDaug (f : Int → Int → Int) (tv : Dt) (D : De) (o y : W) (g2 : G) : Prop := match o, y with
  | .h n, .t ky => (match keyT ky with
    | some k => (match g2.mem[n]? with
      | some (some (.dt ks ts)) => (match look ks ts k with
        | some (.int z) => tv g2 fun w g3 => (match w with | .t (.int d) => g3.mem[n]? = some (some (.dt ks ts)) ∧ ks.length < sizeLine ∧ D.nx (g3.put n (.dt (putKs ks k) (putXs ks ts k (.int (f z d))))) | _ => False)
        | _ => False)
      | _ => False)
    | none => False)
  | _, _ => False
theorem i_daug {f : Int → Int → Int} {td ty tv : Dt} {D : De} {g : G} (h : td g fun o g1 => ty g1 fun y g2 => onDaug f tv D o y g2) : dDaug f td ty tv D g := h
theorem o_daug {D : De} {g : G} {n : Nat} {b : Int} {ks : List Int} {F : Int → Int} {f : Int → Int → Int} {d : Int} (em : g.mem[n]? = some (some (dI ks F))) (hb : b ∈ ks) (hl : ks.length ≤ 10000) (h : D.nx (g.put n (dI ks (updI F b (f (F b) d))))) : onDaug f (dC (.int d)) D (.h n) (.t (.int b)) g := by
  unfold onDaug
  dsimp only [keyT]
  rw [em]
  unfold dI
  dsimp only
  rw [look_in hb]
  refine ⟨em, by rw [List.length_map]; exact lineLt hl, ?_⟩
  rw [putKs_old hb, putXs_old hb]
  exact h
def lfK (w : Web) (p : Int) : List Int := (w.rowsOf p).map fun k : Nat => (k : Int)
def lfF (L : Lft) : Int → Int := fun z => (L z.toNat : Nat)
def lfC (w : Web) (p : Int) (L : Lft) : Cell := dI (lfK w p) (lfF L)
def totL (w : Web) (p : Int) (L : Lft) : Nat := ((w.rowsOf p).map L).sum
section
variable {w : Web} {p : Int}
theorem mem_lfK {k : Nat} : (k : Int) ∈ lfK w p ↔ k ∈ w.rowsOf p := by
  unfold lfK
  rw [List.mem_map]
  constructor
  · rintro ⟨j, hj, e⟩
    have : j = k := by omega
    exact this ▸ hj
  · exact fun h => ⟨k, h, rfl⟩
theorem lfC_dec {L : Lft} {k : Nat} (h0 : 0 < L k) : dI (lfK w p) (updI (lfF L) (k : Int) (lfF L (k : Int) - 1)) = lfC w p (decL L k) := by
  unfold lfC dI
  congr 1
  refine List.map_congr_left fun x hx => ?_
  obtain ⟨j, hj, rfl⟩ := List.mem_map.mp hx
  congr 1
  unfold updI lfF decL
  rw [Int.toNat_natCast, Int.toNat_natCast]
  by_cases e : j = k
  · subst e
    rw [if_pos rfl, if_pos rfl]
    omega
  · rw [if_neg (by omega), if_neg e]
theorem totL_dec {L : Lft} {k : Nat} (h0 : 0 < L k) (hk : k ∈ w.rowsOf p) : totL w p L = totL w p (decL L k) + 1 := by
  unfold totL
  refine sum_updN (k := k) (fun j hj => ?_) ?_ (rowsOf_nd w p) hk
  · unfold decL
    rw [if_neg hj]
  · unfold decL
    rw [if_pos rfl]
    omega
theorem sorted_same {ns : List Int} (h1 : ns.Perm (lfK w p)) (h2 : ns.Pairwise (· ≤ ·)) : ns = lfK w p := by
  refine List.Perm.eq_of_pairwise (fun x y _ _ a b => Int.le_antisymm a b) h2 ?_ h1
  unfold lfK Web.rowsOf
  rw [List.pairwise_map]
  refine (List.Pairwise.imp (fun {a b} hab => ?_) List.pairwise_lt_range).filter _
  have : a < b := hab
  omega
def fromR : Dt := dLc finT (diL (dN fSortD (dCons (dVar 2) (dNil)))) (dgN 6) (dAnd (dB (d2 (fI0 fun i j => .bl (decide (j < i))) (d2 fGet (dVar 2) (dVar 6)) (dC (.int 0)))) (dB (d2 (fEq false) (d2 fIx (d2 fIx (d2 fIx (dVar 0) (dC (.int 1))) (dVar 6)) (dC (.int 1))) (dVar 4)))) (dVar 6) [6]
theorem i_fromR {L : Lft} {x1 : Int} {s1 s3 s5 s6 : Option W} {n : Nat} {mem : Sto} {Q : W → G → Prop} (hr : w.rows.length ≤ 60) (em : mem[n]? = some (some (lfC w p L)))
    (h : Q (.t (.lst ((fromL w p L x1).map natT))) ⟨[some (.t w.t), s1, some (.h n), s3, some (.t (.int x1)), s5, s6], mem⟩) : fromR ⟨[some (.t w.t), s1, some (.h n), s3, some (.t (.int x1)), s5, s6], mem⟩ Q := by
  have hrl : (w.rowsOf p).length ≤ w.rows.length := by
    unfold Web.rowsOf
    exact Nat.le_trans (List.length_filter_le _ _) (by rw [List.length_range]; exact Nat.le_refl _)
  have ed : ∀ sl, (⟨sl, mem⟩ : G).dct? (.h n) = some ((lfK w p).map Sum.inl, (lfK w p).map fun x => T.int (lfF L x)) := fun sl => by
    unfold G.dct? G.cell?
    dsimp only
    rw [em]
    rfl
  unfold fromR Web.t
  walk_at "dl"
  refine i_sortD (ns := lfK w p) (ed _) (by unfold lfK; rw [List.length_map]; omega) fun ns' h1 h2 => ?_
  rw [sorted_same h1 h2]
  walk_at "dl"
  refine lcP (w.rowsOf p) (fun k => W.t (natT k)) (okR w L x1) natT (by unfold lfK; rw [List.map_map, List.map_map]; rfl) (lineLe (by omega)) rfl ?_ rfl ?_
  · intro z hz Y N3 hY hN3
    have hzl := (mem_rowsOf.mp hz).1
    have hrow := row_at hzl
    have eg : look ((lfK w p).map Sum.inl) ((lfK w p).map fun x => T.int (lfF L x)) (Sum.inl (z : Int)) = some (T.int (L z : Nat)) := by
      rw [look_in (mem_lfK.mpr hz)]
      unfold lfF
      rw [Int.toNat_natCast]
    unfold natT Row.t at *
    walk_at "dl"
    refine i_get rfl (ed _) eg ?_
    walk_at "dl"
    refine k_d (fun h1 => ?_) (fun h1 => ?_)
    · walk_at "dl"
      refine k_d (fun h2 => ?_) (fun h2 => ?_)
      · walk_at "dl"
        refine hY ?_ _ rfl
        unfold okR
        rw [decide_eq_true h2, decide_eq_true (by omega)]
        rfl
      · refine hN3 ?_ _ rfl
        unfold okR
        rw [decide_eq_false h2, Bool.and_false]
    · refine hN3 ?_ _ rfl
      unfold okR
      rw [decide_eq_false (by omega)]
      rfl
  · walk_at "dl"
    exact h
def C_round_from : SC := fun ws m QC => ∃ (w : Web) (p x : Int) (L : Lft), ws = [.t w.t, .t (.int x), .h 0] ∧ m = [lfC w p L] ∧ w.rows.length ≤ 60 ∧ totL w p L ≤ 1000000 ∧ ∀ ks L' y, Trl w p L x ks L' y → QC (.t (.lst (ks.map natT))) [lfC w p L'] []
theorem ln_round_from : ∀ ws m Q, C_round_from ws m Q → ws.length = ["a", "b", "c"].length := by rintro ws m Q ⟨_, _, _, _, rfl, _⟩; rfl
theorem callS_round {x : Int} {L : Lft} {n : Nat} {sl : List (Option W)} {mem : Sto} {Q : W → G → Prop} (em : mem[n]? = some (some (lfC w p L))) (hr : w.rows.length ≤ 60) (ht : totL w p L ≤ 1000000)
    (h : ∀ ks L' y, Trl w p L x ks L' y → Q (.t (.lst (ks.map natT))) ⟨sl, mem.set n (some (lfC w p L'))⟩) : callS C_round_from [.t w.t, .t (.int x), .h n] ⟨sl, mem⟩ Q := by
  refine ⟨[n], [lfC w p L], [.t w.t, .t (.int x), .h 0], by simp, rfl, rfl, fun i c e => ?_, w, p, x, L, rfl, rfl, hr, ht, fun ks L' y t => ⟨.t (.lst (ks.map natT)), [lfC w p L'], [], rfl, rfl, rfl, ?_⟩⟩
  · match i, e with
    | 0, e => cases e; exact ⟨n, _, rfl, rfl, em⟩
    | i + 1, e => simp at e
  · show Q _ ⟨sl, mem.set n (some (lfC w p L')) ++ []⟩
    rw [List.append_nil]
    exact h ks L' y t
end
def rd_round_from : DSt :=
  dSeq (dAsg (dLstH (dNil)) (dgN 3))
  (dSeq (dAsg (dVar 1) (dgN 4))
  (dSeq (dAsg (dLc finT (diL (dN fSortD (dCons (dVar 2) (dNil)))) (dgN 6) (dAnd (dB (d2 (fI0 fun i j => .bl (decide (j < i))) (d2 fGet (dVar 2) (dVar 6)) (dC (.int 0)))) (dB (d2 (fEq false) (d2 fIx (d2 fIx (d2 fIx (dVar 0) (dC (.int 1))) (dVar 6)) (dC (.int 1))) (dVar 4)))) (dVar 6) [6]) (dgN 5))
  (dSeq (dWhile (dB (d2 (fI0 fun i j => .bl (decide (j < i))) (dN fLen (dCons (dVar 5) (dNil))) (dC (.int 0)))) (dSeq (dDaug (fun i j => i - j) (dVar 2) (d2 fIx (dVar 5) (dC (.int 0))) (dC (.int 1)))
  (dSeq (dDrop (dM fAppend (dVar 3) (dCons (d2 fIx (dVar 5) (dC (.int 0))) (dNil))))
  (dSeq (dAsg (d2 fIx (d2 fIx (d2 fIx (dVar 0) (dC (.int 1))) (d2 fIx (dVar 5) (dC (.int 0)))) (dC (.int 2))) (dgN 4))
  (dAsg (dLc finT (diL (dN fSortD (dCons (dVar 2) (dNil)))) (dgN 6) (dAnd (dB (d2 (fI0 fun i j => .bl (decide (j < i))) (d2 fGet (dVar 2) (dVar 6)) (dC (.int 0)))) (dB (d2 (fEq false) (d2 fIx (d2 fIx (d2 fIx (dVar 0) (dC (.int 1))) (dVar 6)) (dC (.int 1))) (dVar 4)))) (dVar 6) [6]) (dgN 5))))))
  (dRet (dFrz 3)))))

theorem rp_round_from : ∀ ws m QC, C_round_from ws m QC → rd_round_from ⟨FinS m.length QC (.t .non), FinS m.length QC, fun _ => False, fun _ => False⟩ ⟨ws.map some ++ List.replicate (7 - ws.length) none, m.map some⟩ := by
  rintro ws m QC ⟨w, p, x, L, rfl, rfl, hr, ht, hQ⟩
  unfold rd_round_from
  walk_at "dl"
  refine ⟨by decide, ?_⟩
  walk_at "dl"
  refine' i_fromR (p := p) (L := L) (n := 0) hr ?e ?_
  case e => rfl
  walk_at "dl"
  refine ⟨fun n g' => ∃ (pre : List Nat) (L1 : Lft) (x1 : Int) (o6 : Option W), g' = ⟨[some (.t w.t), some (.t (.int x)), some (.h 0), some (.h 1), some (.t (.int x1)), some (.t (.lst ((fromL w p L1 x1).map natT))), o6], [some (lfC w p L1), some (.lt (pre.map natT))]⟩ ∧
    (∀ ks L' y, Trl w p L1 x1 ks L' y → Trl w p L x (pre ++ ks) L' y) ∧ pre.length + totL w p L1 = totL w p L ∧ n = totL w p L1, ⟨_, [], L, x, none, rfl, fun _ _ _ h => h, by simp, rfl⟩, ?_⟩
  rintro n g' ⟨pre, L1, x1, o6, rfl, hk, hlen, rfl⟩
  cases e : fromL w p L1 x1 with
  | nil =>
    walk_at "dl"
    refine k_dF (by decide) ?_
    walk_at "dl"
    refine fin_one rfl ?_
    have := hQ pre L1 x1 (by have := hk [] L1 x1 (.stop e); rwa [List.append_nil] at this)
    exact this
  | cons k r =>
    obtain ⟨k1, k2, k3⟩ := fromL_head e
    have hkr : k ∈ w.rowsOf p := mem_rowsOf.mpr k1
    have hrow := row_at k1.1
    have htd := totL_dec k2 hkr
    have hat : atI ((natT k :: r.map natT)) 0 = some (natT k) := atI_nat (j := 0) rfl
    have hrl : (w.rowsOf p).length ≤ w.rows.length := by
      unfold Web.rowsOf
      exact Nat.le_trans (List.length_filter_le _ _) (by rw [List.length_range]; exact Nat.le_refl _)
    unfold natT at hat
    rw [List.map_cons]
    unfold natT
    walk_at "dl"
    refine k_dT (by omega) ?_
    walk_at "dl"
    refine i_daug ?_
    walk_at "dl"
    refine o_daug (ks := lfK w p) (F := lfF L1) rfl (mem_lfK.mpr hkr) (by unfold lfK; rw [List.length_map]; omega) ?_
    rw [lfC_dec k2]
    walk_at "dl"
    refine ⟨isL_lt rfl, ?_⟩
    walk_at "dl"
    refine i_append (us := pre.map natT) rfl (lineBig (by rw [List.length_map]; omega)) ?_
    walk_at "dl"
    refine i_fromR (p := p) (L := decL L1 k) (n := 0) hr rfl ?_
    walk_at "dl"
    refine ⟨totL w p (decL L1 k), by omega, pre ++ [k], decL L1 k, (w.row k).e, o6, ?_, fun ks L' y t => ?_, by rw [List.length_append, List.length_singleton]; omega, rfl⟩
    · rw [List.map_append]
      rfl
    · rw [List.append_assoc]
      exact hk (k :: ks) L' y (.go e t)
/-! own_runs walked -/
section
variable {w : Web} {p : Int}
theorem Runs1.snoc {L L1 L2 : Lft} {rs : List (List Nat)} {t : List Nat} {y : Int} (h : Runs1 w p L rs L1) (T : Trl w p L1 0 t L2 y) : Runs1 w p L (rs ++ [t]) L2 := by
  induction h with
  | nil => exact .cons T .nil
  | cons T0 n ih => exact .cons T0 (ih T)
theorem Runs2.snoc {L L1 L2 : Lft} {rs us : List (List Nat)} {t u : List Nat} (h : Runs2 w p L rs L1 us) (T : InsR w p L1 [] t L2 u) : Runs2 w p L (rs ++ [t]) L2 (us ++ [u]) := by
  induction h with
  | nil => exact .cons T .nil
  | cons T0 n ih => exact .cons T0 (ih T)
theorem Trl.tot {L L' : Lft} {x y : Int} {ks : List Nat} (h : Trl w p L x ks L' y) : totL w p L = totL w p L' + ks.length := by
  induction h with
  | stop _ => rfl
  | go h t ih =>
    obtain ⟨h1, h2, h3⟩ := fromL_head h
    rw [totL_dec h2 (mem_rowsOf.mpr h1), ih, List.length_cons]
    omega
theorem Runs1.tot {L L' : Lft} {rs : List (List Nat)} (h : Runs1 w p L rs L') : totL w p L = totL w p L' + (rs.map List.length).sum := by
  induction h with
  | nil => rfl
  | cons T n ih => rw [T.tot, ih, List.map_cons, List.sum_cons]; omega
theorem Trl.mem {L L' : Lft} {x y : Int} {ks : List Nat} (h : Trl w p L x ks L' y) : ∀ k ∈ ks, k ∈ w.rowsOf p := fun k hk => mem_rowsOf.mpr (chn_in h.chn k hk)
end
theorem sum_len1 {α : Type} {t : List α} : ∀ {rs : List (List α)} {k : Nat}, rs[k]? = some t → t.length ≤ (rs.map List.length).sum
  | [], k, h => by simp at h
  | r :: rs, 0, h => by
    cases h
    rw [List.map_cons, List.sum_cons]
    omega
  | r :: rs, k + 1, h => by
    have := sum_len1 (rs := rs) (k := k) (by simpa using h)
    rw [List.map_cons, List.sum_cons]
    omega
theorem InsR.totle {w : Web} {p : Int} {L L' : Lft} {a b c : List Nat} (h : InsR w p L a b L' c) : totL w p L' ≤ totL w p L := by
  induction h with
  | done => exact Nat.le_refl _
  | step T e n ih => have := T.tot; omega
theorem Runs2.totle {w : Web} {p : Int} {L L' : Lft} {rs us : List (List Nat)} (h : Runs2 w p L rs L' us) : totL w p L' ≤ totL w p L := by
  induction h with
  | nil => exact Nat.le_refl _
  | cons T n ih => have := T.totle; omega
theorem Runs1.mem {w : Web} {p : Int} {L L' : Lft} {rs : List (List Nat)} (h : Runs1 w p L rs L') : ∀ t ∈ rs, ∀ k ∈ t, k ∈ w.rowsOf p := by
  induction h with
  | nil => intro t h; cases h
  | cons T n ih =>
    intro t h
    rcases List.mem_cons.mp h with z | z
    · rw [z]; exact T.mem
    · exact ih t z
theorem lfC_new {w : Web} {p : Int} {xs : List Int} (hp : ∀ k, 0 ≤ xs.getD k 0) : dI ((w.rowsOf p).map fun k : Nat => (k : Int)) (fun z => xs.getD z.toNat 0) = lfC w p (nN xs) := by
  unfold lfC lfK dI
  congr 1
  refine List.map_congr_left fun x hx => ?_
  obtain ⟨j, hj, rfl⟩ := List.mem_map.mp hx
  congr 1
  unfold lfF nN
  have := hp (j : Int).toNat
  dsimp only
  omega
def TotX (w : Web) (xs : List Int) : Prop := ∀ p : Int, totL w p (nN xs) ≤ 1000000
def urT (u : List Nat) : T := .lst (u.map natT)
theorem at_set2 {α : Type} {xs ys : List α} {x y : α} : (xs ++ x :: ys).set xs.length y = xs ++ y :: ys := by
  induction xs with
  | nil => rfl
  | cons a xs ih => rw [List.cons_append, List.length_cons, List.set_cons_succ, ih]; rfl
theorem cut_lo2 {α : Type} (xs : List α) (k : Nat) (h : k ≤ xs.length) : DL.cut xs (some (k : Int)) none = xs.drop k := by
  unfold DL.cut
  rw [HT.sIx_none, HT.sIx_nat, Nat.min_eq_left h]
  exact List.take_of_length_le (by rw [List.length_drop]; exact Nat.le_refl _)
def C_own_runs : PC := fun ts Q => ∃ (w : Web) (p : Nat) (xs : List Int), ts = [w.t, .int p, .lst (xs.map T.int)] ∧ w.Ok ∧ p < w.places.length ∧ xs.length = w.rows.length + w.places.length ∧ (∀ k, 0 ≤ xs.getD k 0) ∧ Bx xs ∧ TotX w xs ∧ ∀ us, OwnR w p (nN xs) (nN xs (w.rows.length + p)) us → Q (.f (.lt (us.map urT)))
theorem ln_own_runs : ∀ ts Q, C_own_runs ts Q → ts.length = ["a", "b", "c"].length := by rintro ts Q ⟨_, _, _, rfl, _⟩; rfl
def rd_own_runs : DSt :=
  dSeq (dAsg (dNewD) (dgN 3))
  (dSeq (dFor (diL (dCallT C_rows_of (dCons (dVar 0) (dCons (dVar 1) (dNil))))) (dgN 4) (dDput (dVar 3) (dVar 4) (d2 fIx (dVar 2) (dVar 4))))
  (dSeq (dAsg (dLstH (dNil)) (dgN 5))
  (dSeq (dFor (diR1 (dCons (d2 fIx (dVar 2) (d2 fAdd (dN fLen (dCons (d2 fIx (dVar 0) (dC (.int 1))) (dNil))) (dVar 1))) (dNil))) (dgN 6) (dDrop (dM fAppend (dVar 5) (dCons (dCallS C_round_from (dCons (dVar 0) (dCons (dC (.int 0)) (dCons (dVar 3) (dNil))))) (dNil)))))
  (dSeq (dFor (diR1 (dCons (dN fLen (dCons (dVar 5) (dNil))) (dNil))) (dgN 6) (dSeq (dAsg (dC (.int 0)) (dgN 7))
  (dWhile (dB (d2 (fI0 fun i j => .bl (decide (i < j))) (dVar 7) (dN fLen (dCons (d2 fIx (dVar 5) (dVar 6)) (dNil))))) (dSeq (dAsg (d2 fIx (dVar 5) (dVar 6)) (dgN 8))
  (dSeq (dAsg (d2 fAdd (d2 fAdd (dSl (dVar 8) (dNoPart) (dPart (dVar 7))) (dCallS C_round_from (dCons (dVar 0) (dCons (d2 fIx (d2 fIx (d2 fIx (dVar 0) (dC (.int 1))) (d2 fIx (dVar 8) (dVar 7))) (dC (.int 1))) (dCons (dVar 3) (dNil)))))) (dSl (dVar 8) (dPart (dVar 7)) (dNoPart))) (dgSub (dVar 5) (dVar 6)))
  (dAug 7 (fun i j => i + j) (dC (.int 1))))))))
  (dRet (dVar 5))))))

theorem rp_own_runs : ∀ ts Q, C_own_runs ts Q → rd_own_runs ⟨FinP Q (.t .non), FinP Q, fun _ => False, fun _ => False⟩ ⟨ts.map (fun t => some (W.t t)) ++ List.replicate (9 - ts.length) none, []⟩ := by
  rintro ts Q ⟨w, p, xs, rfl, hok, hpl, hxl, hpos, hb, htx, hQ⟩
  have hok1 := hok.1
  have hrl : (w.rowsOf p).length ≤ w.rows.length := by
    unfold Web.rowsOf
    exact Nat.le_trans (List.length_filter_le _ _) (by rw [List.length_range]; exact Nat.le_refl _)
  have htp := htx p
  unfold rd_own_runs
  walk_at "dl"
  refine ⟨w, p, rfl, by omega, ?_⟩
  walk_at "dl"
  refine forG (w.rowsOf p) (fun k => W.t (natT k)) (fun pre g' => ∃ o4 : Option W, g' = ⟨[some (.t w.t), some (.t (.int p)), some (.t (.lst (xs.map T.int))), some (.h 0), o4, none, none, none, none], [some (dI (pre.map fun k : Nat => (k : Int)) (fun z => xs.getD z.toNat 0))]⟩)
    (by rw [List.map_map]; rfl) ⟨_, rfl⟩ (fun _ _ _ => by trivial) ?_ ?_
  · rintro pre k post hsp g' ⟨o4, rfl⟩ N hN
    have hk := (mem_rowsOf.mp (by rw [hsp]; simp : k ∈ w.rowsOf p)).1
    have h2 := int_at (xs := xs) (j := k) (by omega)
    have hnd := rowsOf_nd w p
    rw [hsp] at hnd
    have hnp : (k : Int) ∉ pre.map fun k : Nat => (k : Int) := fun z => by
      obtain ⟨j, hj, e⟩ := List.mem_map.mp z
      have : j = k := by omega
      subst this
      exact (List.nodup_append.mp hnd).2.2 j hj j (by simp) rfl
    have hpl2 : pre.length ≤ 60 := by
      have := congrArg List.length hsp
      rw [List.length_append, List.length_cons] at this
      omega
    unfold natT
    walk_at "dl"
    refine o_dput (k := Sum.inl (k : Int)) rfl rfl (by rw [List.length_map, List.length_map]; exact lineLt (by omega)) ?_
    walk_at "dn"
    rw [putKs_new hnp, putXs_new hnp]
    have eF : updI (fun z => xs.getD z.toNat 0) (k : Int) (xs.getD k 0) = fun z => xs.getD z.toNat 0 := by
      funext z
      unfold updI
      by_cases e : z = (k : Int)
      · rw [if_pos e, e, Int.toNat_natCast]
      · rw [if_neg e]
    rw [eF]
    refine hN _ ⟨some (.t (.int (k : Nat))), ?_⟩
    have e3 : (pre ++ [k]).map (fun k : Nat => (k : Int)) = pre.map (fun k : Nat => (k : Int)) ++ [(k : Int)] := by rw [List.map_append]; rfl
    rw [e3]
    rfl
  · rintro g' ⟨o4, rfl⟩
    rw [lfC_new hpos]
    have h1 := int_at (xs := xs) (j := w.rows.length + p) (by omega)
    have h1b := hb (w.rows.length + p)
    have h1c := hpos (w.rows.length + p)
    have h1d : ((nN xs (w.rows.length + p) : Nat) : Int) = xs.getD (w.rows.length + p) 0 := by unfold nN; omega
    rw [Int.natCast_add, ← h1d] at h1
    rw [← h1d] at h1b
    generalize hB : nN xs (w.rows.length + p) = B at h1 h1b hQ
    walk_at "dl"
    refine ⟨by decide, ?_⟩
    unfold Web.t
    walk_at "dl"
    rw [List.length_map]
    walk_at "dl"
    refine ⟨by omega, ?_⟩
    refine forG (List.range B) (fun k => W.t (natT k)) (fun pre g' => ∃ (L1 : Lft) (rs : List (List Nat)) (o6 : Option W), g' = ⟨[some (.t w.t), some (.t (.int p)), some (.t (.lst (xs.map T.int))), some (.h 0), o4, some (.h 1), o6, none, none], [some (lfC w p L1), some (.lt (rs.map urT))]⟩ ∧ Runs1 w p (nN xs) rs L1 ∧ rs.length = pre.length)
      (by rw [Int.toNat_natCast, rgW0]; rfl) ⟨_, [], _, rfl, .nil, rfl⟩ (fun _ _ _ => by trivial) ?_ ?_
    · rintro pre k post hsp g' ⟨L1, rs, o6, rfl, hR, hrsl⟩ N hN
      have hpl2 : pre.length ≤ 15000 := by
        have := congrArg List.length hsp
        rw [List.length_append, List.length_cons, List.length_range] at this
        omega
      have htot := hR.tot
      unfold natT
      walk_at "dl"
      refine ⟨isL_lt rfl, ?_⟩
      walk_at "dl"
      refine callS_round (n := 0) rfl (by omega) (by omega) fun t L2 y T => ?_
      walk_at "dl"
      refine i_append (us := rs.map urT) rfl (lineBig (by rw [List.length_map]; omega)) ?_
      refine hN _ ⟨L2, rs ++ [t], some (.t (.int (k : Nat))), ?_, hR.snoc T, by rw [List.length_append, List.length_append, hrsl]; rfl⟩
      rw [List.map_append]
      rfl
    · rintro g' ⟨L1, rs, o6, rfl, hR, hrsl⟩
      rw [List.length_range] at hrsl
      have htot := hR.tot
      walk_at "dl"
      rw [List.length_map]
      refine ⟨by omega, ?_⟩
      refine forG (List.range rs.length) (fun k => W.t (natT k)) (fun pre g' => ∃ (L2 : Lft) (us : List (List Nat)) (o6 o7 o8 : Option W), g' = ⟨[some (.t w.t), some (.t (.int p)), some (.t (.lst (xs.map T.int))), some (.h 0), o4, some (.h 1), o6, o7, o8], [some (lfC w p L2), some (.lt ((us ++ rs.drop pre.length).map urT))]⟩ ∧ Runs2 w p L1 (rs.take pre.length) L2 us ∧ us.length = pre.length)
        (by rw [Int.toNat_natCast, rgW0]; rfl) ⟨L1, [], _, _, _, rfl, .nil, rfl⟩ (fun _ _ _ => by trivial) ?_ ?_
      · rintro pre k post hsp g' ⟨L2, us, o6, o7, o8, rfl, hR2, husl⟩ N hN
        have hki : k = pre.length := by
          have := congrArg (fun l => l[pre.length]?) hsp
          simp only [List.getElem?_append_right (Nat.le_refl _), Nat.sub_self, List.getElem?_cons_zero] at this
          obtain ⟨h, e⟩ := List.getElem?_eq_some_iff.mp this
          rw [List.getElem_range] at e
          exact e.symm
        have hkl : k < rs.length := List.mem_range.mp (by rw [hsp]; simp)
        obtain ⟨t, ht⟩ : ∃ t, rs[k]? = some t := ⟨_, List.getElem?_eq_getElem hkl⟩
        have hdr : rs.drop k = t :: rs.drop (k + 1) := by
          rw [List.drop_eq_getElem_cons hkl]
          congr 1
          exact Option.some.inj ((List.getElem?_eq_getElem hkl).symm.trans ht)
        have htk : rs.take (k + 1) = rs.take k ++ [t] := by rw [List.take_add_one, ht]; rfl
        rw [← hki] at hR2 husl ⊢
        rw [hdr]
        have htl : t.length ≤ (rs.map List.length).sum := sum_len1 ht
        have h2t := hR2.totle
        have hb0 : t.length + totL w p L2 ≤ 1000000 := by omega
        have htr : ∀ j ∈ t, j ∈ w.rowsOf p := hR.mem t (List.mem_of_getElem? ht)
        generalize hrs : rs.drop (k + 1) = rs' at hdr
        unfold natT
        walk_at "dl"
        refine ⟨fun n g' => ∃ (prel rest : List Nat) (L3 : Lft) (o8 : Option W), g' = ⟨[some (.t w.t), some (.t (.int p)), some (.t (.lst (xs.map T.int))), some (.h 0), o4, some (.h 1), some (.t (.int (k : Nat))), some (.t (.int (prel.length : Nat))), o8], [some (lfC w p L3), some (.lt ((us ++ (prel ++ rest) :: rs').map urT))]⟩ ∧
          (∀ L' fin, InsR w p L3 prel rest L' fin → InsR w p L2 [] t L' fin) ∧ prel.length + rest.length + totL w p L3 ≤ 1000000 ∧ (∀ j ∈ rest, j ∈ w.rowsOf p) ∧ n = rest.length + totL w p L3, ⟨_, [], t, L2, _, rfl, fun _ _ h => h, by simpa using hb0, htr, rfl⟩, ?_⟩
        rintro n g' ⟨prel, rest, L3, q8, rfl, hI, hbd, hrest, rfl⟩
        have hat : atI ((us ++ (prel ++ rest) :: rs').map urT) (k : Int) = some (urT (prel ++ rest)) := by
          refine atI_map urT ?_
          rw [← husl]
          refine atI_nat ?_
          rw [List.getElem?_append_right (Nat.le_refl _), Nat.sub_self]
          rfl
        have hul : us.length < (us ++ (prel ++ rest) :: rs').length := by rw [List.length_append, List.length_cons]; omega
        cases rest with
        | nil =>
          unfold urT at hat
          walk_at "dl"
          rw [List.length_map, List.append_nil]
          refine k_dF (by omega) ?_
          walk_at "dl"
          refine hN _ ⟨L3, us ++ [prel], some (.t (.int (k : Nat))), some (.t (.int (prel.length : Nat))), q8, ?_, ?_, ?_⟩
          · rw [List.length_append, List.length_singleton, ← hki, hrs, List.append_assoc]
            rfl
          · rw [List.length_append, List.length_singleton, ← hki, htk]
            exact hR2.snoc (hI L3 prel .done)
          · rw [List.length_append, List.length_append, husl, hki]
            rfl
        | cons j rest0 =>
          unfold urT at hat
          have hjr := hrest j (by simp)
          have hj := (mem_rowsOf.mp hjr).1
          have hrow := row_at hj
          have hat2 : atI ((prel ++ j :: rest0).map natT) (prel.length : Int) = some (.int (j : Nat)) := by
            refine atI_map natT (x := j) ?_
            refine atI_nat ?_
            rw [List.getElem?_append_right (Nat.le_refl _), Nat.sub_self]
            rfl
          have hl2 : (prel ++ j :: rest0).length = prel.length + (rest0.length + 1) := by rw [List.length_append, List.length_cons]
          rw [List.length_cons] at hbd
          walk_at "dl"
          rw [List.length_map, hl2]
          refine k_dT (by omega) ?_
          walk_at "dl"
          have e1 : ((prel ++ j :: rest0).map natT).take prel.length = prel.map natT := by rw [List.map_append]; exact List.take_left' (by rw [List.length_map])
          have e2 : ((prel ++ j :: rest0).map natT).drop prel.length = (j :: rest0).map natT := by rw [List.map_append]; exact List.drop_left' (by rw [List.length_map])
          refine o_cut rfl ?_
          rw [cut_hi2, e1]
          walk_at "dl"
          refine callS_round (n := 0) rfl (by omega) (by omega) fun t2 L4 y TR => ?_
          have hT := TR.tot
          walk_at "dl"
          refine i_addL (xs := prel.map natT) (ys := t2.map natT) rfl rfl (Nat.le_of_lt (lineBig (by rw [List.length_map, List.length_map]; omega))) ?_
          walk_at "dl"
          refine o_cut rfl ?_
          rw [cut_lo2 _ _ (by rw [List.length_map, hl2]; omega), e2]
          refine i_addL (xs := prel.map natT ++ t2.map natT) (ys := (j :: rest0).map natT) rfl rfl (Nat.le_of_lt (lineBig (by rw [List.length_append, List.length_map, List.length_map, List.length_map, List.length_cons]; omega))) ?_
          walk_at "dl"
          have eset : ((us ++ (prel ++ j :: rest0) :: rs').map urT).set k (T.lst (prel.map natT ++ t2.map natT ++ (j :: rest0).map natT)) = (us ++ (prel ++ (t2 ++ j :: rest0)) :: rs').map urT := by
            have e3 : urT (prel ++ (t2 ++ j :: rest0)) = T.lst (prel.map natT ++ t2.map natT ++ (j :: rest0).map natT) := by
              unfold urT
              rw [List.map_append, List.map_append, List.append_assoc]
            rw [← e3, List.map_append, List.map_cons, List.map_append, List.map_cons, ← husl, show us.length = (us.map urT).length by rw [List.length_map], at_set2]
          refine o_put (us := (us ++ (prel ++ j :: rest0) :: rs').map urT) rfl (ixN_nat (by rw [List.length_map]; omega)) ?_
          have eset' := eset
          rw [List.map_cons] at eset'
          simp only [G.put]
          rw [eset']
          obtain ⟨hh, rest', er⟩ : ∃ hh rest', t2 ++ j :: rest0 = hh :: rest' := by
            cases t2 with
            | nil => exact ⟨_, _, rfl⟩
            | cons a t2 => exact ⟨_, _, rfl⟩
          have erl := congrArg List.length er
          rw [List.length_append, List.length_cons, List.length_cons] at erl
          walk_at "dl"
          refine ⟨rest'.length + totL w p L4, by omega, prel ++ [hh], rest', L4, some (.t (.lst ((prel ++ j :: rest0).map natT))), ?_, fun L' fin n => hI L' fin (.step TR er n), by rw [List.length_append, List.length_singleton]; omega, fun i hi => ?_, rfl⟩
          · rw [List.length_append, List.length_singleton, List.append_assoc, List.singleton_append, ← er]
            rfl
          · have : i ∈ t2 ++ j :: rest0 := by rw [er]; simp [hi]
            rcases List.mem_append.mp this with z | z
            · exact TR.mem i z
            · exact hrest i z
      · rintro g' ⟨L2, us, o6, o7, o8, rfl, hR2, husl⟩
        rw [List.length_range] at hR2 husl ⊢
        rw [List.drop_length, List.append_nil]
        rw [List.take_length] at hR2
        walk_at "dl"
        exact hQ us ⟨L1, L2, rs, hR, hrsl, hR2⟩
/-! called_in, made_heap walked -/
theorem lineHuge {n : Nat} (h : n ≤ 16000000) : n < sizeLine := Nat.lt_of_le_of_lt h (by rw [sizeLine_eq]; decide)
theorem i_getW {g : G} {Q : W → G → Prop} {n : Nat} {y : T} {k : L2.Key} {ks : List L2.Key} {us : List W} {r : W} (ek : keyT y = some k) (e : g.mem[n]? = some (some (.dw ks us))) (hv : look ks us k = some r) (h : Q r g) : fGet g (.h n) (.t y) Q := by
  have e1 : g.dct? (.h n) = none := by unfold G.dct? G.cell?; dsimp only; rw [e]
  have e2 : g.dcw? (.h n) = some (ks, us) := by unfold G.dcw? G.cell?; dsimp only; rw [e]
  unfold fGet
  dsimp only
  rw [ek]
  dsimp only
  rw [e1]
  dsimp only
  rw [e2]
  dsimp only
  rw [hv]
  exact h
theorem map_set2 {α : Type} {xs : List α} {i : Nat} {c : α} : (xs.map some).set i (some c) = (xs.set i c).map some := by rw [List.map_set]
theorem map_at {α : Type} {xs : List α} {i : Nat} {c : α} (h : xs[i]? = some c) : (xs.map some)[i]? = some (some c) := by rw [List.getElem?_map, h]; rfl
def totLn (n : Nat) (Ws : Wt) : Nat := ((List.range n).map fun c => ((Ws c).map List.length).sum).sum
theorem totLn_pop {n : Nat} {Ws : Wt} {c : Nat} {ini : List (List Int)} {sub : List Int} (hc : c < n) (e : Ws c = ini ++ [sub]) : totLn n Ws = totLn n (updW Ws c ini) + sub.length := by
  unfold totLn
  refine sum_updN (k := c) (fun i hi => ?_) ?_ List.nodup_range (List.mem_range.mpr hc)
  · unfold updW
    rw [if_neg hi]
  · unfold updW
    rw [if_pos rfl, e, List.map_append, List.sum_append]
    simp
theorem totLn_put {n : Nat} {Ws : Wt} {q : Nat} {rs : List (List Int)} (hq : q < n) (e : Ws q = []) : totLn n (updW Ws q rs) = totLn n Ws + (rs.map List.length).sum := by
  unfold totLn
  refine sum_updN (k := q) (fun i hi => ?_) ?_ List.nodup_range (List.mem_range.mpr hq)
  · unfold updW
    rw [if_neg hi]
  · unfold updW
    rw [if_pos rfl, e]
    simp
theorem look_map {α : Type} {b : Int} {F : Int → α} : ∀ ks : List Int, look (ks.map Sum.inl : List L2.Key) (ks.map F) (Sum.inl b) = if b ∈ ks then some (F b) else none
  | [] => rfl
  | k :: ks => by
    rw [List.map_cons, List.map_cons]
    unfold look
    by_cases e : k = b
    · subst e
      rw [if_pos rfl, if_pos (by simp)]
    · rw [if_neg (fun z => e (by injection z)), look_map ks]
      by_cases h : b ∈ ks
      · rw [if_pos h, if_pos (List.mem_cons_of_mem _ h)]
      · rw [if_neg h, if_neg (fun z => by rcases List.mem_cons.mp z with z | z; exact e z.symm; exact h z)]
structure WtM (M : List Cell) (d q n : Nat) (l : Nat → Nat) (Ws : Wt) : Prop where
  dic : ∃ ks : List Nat, M[d]? = some (.dw ((ks.map fun k : Nat => (k : Int)).map Sum.inl) ((ks.map fun k : Nat => (k : Int)).map fun z => W.h (l z.toNat))) ∧ ks.length + q ≤ n ∧ ∀ c, c ∈ ks ↔ q ≤ c ∧ c < n
  inj : ∀ c c', q ≤ c → c < n → q ≤ c' → c' < n → l c = l c' → c = c'
  ls : ∀ c, q ≤ c → c < n → ∃ hs : List Nat, M[l c]? = some (.lw (hs.map W.h)) ∧ HL (M.map some) hs (Ws c)
theorem WtM.dict {M : List Cell} {d q n : Nat} {l : Nat → Nat} {Ws : Wt} (h : WtM M d q n l Ws) : ∃ (ks : List L2.Key) (us : List W), M[d]? = some (.dw ks us) ∧ ks.length + q ≤ n ∧ ∀ c, q ≤ c → c < n → look ks us (Sum.inl (c : Int)) = some (.h (l c)) := by
  obtain ⟨ks, h1, h2, h3⟩ := h.dic
  refine ⟨_, _, h1, by rw [List.length_map, List.length_map]; exact h2, fun c c1 c2 => ?_⟩
  rw [look_map, if_pos (List.mem_map.mpr ⟨c, (h3 c).mpr ⟨c1, c2⟩, rfl⟩), Int.toNat_natCast]
theorem HL.setO {mem : Sto} {hs : List Nat} {rs : List (List Int)} {i : Nat} {c : Cell} {us : List W} (h : HL mem hs rs) (e : mem[i]? = some (some (.lw us))) : HL (mem.set i (some c)) hs rs := ⟨h.nd, h.len, fun j k ek => by
  obtain ⟨r, e1, e2⟩ := h.val j k ek
  refine ⟨r, e1, ?_⟩
  rw [List.getElem?_set_ne (fun z => by subst z; rw [e] at e2; cases e2)]
  exact e2⟩
theorem HL.pop {mem : Sto} {hs : List Nat} {ini : List (List Int)} {sub : List Int} (h : HL mem hs (ini ++ [sub])) : ∃ (hi : List Nat) (x : Nat), hs = hi ++ [x] ∧ HL mem hi ini ∧ mem[x]? = some (some (Cell.lt (sub.map T.int))) := by
  have hl := h.len
  rw [List.length_append, List.length_singleton] at hl
  rcases List.eq_nil_or_concat hs with e | ⟨hi, x, e⟩
  · rw [e] at hl; simp at hl
  · rw [List.concat_eq_append] at e
    subst e
    rw [List.length_append, List.length_singleton] at hl
    refine ⟨hi, x, rfl, ⟨(List.nodup_append.mp h.nd).1, by omega, fun i k ek => ?_⟩, ?_⟩
    · have hil := (List.getElem?_eq_some_iff.mp ek).1
      obtain ⟨r, e1, e2⟩ := h.val i k (by rw [List.getElem?_append_left hil]; exact ek)
      rw [List.getElem?_append_left (by omega)] at e1
      exact ⟨r, e1, e2⟩
    · obtain ⟨r, e1, e2⟩ := h.val hi.length x (by rw [List.getElem?_append_right (Nat.le_refl _), Nat.sub_self]; rfl)
      rw [List.getElem?_append_right (by omega), show hi.length - ini.length = 0 by omega] at e1
      cases e1
      exact e2
theorem upOk_lw {n : Nat} {hs : List Nat} (h : ∀ j ∈ hs, j < n) : UpOk n (.lw (hs.map W.h)) := by
  unfold UpOk Cell.up
  dsimp only
  rw [ups_hs h]
theorem upOk_lt {n : Nat} {ts : List T} : UpOk n (.lt ts) := rfl
theorem WtM.pop {M : List Cell} {d q n : Nat} {l : Nat → Nat} {Ws : Wt} (h : WtM M d q n l Ws) {c : Nat} (c1 : q ≤ c) (c2 : c < n) {ini : List (List Int)} {sub : List Int} (e : Ws c = ini ++ [sub]) :
    ∃ (hi : List Nat) (x : Nat), M[l c]? = some (.lw ((hi ++ [x]).map W.h)) ∧ M[x]? = some (.lt (sub.map T.int)) ∧ x ≠ l c ∧ (∀ j ∈ hi, j < M.length) ∧ WtM (M.set (l c) (.lw (hi.map W.h))) d q n l (updW Ws c ini) := by
  obtain ⟨hs, h1, h2⟩ := h.ls c c1 c2
  rw [e] at h2
  obtain ⟨hi, x, rfl, h3, h4⟩ := h2.pop
  have h4' : M[x]? = some (.lt (sub.map T.int)) := by
    rw [List.getElem?_map] at h4
    cases ex : M[x]? with
    | none => rw [ex] at h4; cases h4
    | some y => rw [ex] at h4; cases h4; rfl
  have hcl := (List.getElem?_eq_some_iff.mp h1).1
  refine ⟨hi, x, h1, h4', (fun z => by rw [z, h1] at h4'; cases h4'), (fun j hj => by have := h3.lt j hj; rwa [List.length_map] at this), ?_, h.inj, fun c' a1 a2 => ?_⟩
  · obtain ⟨ks, g1, g2, g3⟩ := h.dic
    refine ⟨ks, ?_, g2, g3⟩
    rw [List.getElem?_set_ne (fun z => by rw [z, g1] at h1; cases h1)]
    exact g1
  · have emap : ((M.set (l c) (.lw (hi.map W.h))).map some) = (M.map some).set (l c) (some (.lw (hi.map W.h))) := map_set2.symm
    rw [emap]
    unfold updW
    by_cases hc : c' = c
    · subst hc
      rw [if_pos rfl]
      exact ⟨hi, List.getElem?_set_self hcl, h3.setO (map_at h1)⟩
    · rw [if_neg hc]
      obtain ⟨hs', b1, b2⟩ := h.ls c' a1 a2
      refine ⟨hs', ?_, b2.setO (map_at h1)⟩
      rw [List.getElem?_set_ne (fun z => hc (h.inj c' c a1 a2 c1 c2 z.symm))]
      exact b1
def CallsOk (w : Web) (q : Nat) (k : Nat) : Prop := k < w.rows.length ∧ ((w.row k).c < 0 ∨ ∃ c : Nat, (w.row k).c = (c : Nat) ∧ q ≤ c ∧ c < w.places.length)
def C_called_in : SC := fun ws m QC => ∃ (w : Web) (u : List Nat) (d q : Nat) (l : Nat → Nat) (Ws : Wt), ws = [.t w.t, .t (urT u), .h d] ∧ UpAll m ∧ WtM m d q w.places.length l Ws ∧ (∀ k ∈ u, CallsOk w q k) ∧ (∀ c, callsTo w c u ≤ (Ws c).length) ∧ u.length + totLn w.places.length Ws ≤ 8000000 ∧
  ∀ (out : List Int) (Ws' : Wt) (m1 : List Cell), Cin w Ws u out Ws' → m1.length = m.length → UpAll m1 → WtM m1 d q w.places.length l Ws' → (∀ i, (∀ c, q ≤ c → c < w.places.length → i ≠ l c) → m1[i]? = m[i]?) → QC (.h m.length) m1 [.lt (out.map T.int)]
theorem ln_called_in : ∀ ws m Q, C_called_in ws m Q → ws.length = ["a", "b", "c"].length := by rintro ws m Q ⟨_, _, _, _, _, _, rfl, _⟩; rfl
def rd_called_in : DSt :=
  dSeq (dAsg (dLstH (dNil)) (dgN 3))
  (dSeq (dFor (diL (dVar 1)) (dgN 4) (dSeq (dDrop (dM fAppend (dVar 3) (dCons (dVar 4) (dNil))))
  (dIfS (dB (d2 (fI0 fun i j => .bl (decide (j ≤ i))) (d2 fIx (d2 fIx (d2 fIx (dVar 0) (dC (.int 1))) (dVar 4)) (dC (.int 3))) (dC (.int 0)))) (dAsg (d2 fAddH (dVar 3) (dM0 fPop (d2 fGet (dVar 2) (d2 fIx (d2 fIx (d2 fIx (dVar 0) (dC (.int 1))) (dVar 4)) (dC (.int 3)))))) (dgN 3)) (dNext))))
  (dRet (dVar 3)))

theorem rp_called_in : ∀ ws m QC, C_called_in ws m QC → rd_called_in ⟨FinS m.length QC (.t .non), FinS m.length QC, fun _ => False, fun _ => False⟩ ⟨ws.map some ++ List.replicate (5 - ws.length) none, m.map some⟩ := by
  rintro ws m QC ⟨w, u, d, q, l, Ws, rfl, hup, hwt, hcalls, hroom, hlen, hQ⟩
  have hdl : d < m.length := by
    obtain ⟨ks, us, g1, _, _⟩ := hwt.dict
    exact (List.getElem?_eq_some_iff.mp g1).1
  unfold rd_called_in urT
  walk_at "dl"
  refine ⟨by decide, ?_⟩
  walk_at "dl"
  refine forG u (fun k => W.t (natT k)) (fun pre g' => ∃ (m1 ex : List Cell) (nn : Nat) (acc : List Int) (Ws1 : Wt) (o4 : Option W), g' = ⟨[some (.t w.t), some (.t (.lst (u.map natT))), some (.h d), some (.h nn), o4], (m1 ++ ex).map some⟩ ∧ m1.length = m.length ∧ (m1 ++ ex)[nn]? = some (.lt (acc.map T.int)) ∧ m.length ≤ nn ∧
      (∀ suf out' Ws', Cin w Ws1 suf out' Ws' → Cin w Ws (pre ++ suf) (acc ++ out') Ws') ∧ UpAll m1 ∧ WtM m1 d q w.places.length l Ws1 ∧ (∀ i, (∀ c, q ≤ c → c < w.places.length → i ≠ l c) → m1[i]? = m[i]?) ∧ (∀ c, callsTo w c (u.drop pre.length) ≤ (Ws1 c).length) ∧ acc.length + (u.drop pre.length).length + totLn w.places.length Ws1 ≤ 8000000)
    (by rw [List.map_map]; rfl) ⟨m, [.lt []], m.length, [], Ws, _, by rw [List.map_append, List.length_map]; rfl, rfl, at_last, Nat.le_refl _, fun _ _ _ h => h, hup, hwt, fun _ _ => rfl, hroom, by simpa using hlen⟩ (fun _ _ _ => by trivial) ?_ ?_
  · rintro pre k post hsp g' ⟨m1, ex, nn, acc, Ws1, o4, rfl, hm1, enn, hnn, hC, hup1, hw1, hst, hr1, hl1⟩ N hN
    have hdr : u.drop pre.length = k :: post := by rw [hsp, List.drop_left']; rfl
    have hdr2 : u.drop (pre ++ [k]).length = post := by
      rw [hsp, show pre ++ k :: post = (pre ++ [k]) ++ post by simp]
      exact List.drop_left' rfl
    rw [hdr] at hr1 hl1
    rw [List.length_cons] at hl1
    obtain ⟨hk, hkc⟩ := hcalls k (by rw [hsp]; simp)
    have hrow := row_at hk
    have hnl := (List.getElem?_eq_some_iff.mp enn).1
    have enn' := map_at enn
    unfold natT Row.t at *
    walk_at "dl"
    refine ⟨isL_lt enn', ?_⟩
    walk_at "dl"
    refine i_append (us := acc.map T.int) enn' (lineHuge (by rw [List.length_map]; omega)) ?_
    simp only [G.put]
    rw [map_set2]
    have eset : (m1 ++ ex).set nn (.lt (acc.map T.int ++ [T.int (k : Nat)])) = m1 ++ ex.set (nn - m1.length) (.lt ((acc ++ [(k : Int)]).map T.int)) := by
      rw [List.set_append, if_neg (by omega), List.map_append]
      rfl
    rw [eset]
    have enn2 : (m1 ++ ex.set (nn - m1.length) (.lt ((acc ++ [(k : Int)]).map T.int)))[nn]? = some (.lt ((acc ++ [(k : Int)]).map T.int)) := by
      rw [List.length_append] at hnl
      rw [List.getElem?_append_right (by omega), List.getElem?_set_self (by omega)]
    generalize ex.set (nn - m1.length) (.lt ((acc ++ [(k : Int)]).map T.int)) = ex2 at enn2
    walk_at "dl"
    rcases hkc with hc | ⟨c, hc, c1, c2⟩
    · refine k_dF (by omega) ?_
      walk_at "dl"
      refine hN _ ⟨m1, ex2, nn, acc ++ [(k : Int)], Ws1, _, rfl, hm1, enn2, hnn, fun suf out' Ws' t => ?_, hup1, hw1, hst, fun c => ?_, ?_⟩
      · rw [List.append_assoc, List.append_assoc]
        exact hC (k :: suf) ((k : Int) :: out') Ws' (.plain hc t)
      · rw [hdr2]
        have := hr1 c
        rw [callsTo_cons, if_neg (by omega)] at this
        omega
      · rw [hdr2, List.length_append, List.length_singleton]
        omega
    · refine k_dT (by omega) ?_
      have hne := hr1 c
      rw [callsTo_cons, if_pos hc] at hne
      obtain ⟨ini, sub, eW⟩ : ∃ ini sub, Ws1 c = ini ++ [sub] := by
        rcases List.eq_nil_or_concat (Ws1 c) with e | ⟨ini, sub, e⟩
        · rw [e] at hne; simp at hne
        · exact ⟨ini, sub, by rw [e, List.concat_eq_append]⟩
      obtain ⟨hi, x, x1, x2, x3, x4, x5⟩ := hw1.pop c1 c2 eW
      obtain ⟨ks, us, g1, g2, g3⟩ := hw1.dict
      have ht := totLn_pop c2 eW
      have hll := (List.getElem?_eq_some_iff.mp x1).1
      have hxl := (List.getElem?_eq_some_iff.mp x2).1
      have hlup : UpAll (m1.set (l c) (.lw (hi.map W.h))) := fun y hy => by
        rw [List.length_set]
        rcases List.mem_or_eq_of_mem_set hy with z | z
        · exact hup1 y z
        · rw [z]
          exact upOk_lw x4
      rw [hc] at hrow
      walk_at "dl"
      refine i_getW (k := Sum.inl (c : Int)) rfl (map_at (by rw [List.getElem?_append_left (by omega)]; exact g1)) (g3 c c1 c2) ?_
      walk_at "dl"
      have x1' : (m1 ++ ex2)[l c]? = some (.lw ((hi ++ [x]).map W.h)) := by rw [List.getElem?_append_left hll]; exact x1
      refine ⟨isL_lw (map_at x1'), ?_⟩
      refine i_popW (us := (hi ++ [x]).map W.h) (x := .h x) (map_at x1') (by
        rw [List.map_append, List.length_append]
        exact at_last) ?_
      simp only [G.put]
      rw [map_set2, List.set_append, if_pos hll, show ((hi ++ [x]).map W.h).dropLast = hi.map W.h by rw [List.map_append]; exact List.dropLast_concat]
      generalize hm2 : m1.set (l c) (.lw (hi.map W.h)) = m2 at x5 hlup
      have hm2l : m2.length = m.length := by rw [← hm2, List.length_set, hm1]
      have x2' : (m2 ++ ex2)[x]? = some (.lt (sub.map T.int)) := by
        rw [List.getElem?_append_left (by omega), ← hm2, List.getElem?_set_ne (fun z => x3 z.symm)]
        exact x2
      have enn3 : (m2 ++ ex2)[nn]? = some (.lt ((acc ++ [(k : Int)]).map T.int)) := by
        rw [List.getElem?_append_right (by omega)] at enn2 ⊢
        rw [hm2l, ← hm1]
        exact enn2
      refine i_addHL (xs := (acc ++ [(k : Int)]).map T.int) (ys := sub.map T.int) (seqL_h (map_at enn3)) (seqL_h (map_at x2')) (Nat.le_of_lt (lineHuge (by rw [List.length_map, List.length_map, List.length_append, List.length_singleton]; omega))) ?_
      simp only [G.push]
      walk_at "dl"
      rw [List.length_map]
      refine hN _ ⟨m2, ex2 ++ [.lt ((acc ++ [(k : Int)] ++ sub).map T.int)], (m2 ++ ex2).length, acc ++ [(k : Int)] ++ sub, updW Ws1 c ini, some (.t (.int (k : Nat))), ?_, hm2l, ?_, by rw [List.length_append]; omega, fun suf out' Ws' t => ?_, hlup, x5, fun i hi2 => ?_, fun c' => ?_, ?_⟩
      · rw [← List.append_assoc, List.map_append (l₁ := m2 ++ ex2), List.map_append (l₁ := acc ++ [(k : Int)])]
        rfl
      · rw [← List.append_assoc]
        exact at_last
      · have := hC (k :: suf) ((k : Int) :: (sub ++ out')) Ws' (.call hc eW t)
        rw [List.append_assoc, List.append_assoc, List.append_assoc]
        exact this
      · rw [← hm2, List.getElem?_set_ne (fun z => hi2 c c1 c2 z.symm)]
        exact hst i hi2
      · rw [hdr2]
        have h3 := hr1 c'
        rw [callsTo_cons] at h3
        unfold updW
        by_cases hcc : c' = c
        · subst hcc
          rw [if_pos hc, eW, List.length_append, List.length_singleton] at h3
          rw [if_pos rfl]
          omega
        · rw [if_neg (by omega)] at h3
          rw [if_neg hcc]
          omega
      · rw [hdr2, List.length_append, List.length_append, List.length_singleton]
        omega
  · rintro g' ⟨m1, ex, nn, acc, Ws1, o4, rfl, hm1, enn, hnn, hC, hup1, hw1, hst, hr1, hl1⟩
    walk_at "dl"
    have hC' := hC [] [] Ws1 .nil
    rw [List.append_nil, List.append_nil] at hC'
    have hnl := (List.getElem?_eq_some_iff.mp enn).1
    have hq := hQ acc Ws1 m1 hC' hm1 hup1 hw1 hst
    rw [← hm1] at hq ⊢
    refine fin_s [nn] m1 [.lt (acc.map T.int)] (.h m1.length) ?_ (fun j hj => ?_) ?_ rfl rfl (fun i c' e => ?_) hq
    · refine List.nodup_append.mpr ⟨List.nodup_range, by simp, fun a ha b hb z => ?_⟩
      have h1 := List.mem_range.mp ha
      have h2 : b = nn := by simpa using hb
      omega
    · show j < ((m1 ++ ex).map some).length
      rw [List.length_map]
      rcases List.mem_append.mp hj with z | z
      · have := List.mem_range.mp z
        rw [List.length_append]
        omega
      · have : j = nn := by simpa using z
        omega
    · unfold W.up
      dsimp only
      have : (List.range m1.length ++ [nn])[m1.length]? = some nn := by
        rw [List.getElem?_append_right (by rw [List.length_range]; exact Nat.le_refl _), List.length_range, Nat.sub_self]
        rfl
      rw [this]
    · show ∃ j c, (List.range m1.length ++ [nn])[i]? = some j ∧ c'.up (List.range m1.length ++ [nn]) = some c ∧ ((m1 ++ ex).map some)[j]? = some (some c)
      by_cases hi : i < m1.length
      · rw [List.getElem?_append_left hi] at e
        refine ⟨i, c', by rw [List.getElem?_append_left (by rw [List.length_range]; exact hi)]; exact List.getElem?_range hi, ?_, map_at (by rw [List.getElem?_append_left hi]; exact e)⟩
        exact up_more (hup1 c' (List.mem_of_getElem? e))
      · rw [List.getElem?_append_right (by omega)] at e
        have hi2 : i = m1.length := by
          have := (List.getElem?_eq_some_iff.mp e).1
          rw [List.length_singleton] at this
          omega
        subst hi2
        rw [Nat.sub_self] at e
        cases e
        exact ⟨nn, .lt (acc.map T.int), by rw [List.getElem?_append_right (by rw [List.length_range]; exact Nat.le_refl _), List.length_range, Nat.sub_self]; rfl, rfl, map_at enn⟩
/-! made_heap, heap_of walked -/
theorem WtM.grow {M ex : List Cell} {d q n : Nat} {l : Nat → Nat} {Ws : Wt} (h : WtM M d q n l Ws) : WtM (M ++ ex) d q n l Ws := by
  refine ⟨?_, h.inj, fun c c1 c2 => ?_⟩
  · obtain ⟨ks, g1, g2, g3⟩ := h.dic
    exact ⟨ks, at_more g1, g2, g3⟩
  · obtain ⟨hs, h1, h2⟩ := h.ls c c1 c2
    rw [List.map_append]
    exact ⟨hs, at_more h1, h2.grow⟩
theorem WtM.other {M : List Cell} {d q n : Nat} {l : Nat → Nat} {Ws : Wt} (h : WtM M d q n l Ws) {i : Nat} {us : List W} {c0 : Cell} (hi : M[i]? = some (.lw us)) (hn : ∀ c, q ≤ c → c < n → i ≠ l c) : WtM (M.set i c0) d q n l Ws := by
  refine ⟨?_, h.inj, fun c c1 c2 => ?_⟩
  · obtain ⟨ks, g1, g2, g3⟩ := h.dic
    refine ⟨ks, ?_, g2, g3⟩
    rw [List.getElem?_set_ne (fun z => by rw [z, g1] at hi; cases hi)]
    exact g1
  · obtain ⟨hs, h1, h2⟩ := h.ls c c1 c2
    refine ⟨hs, ?_, ?_⟩
    · rw [List.getElem?_set_ne (fun z => hn c c1 c2 z)]
      exact h1
    · rw [← map_set2]
      exact h2.setO (map_at hi)
theorem WtM.lt {M : List Cell} {d q n : Nat} {l : Nat → Nat} {Ws : Wt} (h : WtM M d q n l Ws) {c : Nat} (c1 : q ≤ c) (c2 : c < n) : l c < M.length := by
  obtain ⟨hs, h1, _⟩ := h.ls c c1 c2
  exact (List.getElem?_eq_some_iff.mp h1).1
theorem WtM.put {M : List Cell} {d q n : Nat} {l : Nat → Nat} {Ws : Wt} (h : WtM M d (q + 1) n l Ws) (hq : q < n) {f : Nat} {hs : List Nat} {os : List (List Int)} (hf : M[f]? = some (.lw (hs.map W.h))) (hfo : HL (M.map some) hs os) (hn : ∀ c, q + 1 ≤ c → c < n → f ≠ l c) {ks : List L2.Key} {us : List W} (hd : M[d]? = some (.dw ks us)) :
    WtM (M.set d (.dw (putKs ks (Sum.inl (q : Int))) (putXs ks us (Sum.inl (q : Int)) (.h f)))) d q n (fun c => if c = q then f else l c) (updW Ws q os) := by
  obtain ⟨ks', g1, g2, g3⟩ := h.dic
  rw [g1] at hd
  cases hd
  have hdl := (List.getElem?_eq_some_iff.mp g1).1
  have hqn : (q : Int) ∉ ks'.map fun k : Nat => (k : Int) := fun z => by
    obtain ⟨j, hj, e⟩ := List.mem_map.mp z
    have := (g3 j).mp hj
    omega
  have hset : ∀ {hs2 : List Nat} {rs : List (List Int)} {c0 : Cell}, HL (M.map some) hs2 rs → HL ((M.set d c0).map some) hs2 rs := fun {hs2 rs c0} hh => ⟨hh.nd, hh.len, fun j k ek => by
    obtain ⟨r, e1, e2⟩ := hh.val j k ek
    refine ⟨r, e1, ?_⟩
    rw [← map_set2, List.getElem?_set_ne (fun z => by rw [← z, map_at g1] at e2; cases e2)]
    exact e2⟩
  refine ⟨⟨ks' ++ [q], ?_, by rw [List.length_append, List.length_singleton]; omega, fun c => ?_⟩, fun c c' a1 a2 b1 b2 e => ?_, fun c c1 c2 => ?_⟩
  · rw [List.getElem?_set_self hdl, putKs_new hqn]
    have ex : putXs ((ks'.map fun k : Nat => (k : Int)).map Sum.inl) ((ks'.map fun k : Nat => (k : Int)).map fun z => W.h (l z.toNat)) (Sum.inl (q : Int)) (W.h f) = ((ks' ++ [q]).map fun k : Nat => (k : Int)).map fun z => W.h (if z.toNat = q then f else l z.toNat) := by
      unfold putXs
      rw [has_no hqn, List.map_append, List.map_append]
      show _ ++ [W.h f] = _ ++ [W.h (if (q : Int).toNat = q then f else l (q : Int).toNat)]
      rw [if_pos (Int.toNat_natCast q)]
      congr 1
      refine List.map_congr_left fun z hz => ?_
      obtain ⟨j, hj, rfl⟩ := List.mem_map.mp hz
      have := (g3 j).mp hj
      rw [Int.toNat_natCast, if_neg (by omega)]
    rw [ex, show (ks'.map fun k : Nat => (k : Int)) ++ [(q : Int)] = (ks' ++ [q]).map fun k : Nat => (k : Int) by rw [List.map_append]; rfl]
  · rw [List.mem_append, List.mem_singleton, g3]
    omega
  · by_cases x1 : c = q <;> by_cases x2 : c' = q
    · omega
    · rw [if_pos x1, if_neg x2] at e
      exact absurd e (hn c' (by omega) b2)
    · rw [if_neg x1, if_pos x2] at e
      exact absurd e.symm (hn c (by omega) a2)
    · rw [if_neg x1, if_neg x2] at e
      exact h.inj c c' (by omega) a2 (by omega) b2 e
  · unfold updW
    by_cases x1 : c = q
    · rw [if_pos x1, if_pos x1]
      refine ⟨hs, ?_, hset hfo⟩
      rw [List.getElem?_set_ne (fun z => by rw [← z, g1] at hf; cases hf)]
      exact hf
    · rw [if_neg x1, if_neg x1]
      obtain ⟨hs', h1, h2⟩ := h.ls c (by omega) c2
      refine ⟨hs', ?_, hset h2⟩
      rw [List.getElem?_set_ne (fun z => by rw [← z, g1] at h1; cases h1)]
      exact h1
theorem callS_called {w : Web} {M : List Cell} {u : List Nat} {d q : Nat} {l : Nat → Nat} {Ws : Wt} {sl : List (Option W)} {Q : W → G → Prop} (hup : UpAll M) (hwt : WtM M d q w.places.length l Ws) (hc : ∀ k ∈ u, CallsOk w q k) (hroom : ∀ c, callsTo w c u ≤ (Ws c).length) (hlen : u.length + totLn w.places.length Ws ≤ 8000000)
    (h : ∀ (out : List Int) (Ws' : Wt) (m1 : List Cell), Cin w Ws u out Ws' → m1.length = M.length → UpAll m1 → WtM m1 d q w.places.length l Ws' → (∀ i, (∀ c, q ≤ c → c < w.places.length → i ≠ l c) → m1[i]? = M[i]?) → Q (.h M.length) ⟨sl, (m1 ++ [Cell.lt (out.map T.int)]).map some⟩) :
    callS C_called_in [.t w.t, .t (urT u), .h d] ⟨sl, M.map some⟩ Q := by
  obtain ⟨ks, us, g1, _, _⟩ := hwt.dict
  have hdl := (List.getElem?_eq_some_iff.mp g1).1
  refine callS_all (by
    show (match W.up _ (W.t w.t), ups _ [.t (urT u), .h d] with | some w', some ws' => some (w' :: ws') | _, _ => none) = _
    show (match some (W.t w.t), (match some (W.t (urT u)), (match W.up _ (W.h d), some [] with | some w', some ws' => some (w' :: ws') | _, _ => none) with | some w', some ws' => some (w' :: ws') | _, _ => none) with | some w', some ws' => some (w' :: ws') | _, _ => none) = _
    rw [up_h hdl]) hup fun QC hq => ⟨w, u, d, q, l, Ws, rfl, hup, hwt, hc, hroom, hlen, fun out Ws' m1 c1 c2 c3 c4 c5 => hq M.length m1 [.lt (out.map T.int)] c2 (upAll_push c3 upOk_lt) (by rw [List.length_append, c2]; exact Nat.lt_succ_self _) (h out Ws' m1 c1 c2 c3 c4 c5)⟩
theorem Cins.snoc {w : Web} {Ws Ws1 Ws2 : Wt} {us : List (List Nat)} {os : List (List Int)} {u : List Nat} {o : List Int} (h : Cins w Ws us os Ws1) (t : Cin w Ws1 u o Ws2) : Cins w Ws (us ++ [u]) (os ++ [o]) Ws2 := by
  induction h with
  | nil => exact .cons t .nil
  | cons t0 n ih => exact .cons t0 (ih t)
theorem Cin.lens {w : Web} {n : Nat} {Ws Ws' : Wt} {ks : List Nat} {out : List Int} (h : Cin w Ws ks out Ws') : (∀ k ∈ ks, (w.row k).c < (n : Nat)) → out.length + totLn n Ws' = ks.length + totLn n Ws := by
  induction h with
  | nil => intro _; rfl
  | plain h t ih =>
    intro hk
    have := ih (fun i hi => hk i (by simp [hi]))
    rw [List.length_cons, List.length_cons]
    omega
  | @call Ws Ws' k c ks sub out ini h e t ih =>
    intro hk
    have hc := hk k (by simp)
    have := ih (fun i hi => hk i (by simp [hi]))
    have h2 := totLn_pop (n := n) (c := c) (by omega) e
    rw [List.length_cons, List.length_cons, List.length_append]
    omega
theorem InsR.tot {w : Web} {p : Int} {L L' : Lft} {a b c : List Nat} (h : InsR w p L a b L' c) : totL w p L + a.length + b.length = totL w p L' + c.length := by
  induction h with
  | done => rfl
  | @step L L1 L' pre rest t rest' fin k h y T e n ih =>
    have h1 := T.tot
    have h2 := congrArg List.length e
    rw [List.length_append, List.length_cons, List.length_cons] at h2
    rw [List.length_append, List.length_singleton] at ih
    rw [List.length_cons]
    omega
theorem Runs2.tot {w : Web} {p : Int} {L L' : Lft} {rs us : List (List Nat)} (h : Runs2 w p L rs L' us) : totL w p L + (rs.map List.length).sum = totL w p L' + (us.map List.length).sum := by
  induction h with
  | nil => rfl
  | cons T n ih =>
    have := T.tot
    rw [List.map_cons, List.map_cons, List.sum_cons, List.sum_cons]
    rw [List.length_nil] at this
    omega
theorem OwnR.tot {w : Web} {p : Nat} {N : Lft} {b : Nat} {us : List (List Nat)} (h : OwnR w p N b us) : (us.map List.length).sum ≤ totL w p N := by
  obtain ⟨L1, L', rs, h1, _, h2⟩ := h
  have := h1.tot
  have := h2.tot
  omega
theorem bx_tot {w : Web} {xs : List Int} (hb : Bx xs) (hr : w.rows.length ≤ 60) : TotX w xs := fun p => by
  have key : ∀ l : List Nat, (l.map (nN xs)).sum ≤ 15000 * l.length := fun l => by
    induction l with
    | nil => exact Nat.le_refl _
    | cons k l ih =>
      have := hb k
      rw [List.map_cons, List.sum_cons, List.length_cons]
      have h2 : nN xs k ≤ 15000 := by unfold nN; omega
      omega
  have h1 := key (w.rowsOf p)
  have hrl : (w.rowsOf p).length ≤ w.rows.length := by
    unfold Web.rowsOf
    exact Nat.le_trans (List.length_filter_le _ _) (by rw [List.length_range]; exact Nat.le_refl _)
  unfold totL
  omega

theorem Cins.lenle {w : Web} {Ws Ws' : Wt} {us : List (List Nat)} {os : List (List Int)} (h : Cins w Ws us os Ws') (c : Nat) : (Ws' c).length ≤ (Ws c).length := by
  induction h with
  | nil => exact Nat.le_refl _
  | cons t n ih => have := t.len c; omega
theorem Cins.len0 {w : Web} {Ws Ws' : Wt} {us : List (List Nat)} {os : List (List Int)} (h : Cins w Ws us os Ws') : os.length = us.length := by
  induction h with
  | nil => rfl
  | cons t n ih => rw [List.length_cons, List.length_cons, ih]
def SumT (w : Web) (xs : List Int) (q : Nat) : Nat := ((List.range q).map fun c : Nat => totL w c (nN xs)).sum
theorem SumT_succ (w : Web) (xs : List Int) (q : Nat) : SumT w xs (q + 1) = SumT w xs q + totL w q (nN xs) := by
  unfold SumT
  rw [List.range_succ, List.map_append, List.sum_append]
  simp
theorem SumT_le {w : Web} {xs : List Int} (h : TotX w xs) : ∀ q, SumT w xs q ≤ 1000000 * q
  | 0 => Nat.le_refl _
  | q + 1 => by
    rw [SumT_succ]
    have := SumT_le h q
    have := h q
    omega
theorem WtM.upd {M : List Cell} {d q n : Nat} {l : Nat → Nat} {Ws : Wt} (h : WtM M d q n l Ws) {ks : List L2.Key} {us : List W} (e : M[d]? = some (.dw ks us)) : UpOk M.length (.dw ks us) := by
  obtain ⟨ks', g1, g2, g3⟩ := h.dic
  rw [g1] at e
  cases e
  have e2 : ((ks'.map fun k : Nat => (k : Int)).map fun z => W.h (l z.toNat)) = (ks'.map l).map W.h := by
    rw [List.map_map, List.map_map]
    rfl
  unfold UpOk Cell.up
  dsimp only
  rw [e2, ups_hs fun j hj => ?_]
  obtain ⟨c, hc, rfl⟩ := List.mem_map.mp hj
  exact h.lt ((g3 c).mp hc).1 ((g3 c).mp hc).2
def C_made_heap : SC := fun ws m QC => ∃ (w : Web) (xs : List Int), ws = [.t w.t, .t (.lst (xs.map T.int))] ∧ m = [] ∧ w.Ok ∧ RightC w xs ∧ Bx xs ∧ ∀ heap : List (List Int), tally w heap = some xs → heap.length = nN xs w.rows.length → (∀ r ∈ heap, stk w r = some []) → QC (.h heap.length) [] (heap.map lC ++ [.lw ((List.range heap.length).map W.h)])
theorem ln_made_heap : ∀ ws m Q, C_made_heap ws m Q → ws.length = ["a", "b"].length := by rintro ws m Q ⟨_, _, rfl, _⟩; rfl
def rd_made_heap : DSt :=
  dSeq (dAsg (dNewDw) (dgN 2))
  (dSeq (dFor (diR3 (dCons (d2 (fI0 fun i j => .int (i - j)) (dN fLen (dCons (d2 fIx (dVar 0) (dC (.int 0))) (dNil))) (dC (.int 1))) (dCons (d1 fNeg (dC (.int 1))) (dCons (d1 fNeg (dC (.int 1))) (dNil))))) (dgN 3) (dSeq (dAsg (dLstW (dNil)) (dgN 4))
  (dSeq (dFor (diL (dCallT C_own_runs (dCons (dVar 0) (dCons (dVar 3) (dCons (dVar 1) (dNil)))))) (dgN 5) (dDrop (dM fAppend (dVar 4) (dCons (dCallS C_called_in (dCons (dVar 0) (dCons (dVar 5) (dCons (dVar 2) (dNil))))) (dNil)))))
  (dDput (dVar 2) (dVar 3) (dVar 4)))))
  (dRet (d2 fGet (dVar 2) (dC (.int 0)))))

theorem rp_made_heap : ∀ ws m QC, C_made_heap ws m QC → rd_made_heap ⟨FinS m.length QC (.t .non), FinS m.length QC, fun _ => False, fun _ => False⟩ ⟨ws.map some ++ List.replicate (6 - ws.length) none, m.map some⟩ := by
  rintro ws m QC ⟨w, xs, rfl, rfl, hok, hr, hb, hQ⟩
  have hok1 := hok.1
  have htx := bx_tot (w := w) hb (by omega)
  unfold rd_made_heap
  walk_at "dl"
  refine i_newDw ?_
  walk_at "dl"
  refine i_itR3 ?_
  unfold Web.t
  walk_at "dl"
  rw [List.length_map]
  refine ⟨rfl, ⟨by omega, by omega, by omega, by omega⟩, ?_⟩
  refine forG (List.range w.places.length) (fun k => W.t (.int ((w.places.length : Int) - 1 + (k : Nat) * (-1)))) (fun pre g' => ∃ (M : List Cell) (l : Nat → Nat) (Ws : Wt) (o3 o4 o5 : Option W), g' = ⟨[some (.t w.t), some (.t (.lst (xs.map T.int))), some (.h 0), o3, o4, o5], M.map some⟩ ∧
      UpAll M ∧ WtM M 0 (w.places.length - pre.length) w.places.length l Ws ∧ HpI w xs (w.places.length - pre.length) Ws ∧ totLn w.places.length Ws + SumT w xs (w.places.length - pre.length) ≤ 4000000)
    (by rw [show ((w.places.length : Int) - 1 - -1).toNat = w.places.length by omega]; rfl)
    ⟨[.dw [] []], fun _ => 0, fun _ => [], _, _, _, rfl, (fun c hc => by rw [List.mem_singleton.mp hc]; rfl), ⟨⟨[], rfl, by simp, fun c => by simp⟩, fun c c' a b => (by simp at a; omega), fun c a b => (by simp at a; omega)⟩, hpi_start hok, (by
      have h1 := SumT_le htx w.places.length
      have h2 : totLn w.places.length (fun _ => []) = 0 := sumN_nil fun c _ => rfl
      rw [h2]
      show 0 + SumT w xs w.places.length ≤ _
      omega)⟩ (fun _ _ _ => by trivial) ?_ ?_
  · rintro pre k post hsp g' ⟨M, l, Ws, o3, o4, o5, rfl, hup, hwt, hi, htl⟩ N hN
    have hki : k = pre.length := by
      have := congrArg (fun l => l[pre.length]?) hsp
      simp only [List.getElem?_append_right (Nat.le_refl _), Nat.sub_self, List.getElem?_cons_zero] at this
      obtain ⟨h, e⟩ := List.getElem?_eq_some_iff.mp this
      rw [List.getElem_range] at e
      exact e.symm
    have hkl : k < w.places.length := List.mem_range.mp (by rw [hsp]; simp)
    obtain ⟨q, hq⟩ : ∃ q, w.places.length = q + 1 + k := ⟨w.places.length - 1 - k, by omega⟩
    have hq1 : w.places.length - pre.length = q + 1 := by omega
    have hq0 : w.places.length - (pre ++ [k]).length = q := by rw [List.length_append, List.length_singleton]; omega
    have ep : (w.places.length : Int) - 1 + (k : Nat) * (-1) = (q : Nat) := by omega
    have hqn : q < w.places.length := by omega
    rw [hq1] at hwt hi htl
    rw [hq0] at hN
    rw [SumT_succ] at htl
    rw [ep]
    have hrowc : ∀ j, j ∈ w.rowsOf q → CallsOk w (q + 1) j ∧ (w.row j).c < (w.places.length : Nat) := fun j hj => by
      obtain ⟨j1, j2⟩ := mem_rowsOf.mp hj
      have hro := hok.2.2.1 _ (row_mem j1)
      unfold Web.rowOk at hro
      refine ⟨⟨j1, ?_⟩, by omega⟩
      by_cases hc : (w.row j).c < 0
      · exact .inl hc
      · exact .inr ⟨(w.row j).c.toNat, by omega, by omega, by omega⟩
    walk_at "dl"
    refine ⟨by decide, ?_⟩
    walk_at "dl"
    refine ⟨w, q, xs, rfl, hok, hqn, hr.len, hr.pos, hb, htx, fun us hus => ?_⟩
    walk_at "dl"
    have hus2 := hus.tot
    obtain ⟨u1, u2, u3⟩ := hus.ok hr hok hqn
    have hub : nN xs (w.rows.length + q) ≤ 15000 := by have := hb (w.rows.length + q); unfold nN; omega
    have hroom0 := hi.room hr hok hqn hus
    have hMl : (M.map some).length = M.length := List.length_map ..
    rw [hMl, show M.map some ++ [some (Cell.lw [])] = (M ++ [Cell.lw []]).map some by rw [List.map_append]; rfl]
    have hfl : ∀ c, q + 1 ≤ c → c < w.places.length → M.length ≠ l c := fun c c1 c2 z => by have := hwt.lt c1 c2; omega
    generalize hf : M.length = f at hfl
    refine forG us (fun u => W.t (urT u)) (fun pre2 g' => ∃ (M1 : List Cell) (Ws1 : Wt) (os : List (List Int)) (hs : List Nat) (o5 : Option W), g' = ⟨[some (.t w.t), some (.t (.lst (xs.map T.int))), some (.h 0), some (.t (.int (q : Nat))), some (.h f), o5], M1.map some⟩ ∧
        UpAll M1 ∧ WtM M1 0 (q + 1) w.places.length l Ws1 ∧ Cins w Ws pre2 os Ws1 ∧ M1[f]? = some (.lw (hs.map W.h)) ∧ HL (M1.map some) hs os ∧ (∀ c, callsR w c (us.drop pre2.length) ≤ (Ws1 c).length) ∧
        (os.map List.length).sum + ((us.drop pre2.length).map List.length).sum + totLn w.places.length Ws1 = (us.map List.length).sum + totLn w.places.length Ws)
      (by rw [List.map_map]; rfl) ⟨M ++ [.lw []], Ws, [], [], _, rfl, upAll_push hup (upOk_lw (hs := []) (fun j hj => by cases hj)), hwt.grow, .nil, by rw [← hf]; exact at_last, HL.nil, hroom0, by simp⟩ (fun _ _ _ => by trivial) ?_ ?_
    · rintro pre2 u post2 hsp2 g' ⟨M1, Ws1, os, hs, p5, rfl, hup1, hw1, hC, hMf, hh, hrm, hln⟩ N2 hN2
      have hdr : us.drop pre2.length = u :: post2 := by rw [hsp2, List.drop_left']; rfl
      have hdr2 : us.drop (pre2 ++ [u]).length = post2 := by
        rw [hsp2, show pre2 ++ u :: post2 = (pre2 ++ [u]) ++ post2 by simp]
        exact List.drop_left' rfl
      rw [hdr] at hrm hln
      rw [List.map_cons, List.sum_cons] at hln
      have hcr : ∀ c, callsR w c (u :: post2) = callsTo w c u + callsR w c post2 := fun c => by unfold callsR; rw [List.map_cons, List.sum_cons]
      have hur : ∀ j ∈ u, j ∈ w.rowsOf q := fun j hj => mem_rowsOf.mpr (chn_in (u1 u (by rw [hsp2]; simp)) j hj)
      have hfl1 := (List.getElem?_eq_some_iff.mp hMf).1
      have hhl := hh.len
      have hosl := hC.len0
      have hul : us.length = pre2.length + (post2.length + 1) := by rw [hsp2, List.length_append, List.length_cons]
      walk_at "dl"
      refine ⟨isL_lw (map_at hMf), ?_⟩
      walk_at "dl"
      refine callS_called hup1 hw1 (fun j hj => (hrowc j (hur j hj)).1) (fun c => by have := hrm c; rw [hcr] at this; omega) (by omega) fun out Ws2 m1 c1 c2 c3 c4 c5 => ?_
      have hm1f : m1[f]? = some (.lw (hs.map W.h)) := by rw [c5 f hfl]; exact hMf
      have hm1h : HL (m1.map some) hs os := ⟨hh.nd, hh.len, fun i h eh => by
        obtain ⟨r, e1, e2⟩ := hh.val i h eh
        refine ⟨r, e1, ?_⟩
        rw [List.getElem?_map, c5 h fun c a1 a2 z => ?_, ← List.getElem?_map]
        · exact e2
        · obtain ⟨hs', b1, _⟩ := hw1.ls c a1 a2
          rw [z, map_at b1] at e2
          cases e2⟩
      have hh2 := hm1h.add [out]
      have hlen2 := c1.lens (n := w.places.length) fun j hj => (hrowc j (hur j hj)).2
      have e9 : m1.map some ++ [out].map (fun r => some (lC r)) = (m1 ++ [Cell.lt (out.map T.int)]).map some := by rw [List.map_append]; rfl
      have e10 : hs ++ (List.range [out].length).map ((m1.map some).length + ·) = hs ++ [M1.length] := by
        rw [List.length_map, c2]
        rfl
      rw [e9, e10] at hh2
      have hm1f2 : (m1 ++ [Cell.lt (out.map T.int)])[f]? = some (.lw (hs.map W.h)) := at_more hm1f
      walk_at "dl"
      refine i_appendW (us := hs.map W.h) (map_at hm1f2) (lineHuge (by rw [List.length_map]; omega)) ?_
      simp only [G.put]
      rw [map_set2]
      have ehs : hs.map W.h ++ [W.h M1.length] = (hs ++ [M1.length]).map W.h := by rw [List.map_append]; rfl
      rw [ehs]
      refine hN2 _ ⟨_, Ws2, os ++ [out], hs ++ [M1.length], _, rfl, upAll_set (upAll_push c3 upOk_lt) (upOk_lw fun j hj => ?_), c4.grow.other hm1f2 hfl, hC.snoc c1, List.getElem?_set_self (by rw [List.length_append]; omega), ?_, fun c => ?_, ?_⟩
      · have := hh2.lt j hj
        rwa [List.length_map] at this
      · rw [← map_set2]
        exact hh2.setO (map_at hm1f2)
      · rw [hdr2]
        have h1 := hrm c
        have h2 := c1.len c
        rw [hcr] at h1
        omega
      · rw [hdr2, List.map_append, List.sum_append]
        simp only [List.map_cons, List.map_nil, List.sum_cons, List.sum_nil]
        omega
    · rintro g' ⟨M1, Ws1, os, hs, p5, rfl, hup1, hw1, hC, hMf, hh, hrm, hln⟩
      rw [List.drop_length] at hln
      simp only [List.map_nil, List.sum_nil] at hln
      have hWq : Ws1 q = [] := List.eq_nil_of_length_eq_zero (by
        have h1 := hC.lenle q
        rw [hi.low q (Nat.lt_succ_self q)] at h1
        simpa using h1)
      obtain ⟨ks, us', g1, g2, g3⟩ := hw1.dict
      have hput := hw1.put hqn hMf hh hfl g1
      have hup2 := hput.upd (List.getElem?_set_self (List.getElem?_eq_some_iff.mp g1).1)
      rw [List.length_set] at hup2
      walk_at "dl"
      refine o_dputW (k := Sum.inl (q : Int)) rfl (map_at g1) (lineHuge (by omega)) ?_
      simp only [G.put]
      rw [map_set2]
      refine hN _ ⟨_, _, updW Ws1 q os, _, _, _, rfl, upAll_set hup1 hup2, hput, hi.step hr hok hqn hus hC, ?_⟩
      rw [totLn_put hqn hWq]
      omega
  · rintro g' ⟨M, l, Ws, o3, o4, o5, rfl, hup, hwt, hi, htl⟩
    rw [List.length_range, Nat.sub_self] at hwt hi
    obtain ⟨e1, e2, e3⟩ := hi.done hr hok
    obtain ⟨ks, us, g1, g2, g3⟩ := hwt.dict
    obtain ⟨hs, h1, h2⟩ := hwt.ls 0 (Nat.le_refl _) (by omega)
    walk_at "dl"
    refine i_getW (k := Sum.inl (0 : Int)) rfl (map_at g1) (g3 0 (Nat.le_refl _) (by omega)) ?_
    exact fin_hl (map_at h1) h2 (hQ (Ws 0) e1 e2 e3)
local macro_rules | `(tactic| walk_at "x1") => `(tactic| first
  | ((with_reducible refine' i_var ?e ?_); (case e => rfl))
  | with_reducible refine i_cons ?_
  | with_reducible refine i_c ?_
  | with_reducible refine i_nil ?_
  | ((with_reducible refine' o_Ts ?e ?_); (case e => rfl))
  | with_reducible refine i_d2 ?_
  | with_reducible refine o_B ?_
  | with_reducible refine i_seq ?_
  | with_reducible refine i_B ?_
  | with_reducible refine i_gN ?_
  | with_reducible refine i_ifS ?_
  | with_reducible refine i_drop ?_
  | with_reducible refine i_next ?_
  | with_reducible refine i_asg ?_
  | with_reducible refine k_F ?_
  | with_reducible refine k_T ?_
  | with_reducible refine i_callT ?_
  | ((with_reducible refine' i_ix ?e ?v ?_); (case e => rfl); (case v => first | assumption | rfl))
  | with_reducible refine i_d1 ?_
  | with_reducible refine i_dN ?_
  | with_reducible refine o_T ?_
  | with_reducible refine i_fI0 ?_
  | with_reducible refine i_addI ?_
  | walk_at "dn"
  | apply_rules -exfalso -symm (transparency := .reducible) (maxDepth := 100000) only [i_neg, o_I, i_or, i_and, i_not, i_andV, i_orV, i_notV, i_if, i_yes, k_True, k_False, i_eqI, i_neI, i_addHI, i_callH, o_H, i_ret, i_retN, i_gCons, i_gNil, i_min2, i_max2, i_par, o_W2, i_intI, i_intB, i_lc, i_for, i_while, i_itL, i_itR1, i_itR2, o_I1, o_I2, e_t, i_M, i_M0, i_gSub, i_finH, i_finT, i_sl, i_slH, i_slT, i_noPart, i_part, i_dput, i_newD, i_lstH, i_lst, i_tup, i_break, i_cont, i_callS, i_gwCons, i_gwNil, i_lstW, i_listRgH, i_listRg, i_R1, i_getD, tf_lt, tf_dt, hf_lt, hf_dt, gt_2, gt_3, gt_4, gt_5, gt_6, x_seq, x_plain, x_if, x_expr, x_call, x_raise, x_try]
  | ((with_reducible refine' i_len ?e ?_); (case e => rfl))
  | ((with_reducible refine' i_aug ?e ?_); (case e => rfl))
  | ((with_reducible refine' o_Lq ?e ?_); (case e => rfl))
  | ((with_reducible refine' e_h ?e ?p ?_); (case e => rfl); (case p => rfl))
  | ((with_reducible refine' i_frzT ?e ?_); (case e => rfl))
  | ((with_reducible refine' i_frzH ?e ?m ?t ?_); (case e => rfl); (case m => rfl); (case t => rfl))
  | ((with_reducible refine' i_din ?k ?e ?_); (case k => rfl); (case e => rfl))
  | ((with_reducible refine' i_dnotin ?k ?e ?_); (case k => rfl); (case e => rfl))
  | ((with_reducible refine' i_ixHW ?e ?v ?_); (case e => first | rfl | assumption); (case v => first | assumption | rfl))
  | ((with_reducible refine' i_ixHT ?e ?v ?_); (case e => first | rfl | assumption); (case v => first | assumption | rfl))
  | ((with_reducible refine' i_lenHT ?e ?_); (case e => first | rfl | assumption))
  | ((with_reducible refine' i_lenHW ?e ?_); (case e => first | rfl | assumption))
  | ((with_reducible refine' i_frzH ?e ?m ?t ?_); (case e => rfl); (case m => rfl); (case t => rfl))
  | ((with_reducible refine' i_unw ?e ?n ?_); (case e => rfl); (case n => rfl))
  | ((with_reducible refine' i_gList ?e ?n ?_); (case e => rfl); (case n => rfl))
  | ((with_reducible refine' i_none ?k ?_); (case k => rfl)))
local macro_rules | `(tactic| walk_at "xl") => `(tactic| ((try walk_at "dn"); repeat walk_at "x1"))
/-! heap_of, and where it refuses -/
abbrev RL : List Str := ["NoCounts"]
abbrev ML : List Str := ["NoCounts", "NoRun", "NoWay", "NoWeb"]
def C_heap_of : SC := fun ws m QC => ∃ (w : Web) (xs : List Int), ws = [.t w.t, .t (.lst (xs.map T.int))] ∧ m = [] ∧ w.Ok ∧ RightC w xs ∧ Bx xs ∧ ∀ heap : List (List Int), (tally w heap = some xs ∧ heap.length = nN xs w.rows.length ∧ ∀ r ∈ heap, stk w r = some []) → QC (.h heap.length) [] (heap.map lC ++ [.lw ((List.range heap.length).map W.h)])
theorem ln_heap_of : ∀ ws m Q, C_heap_of ws m Q → ws.length = ["a", "b"].length := by rintro ws m Q ⟨_, _, rfl, _⟩; rfl
def rd_heap_of : DSt :=
  dSeq (dDrop (dCallT C_must_be_web (dCons (dVar 0) (dNil))))
  (dSeq (dIfS (dNot (dB (dCallT C_right_counts (dCons (dVar 0) (dCons (dVar 1) (dNil)))))) (dNever) (dNext))
  (dRet (dCallS C_made_heap (dCons (dVar 0) (dCons (dVar 1) (dNil))))))

theorem rp_heap_of : ∀ ws m QC, C_heap_of ws m QC → rd_heap_of ⟨FinS m.length QC (.t .non), FinS m.length QC, fun _ => False, fun _ => False⟩ ⟨ws.map some ++ List.replicate (2 - ws.length) none, m.map some⟩ := by
  rintro ws m QC ⟨w, xs, rfl, rfl, hok, hr, hb, hQ⟩
  have hok1 := hok.1
  have hxl := hr.len
  unfold rd_heap_of
  walk_at "xl"
  refine ⟨w, rfl, hok, ?_⟩
  walk_at "xl"
  refine ⟨w, xs, rfl, hok, by omega, hb, fun _ => ?_, fun e => absurd hr e⟩
  walk_at "xl"
  rw [Bool.not_true]
  walk_at "xl"
  refine callS_hlP (P := fun heap => tally w heap = some xs ∧ heap.length = nN xs w.rows.length ∧ ∀ r ∈ heap, stk w r = some []) rfl (fun QC h => ⟨w, xs, rfl, rfl, hok, hr, hb, fun heap h1 h2 h3 => h heap ⟨h1, h2, h3⟩⟩) fun heap hp => ?_
  obtain ⟨h1, h2⟩ := hl_new [] heap
  exact fin_hl h1 h2 (hQ heap hp)
def R_heap_of : RC := fun ts n => ∃ (w : Web) (xs : List Int), ts = [w.t, .lst (xs.map T.int)] ∧ w.Ok ∧ xs.length ≤ 1000 ∧ Bx xs ∧ ¬ RightC w xs ∧ n = "NoCounts"
theorem lnx_heap_of : ∀ ts n, R_heap_of ts n → ts.length = 2 := by rintro ts n ⟨_, _, rfl, _⟩; rfl
theorem hnx_heap_of : ∀ ts n, R_heap_of ts n → n ∈ RL := by rintro ts n ⟨_, _, _, _, _, _, _, rfl⟩; decide
def rx_heap_of : DXt :=
  xSeq (xPlain (dDrop (dCallT C_must_be_web (dCons (dVar 0) (dNil)))))
  (xSeq (xIf (dNot (dB (dCallT C_right_counts (dCons (dVar 0) (dCons (dVar 1) (dNil)))))) (xRaise "NoCounts") (xPlain dNext))
  (xPlain (dRet (dCallS C_made_heap (dCons (dVar 0) (dCons (dVar 1) (dNil)))))))

theorem rpx_heap_of : ∀ ts n, R_heap_of ts n → rx_heap_of ⟨fun _ => False, fun _ _ => False, fun _ => False, fun _ => False⟩ (fun m _ => m = n) ⟨ts.map (fun t => some (W.t t)) ++ List.replicate (2 - ts.length) none, []⟩ := by
  rintro ts n ⟨w, xs, rfl, hok, hxl, hb, hn, rfl⟩
  unfold rx_heap_of
  walk_at "xl"
  refine ⟨w, rfl, hok, ?_⟩
  walk_at "xl"
  refine ⟨w, xs, rfl, hok, hxl, hb, fun e => absurd e hn, fun _ => ?_⟩
  walk_at "xl"
  refine k_T ?_
  walk_at "xl"
def rd__law_refused : DSt :=
  dSeq (dAsg (dC .non) (dgN 2))
  (dSeq (dTry RL 3 2 (xExpr (xCall R_heap_of (dCons (dVar 0) (dCons (dVar 1) (dNil))))))
  (dSeq (dIfS (dB (dIsX RL 2 ["NoRun", "NoWay", "NoWeb"])) (dRet (dC (.bl false))) (dNext))
  (dRet (dAndV (dIsX RL 2 ["NoCounts"]) (dIsX RL 2 ["ValueError"])))))

def C__law_refused : PC := fun ts Q => ∃ (w : Web) (xs : List Int), ts = [w.t, .lst (xs.map T.int)] ∧ w.Ok ∧ xs.length ≤ 1000 ∧ Bx xs ∧ ¬ RightC w xs ∧ Q (.t (.bl true))
theorem ln__law_refused : ∀ ts Q, C__law_refused ts Q → ts.length = ["a", "b"].length := by rintro ts Q ⟨_, _, rfl, _⟩; rfl
theorem rp__law_refused : ∀ ts Q, C__law_refused ts Q → rd__law_refused ⟨FinP Q (.t .non), FinP Q, fun _ => False, fun _ => False⟩ ⟨ts.map (fun t => some (W.t t)) ++ List.replicate (4 - ts.length) none, []⟩ := by
  rintro ts Q ⟨w, xs, rfl, hok, hxl, hb, hn, hQ⟩
  unfold rd__law_refused
  have inRL : ("NoCounts" : Str) ∈ RL := by decide
  walk_at "xl"
  refine ⟨"NoCounts", ⟨w, xs, rfl, hok, hxl, hb, hn, rfl⟩, inRL, by decide, ?_⟩
  walk_at "xl"
  refine i_isX rfl inRL ?_
  rw [show (["NoRun", "NoWay", "NoWeb"] : List Str).any (subX "NoCounts") = false by decide]
  walk_at "xl"
  refine i_isX rfl inRL ?_
  rw [show (["NoCounts"] : List Str).any (subX "NoCounts") = true by decide]
  walk_at "xl"
  refine i_isX rfl inRL ?_
  rw [show (["ValueError"] : List Str).any (subX "NoCounts") = true by decide]
  walk_at "xl"
  exact hQ
/-! the law's look at counts -/
theorem stL_map (E : Stk) : E.map stT = stL E.reverse := by unfold stL; rw [List.reverse_reverse]
def C__law_hangs : PC := fun ts Q => ∃ (w : Web) (p : Nat) (xs : List Int), ts = [w.t, .int p, .lst (xs.map T.int)] ∧ w.Ok ∧ p < w.places.length ∧ xs.length = w.rows.length + w.places.length ∧ (∀ k, 0 ≤ xs.getD k 0) ∧ (BegC w p xs ∧ HangAll w p xs → Q (.t (.bl true))) ∧ (¬ (BegC w p xs ∧ HangAll w p xs) → Q (.t (.bl false)))
theorem ln__law_hangs : ∀ ts Q, C__law_hangs ts Q → ts.length = ["a", "b", "c"].length := by rintro ts Q ⟨_, _, _, rfl, _⟩; rfl
def rd__law_hangs : DSt :=
  dSeq (dAsg (dLc finT (diR1 (dCons (dN fLen (dCons (d2 fIx (dVar 0) (dC (.int 1))) (dNil))) (dNil))) (dgN 9) (dAnd (dB (d2 (fEq false) (d2 fIx (d2 fIx (d2 fIx (dVar 0) (dC (.int 1))) (dVar 9)) (dC (.int 0))) (dVar 1))) (dB (d2 (fI0 fun i j => .bl (decide (j < i))) (d2 fIx (dVar 2) (dVar 9)) (dC (.int 0))))) (dSlT (d2 fIx (d2 fIx (dVar 0) (dC (.int 1))) (dVar 9)) (dPart (dC (.int 1))) (dPart (dC (.int 3)))) [9]) (dgN 3))
  (dSeq (dAsg (dLstH (dCons (dC (.int 0)) (dNil))) (dgN 4))
  (dSeq (dFor (diR1 (dCons (d2 fAdd (dN fLen (dCons (dVar 3) (dNil))) (dC (.int 1))) (dNil))) (dgN 5) (dFor (diL (dVar 3)) (dgTup 2 (dgCons (dgN 6) (dgCons (dgN 7) (dgNil)))) (dIfS (dAnd (dB (d2 (fIn false) (dVar 6) (dVar 4))) (dB (d2 (fIn true) (dVar 7) (dVar 4)))) (dDrop (dM fAppend (dVar 4) (dCons (dVar 7) (dNil)))) (dNext))))
  (dSeq (dAsg (d2 fIx (dVar 2) (d2 fAdd (dN fLen (dCons (d2 fIx (dVar 0) (dC (.int 1))) (dNil))) (dVar 1))) (dgN 8))
  (dRet (dAndV (d2 (fEq false) (dN fLen (dCons (dLc finT (diL (dVar 3)) (dgTup 2 (dgCons (dgN 6) (dgCons (dgN 7) (dgNil)))) (dB (d2 (fIn true) (dVar 6) (dVar 4))) (dVar 6) [6, 7]) (dNil))) (dC (.int 0))) (dOrV (d2 (fI0 fun i j => .bl (decide (j < i))) (dVar 8) (dC (.int 0))) (d2 (fEq false) (dVar 3) (dLst (dNil)))))))))

theorem rp__law_hangs : ∀ ts Q, C__law_hangs ts Q → rd__law_hangs ⟨FinP Q (.t .non), FinP Q, fun _ => False, fun _ => False⟩ ⟨ts.map (fun t => some (W.t t)) ++ List.replicate (10 - ts.length) none, []⟩ := by
  rintro ts Q ⟨w, p, xs, rfl, hok, hpl, hxl, hpos, hT, hF⟩
  have hok1 := hok.1
  unfold rd__law_hangs Web.t
  walk_at "dl"
  rw [List.length_map]
  refine ⟨by omega, ?_⟩
  refine lcP (List.range w.rows.length) (fun k => W.t (natT k)) (fun k => decide (0 < xs.getD k 0) && decide ((w.row k).p = (p : Nat))) (fun k => T.tup [.int (w.row k).s, .int (w.row k).e]) (by rw [Int.toNat_natCast, rgW0]; rfl) (by rw [List.length_range]; exact lineLe (by omega)) trivial ?_ rfl ?_
  · intro z hz Y N3 hY hN3
    have hzl := List.mem_range.mp hz
    have hrow := row_at hzl
    have h2 := int_at (xs := xs) (j := z) (by omega)
    unfold natT Row.t at *
    walk_at "dl"
    refine k_d (fun h1 => ?_) (fun h1 => ?_)
    · walk_at "dl"
      refine k_d (fun h3 => ?_) (fun h3 => ?_)
      · walk_at "dl"
        refine o_cutT (by show ¬ (HT.sIx 4 0 (some 1) = 0 ∧ HT.sIx 4 4 (some 3) = 4); decide) ?_
        exact hY (by rw [decide_eq_true h1, decide_eq_true h3]; rfl) _ rfl
      · exact hN3 (by rw [decide_eq_false h3]; rfl) _ rfl
    · exact hN3 (by rw [decide_eq_false h1, Bool.and_false]) _ rfl
  have efl : ((List.range w.rows.length).filter fun k => decide (0 < xs.getD k 0) && decide ((w.row k).p = (p : Nat))) = (w.rowsOf p).filter fun k => decide (0 < xs.getD k 0) := by
    unfold Web.rowsOf
    rw [List.filter_filter]
  rw [efl]
  generalize hsome : ((w.rowsOf p).filter fun k => decide (0 < xs.getD k 0)) = some1
  have hsl : some1.length ≤ w.rows.length := by
    rw [← hsome]
    refine Nat.le_trans (List.length_filter_le _ _) ?_
    unfold Web.rowsOf
    exact Nat.le_trans (List.length_filter_le _ _) (by rw [List.length_range]; exact Nat.le_refl _)
  have hrh : ∀ v, Reach (some1.map (w.edge false)) 0 v ↔ HangR w p (nN xs) v := fun v => by rw [← hsome]; exact reach_hang
  have hmem1 : ∀ k, k ∈ some1 ↔ k < w.rows.length ∧ (w.row k).p = (p : Nat) ∧ 0 < nN xs k := fun k => by
    rw [← hsome, List.mem_filter, mem_rowsOf, nN_pos, decide_eq_true_eq, and_assoc]
  have hall : HangAll w p xs ↔ ∀ ab ∈ some1.map (w.edge false), Reach (some1.map (w.edge false)) 0 ab.1 := by
    constructor
    · rintro h ab hab
      obtain ⟨k, hk, rfl⟩ := List.mem_map.mp hab
      obtain ⟨k1, k2, k3⟩ := (hmem1 k).mp hk
      exact (hrh _).mpr (h k k1 k2 k3)
    · intro h k h1 h2 h3
      exact (hrh _).mp (h _ (List.mem_map.mpr ⟨k, (hmem1 k).mpr ⟨h1, h2, h3⟩, rfl⟩))
  have hbeg : BegC w p xs ↔ (0 < xs.getD (w.rows.length + p) 0 ∨ some1.map (w.edge false) = []) := by
    unfold BegC
    constructor
    · intro h
      by_cases h0 : 0 < xs.getD (w.rows.length + p) 0
      · exact .inl h0
      · refine .inr ?_
        have hz := h (by unfold nN; omega)
        rw [List.map_eq_nil_iff]
        refine List.eq_nil_iff_forall_not_mem.mpr fun k hk => ?_
        obtain ⟨k1, k2, k3⟩ := (hmem1 k).mp hk
        have := hz k k1 k2
        omega
    · rintro (h | h) h0 k k1 k2
      · unfold nN at h0; omega
      · rw [List.map_eq_nil_iff] at h
        rcases Nat.eq_zero_or_pos (nN xs k) with c | c
        · exact c
        · have := (hmem1 k).mpr ⟨k1, k2, c⟩
          rw [h] at this
          cases this
  have est : (some1.map fun k => T.tup [.int (w.row k).s, .int (w.row k).e]) = (some1.map (w.edge false)).map stT := by rw [List.map_map]; rfl
  rw [est]
  have hEl : (some1.map (w.edge false)).length ≤ 60 := by rw [List.length_map]; omega
  generalize some1.map (w.edge false) = E at hall hbeg hEl
  clear hrh hmem1 est hsome efl
  have hlen : ∀ ks : List Int, ks.Nodup → (∀ x ∈ ks, Reach E 0 x) → ks.length ≤ E.length + 1 := fun ks nd hr => by
    have := nd.length_le_of_subset (l₂ := (0 : Int) :: E.map (·.2)) fun x hx => by
      cases hr x hx with
      | refl => simp
      | step _ he => exact List.mem_cons_of_mem _ (List.mem_map.mpr ⟨_, he, rfl⟩)
    rwa [List.length_cons, List.length_map] at this
  walk_at "dl"
  refine ⟨by decide, ?_⟩
  walk_at "dl"
  rw [List.length_map]
  refine ⟨by omega, ?_⟩
  refine forR (List.range (E.length + 1)) (fun k => W.t (natT k)) (fun t g' => ∃ (ks : List Int) (o5 o6 o7 : Option W), g' = ⟨[some (.t w.t), some (.t (.int p)), some (.t (.lst (xs.map T.int))), some (.t (.lst (E.map stT))), some (.h 0), o5, o6, o7, none, none], [some (.lt (ks.map T.int))]⟩ ∧ ks.Nodup ∧ (0 : Int) ∈ ks ∧ (∀ x ∈ ks, Reach E 0 x) ∧
      ((∀ c d, (c, d) ∈ E → c ∈ ks → d ∈ ks) ∨ t + 1 ≤ ks.length))
    (by rw [show ((E.length : Int) + 1).toNat = E.length + 1 by omega, rgW0]; rfl) ⟨[0], none, none, none, rfl, by simp, by simp, fun x hx => by simp at hx; subst hx; exact .refl, .inr (by simp)⟩ (fun _ _ _ => trivial) ?_ ?_
  · rintro t k hk g' ⟨ks, o5, o6, o7, rfl, nd, hbk, hr, hcl⟩ N hN
    unfold natT Web.t
    walk_at "dl"
    refine forP E (fun a => W.t (stT a)) pass1 (fun ks' g' => ∃ (o6 o7 : Option W), g' = ⟨[some (.t w.t), some (.t (.int p)), some (.t (.lst (xs.map T.int))), some (.t (.lst (E.map stT))), some (.h 0), some (.t (.int (k : Nat))), o6, o7, none, none], [some (.lt (ks'.map T.int))]⟩)
      ks (by rw [List.map_map]; rfl) ⟨o6, o7, rfl⟩ (fun _ _ _ => rfl) ?_ ?_
    · rintro pre ab post hsp g' ⟨o6, o7, rfl⟩ N2 hN2
      have hks2 : (pre.foldl pass1 ks).length ≤ E.length + 1 := hlen _ (pass_nd nd) (pass_reach _ (fun ab hab => by rw [hsp]; exact List.mem_append_left _ hab) hr)
      generalize pre.foldl pass1 ks = ks2 at hN2 hks2
      unfold pass1 ins at hN2
      unfold stT
      walk_at "dl"
      refine i_inI rfl ?_
      walk_at "dl"
      refine k_d (fun ha => ?_) (fun ha => ?_)
      · rw [if_pos ha] at hN2
        walk_at "dl"
        refine i_ninI rfl ?_
        walk_at "dl"
        refine k_n (fun hb => ?_) (fun hb => ?_)
        · rw [if_neg hb, List.map_append] at hN2
          walk_at "dl"
          refine ⟨isL_lt rfl, ?_⟩
          walk_at "dl"
          refine i_append rfl (lineLt (by rw [List.length_map]; omega)) ?_
          walk_at "dn"
          exact hN2 _ ⟨_, _, rfl⟩
        · rw [if_pos hb] at hN2
          walk_at "dl"
          exact hN2 _ ⟨_, _, rfl⟩
      · rw [if_neg ha] at hN2
        walk_at "dl"
        exact hN2 _ ⟨_, _, rfl⟩
    · rintro g' ⟨o6, o7, rfl⟩
      refine hN _ ⟨_, _, _, _, rfl, pass_nd nd, pass_sub hbk, pass_reach _ (fun _ h => h) hr, ?_⟩
      have hle := pass_len (E := E) ks
      by_cases he : (E.foldl pass1 ks).length = ks.length
      · have e2 := pass_eq he
        rw [e2]
        exact .inl fun c d hcd hc => by rw [← e2]; exact pass_has hcd hc
      · rcases hcl with hcl | hcl
        · refine .inl fun c d hcd hc => ?_
          have hsame : ∀ x ∈ E.foldl pass1 ks, x ∈ ks := fun x hx => reach_closed hbk hcl (pass_reach (E := E) _ (fun _ h => h) hr x hx)
          exact pass_sub (hcl c d hcd (hsame c hc))
        · exact .inr (by omega)
  · rintro g' ⟨ks, o5, o6, o7, rfl, nd, hbk, hr, hcl⟩
    have hl1 := hlen ks nd hr
    rw [List.length_range] at hcl
    have hcl2 : ∀ c d, (c, d) ∈ E → c ∈ ks → d ∈ ks := by
      rcases hcl with h | h
      · exact h
      · omega
    have hmem : ∀ x, x ∈ ks ↔ Reach E 0 x := fun x => ⟨hr x, reach_closed hbk hcl2⟩
    have h1 := int_at (xs := xs) (j := w.rows.length + p) (by omega)
    rw [Int.natCast_add] at h1
    unfold Web.t
    walk_at "dl"
    rw [List.length_map]
    walk_at "dl"
    refine lcP E (fun a => W.t (stT a)) (fun a => !decide (a.1 ∈ ks)) (fun a => T.int a.1) (by rw [List.map_map]; rfl) (lineLe (by omega)) rfl ?_ rfl ?_
    · intro z hz Y N3 hY hN3
      unfold stT
      walk_at "dl"
      refine i_ninI rfl ?_
      walk_at "dl"
      refine k_n (fun hc => ?_) (fun hc => ?_)
      · walk_at "dl"
        exact hY (by simpa using hc) _ rfl
      · exact hN3 (by simpa using hc) _ rfl
    walk_at "dl"
    rw [List.length_map]
    have hfin : (((E.filter fun a => !decide (a.1 ∈ ks)).length : Nat) : Int) = 0 ↔ HangAll w p xs := by
      rw [hall]
      constructor
      · intro h ab hab
        have e : (E.filter fun a => !decide (a.1 ∈ ks)) = [] := List.eq_nil_of_length_eq_zero (by omega)
        have := List.filter_eq_nil_iff.mp e ab hab
        exact (hmem _).mp (by simpa using this)
      · intro h
        have e : (E.filter fun a => !decide (a.1 ∈ ks)) = [] := List.filter_eq_nil_iff.mpr fun ab hab => by
          have := (hmem _).mpr (h ab hab)
          simpa using this
        rw [e]
        rfl
    refine k_d (fun hA => ?_) (fun hA => ?_)
    · walk_at "dl"
      refine k_d (fun hB => ?_) (fun hB => ?_)
      · walk_at "dl"
        exact hT ⟨hbeg.mpr (.inl hB), hfin.mp hA⟩
      · walk_at "dl"
        refine ⟨by decide, ?_⟩
        refine i_eqT (u := .lst (E.map stT)) (v := .lst []) rfl rfl (by rw [stL_map]; exact sh_stL 6 _) rfl ?_
        rw [stL_map, teq_stL]
        by_cases hE : E = []
        · rw [hE]
          exact hT ⟨hbeg.mpr (.inr hE), hfin.mp hA⟩
        · rw [decide_eq_false (fun z => hE (by simpa using z))]
          exact hF fun z => (hbeg.mp z.1).elim hB hE
    · exact hF fun z => hA (hfin.mpr z.2)
noncomputable def partB (w : Web) (xs : List Int) (p : Nat) : Bool := @decide (BegC w p xs ∧ HangAll w p xs) (Classical.propDecidable _)
theorem partB_t {w : Web} {xs : List Int} {p : Nat} (h : BegC w p xs ∧ HangAll w p xs) : partB w xs p = true := @decide_eq_true _ (Classical.propDecidable _) h
theorem partB_f {w : Web} {xs : List Int} {p : Nat} (h : ¬ (BegC w p xs ∧ HangAll w p xs)) : partB w xs p = false := @decide_eq_false _ (Classical.propDecidable _) h
def C__law_are_counts : PC := fun ts Q => ∃ (w : Web) (xs : List Int), ts = [w.t, .lst (xs.map T.int)] ∧ w.Ok ∧ xs.length ≤ 1000 ∧ Bx xs ∧ (RightC w xs → Q (.t (.bl true))) ∧ (¬ RightC w xs → Q (.t (.bl false)))
theorem ln__law_are_counts : ∀ ts Q, C__law_are_counts ts Q → ts.length = ["a", "b"].length := by rintro ts Q ⟨_, _, rfl, _⟩; rfl
def rd__law_are_counts : DSt :=
  dSeq (dIfS (dOr (dB (d2 (fEq true) (dN fLen (dCons (dVar 1) (dNil))) (d2 fAdd (dN fLen (dCons (d2 fIx (dVar 0) (dC (.int 1))) (dNil))) (dN fLen (dCons (d2 fIx (dVar 0) (dC (.int 0))) (dNil)))))) (dB (d2 (fI0 fun i j => .bl (decide (i < j))) (dN fMin (dCons (dVar 1) (dNil))) (dC (.int 0))))) (dRet (dC (.bl false))) (dNext))
  (dSeq (dFor (diL (dCallT C__law_every (dCons (dVar 0) (dNil)))) (dgN 2) (dIfS (dB (d2 (fEq true) (dN fSum (dCons (dLc finT (diR1 (dCons (dN fLen (dCons (dVar 1) (dNil))) (dNil))) (dgN 3) (dYes) (d2 (fI IntMulOk fun i j => .int (i * j)) (d2 fIx (dVar 2) (dVar 3)) (d2 fIx (dVar 1) (dVar 3))) [3]) (dNil))) (dC (.int 0)))) (dRet (dC (.bl false))) (dNext)))
  (dRet (d2 (fIn true) (dC (.bl false)) (dLc finT (diR1 (dCons (dN fLen (dCons (d2 fIx (dVar 0) (dC (.int 0))) (dNil))) (dNil))) (dgN 4) (dYes) (dCallT C__law_hangs (dCons (dVar 0) (dCons (dVar 4) (dCons (dVar 1) (dNil))))) [4]))))

theorem rp__law_are_counts : ∀ ts Q, C__law_are_counts ts Q → rd__law_are_counts ⟨FinP Q (.t .non), FinP Q, fun _ => False, fun _ => False⟩ ⟨ts.map (fun t => some (W.t t)) ++ List.replicate (5 - ts.length) none, []⟩ := by
  rintro ts Q ⟨w, xs, rfl, hok, hxl, hb, hT, hF⟩
  have hok1 := hok.1
  unfold rd__law_are_counts Web.t
  walk_at "dl"
  simp only [List.length_map]
  refine k_n (fun h => ?_) (fun h => ?_)
  · walk_at "dl"
    exact hF fun r => h (by have := r.len; omega)
  have hl : xs.length = w.rows.length + w.places.length := by omega
  walk_at "dl"
  refine i_min (ns := xs) rfl (by omega) fun m hm1 hm2 => ?_
  walk_at "dl"
  refine k_d (fun h => ?_) (fun h => ?_)
  · walk_at "dl"
    exact hF fun r => by
      obtain ⟨j, e⟩ := getD_mem0 hm1
      have := r.pos j
      omega
  have hpos : ∀ k, 0 ≤ xs.getD k 0 := getD_all (P := fun z => 0 ≤ z) (Int.le_refl 0) fun y hy => by have := hm2 y hy; omega
  walk_at "dl"
  refine ⟨w, rfl, hok, ?_⟩
  walk_at "dl"
  refine forA (rels w) (fun r => W.t (runT r)) (fun r => dot r xs = 0) (fun g' => ∃ (o2 o3 : Option W), g' = ⟨[some (.t w.t), some (.t (.lst (xs.map T.int))), o2, o3, none], []⟩) (by rw [List.map_map]; rfl) ⟨_, _, rfl⟩ (fun _ _ => by trivial) ?_ ?_
  · rintro r hr g' ⟨o2, o3, rfl⟩ N hN
    have hrl := rels_len hr
    have hbd := rel_small hr
    unfold runT
    walk_at "dl"
    rw [List.length_map]
    refine ⟨by omega, ?_⟩
    refine lcP (List.range xs.length) (fun k => W.t (natT k)) (fun _ => true) (fun k => T.int (r.getD k 0 * xs.getD k 0)) (by rw [Int.toNat_natCast, rgW0]; rfl) (by rw [List.length_range]; exact lineLe (by omega)) trivial ?_ rfl ?_
    · intro z hz Y N3 hY hN3
      have hzl := List.mem_range.mp hz
      have h1 := int_at (xs := r) (j := z) (by omega)
      have h2 := int_at (xs := xs) (j := z) hzl
      have h3 := hb z
      unfold natT
      walk_at "dl"
      refine i_fI (mulR (by omega) (by omega)) ?_
      exact hY rfl _ rfl
    rw [List.filter_eq_self.mpr (fun _ _ => rfl)]
    walk_at "dl"
    refine i_sum (ns := (List.range xs.length).map fun k => r.getD k 0 * xs.getD k 0) (by rw [List.map_map]; rfl) ?_
    rw [dot_range (by omega)]
    walk_at "dl"
    refine k_n (fun h => ?_) (fun h => ?_)
    · walk_at "dl"
      exact hF fun e => h (e.even r hr)
    · walk_at "dl"
      exact hN h _ ⟨_, _, rfl⟩
  · rintro he g' ⟨o2, o3, rfl⟩
    unfold Web.t
    walk_at "dl"
    rw [List.length_map]
    refine ⟨by omega, ?_⟩
    refine lcP (List.range w.places.length) (fun k => W.t (natT k)) (fun _ => true) (fun p => T.bl (partB w xs p)) (by rw [Int.toNat_natCast, rgW0]; rfl) (by rw [List.length_range]; exact lineLe (by omega)) trivial ?_ rfl ?_
    · intro p hp Y N3 hY hN3
      have hpl := List.mem_range.mp hp
      unfold natT
      walk_at "dl"
      refine ⟨w, p, xs, rfl, hok, hpl, hl, hpos, fun h => ?_, fun h => ?_⟩
      · walk_at "dl"
        have := hY rfl
        rw [partB_t h] at this
        exact this _ rfl
      · walk_at "dl"
        have := hY rfl
        rw [partB_f h] at this
        exact this _ rfl
    rw [List.filter_eq_self.mpr (fun _ _ => rfl)]
    walk_at "dl"
    refine i_notIn (x := .bl false) (us := (List.range w.places.length).map fun p => T.bl (partB w xs p)) rfl rfl (fun t ht => by obtain ⟨_, _, rfl⟩ := List.mem_map.mp ht; rfl) ?_
    by_cases hr : RightC w xs
    · have e : inT (.bl false) ((List.range w.places.length).map fun p => T.bl (partB w xs p)) = false := by
        unfold inT
        rw [List.any_eq_false]
        intro t ht
        obtain ⟨p, hp, rfl⟩ := List.mem_map.mp ht
        rw [partB_t ⟨hr.beg p (List.mem_range.mp hp), hr.hang p (List.mem_range.mp hp)⟩]
        decide
      rw [e]
      exact hT hr
    · have e : inT (.bl false) ((List.range w.places.length).map fun p => T.bl (partB w xs p)) = true := by
        unfold inT
        rw [List.any_eq_true]
        refine Classical.byContradiction fun hn => hr (rightC_iff hl hpos he fun p hp => ?_)
        refine Classical.byContradiction fun hp2 => hn ⟨_, List.mem_map.mpr ⟨p, hp, rfl⟩, ?_⟩
        rw [partB_f hp2]
        decide
      rw [e]
      exact hF hr
/-! a round of rows; numbers changed -/
theorem fromP_ne {w : Web} (hok : w.Ok) {p : Nat} (hp : p < w.places.length) {x : Int} (h0 : 0 ≤ x) (h1 : x < w.place p) (hx : x ≠ 1) : w.fromP p x ≠ [] := by
  have h := ((hok.2.2.2 p hp).1 x h0 h1).2
  intro e
  have key : ∀ x y : Int, Reach (w.edges p true) x y → x = y ∨ w.fromP p y ≠ [] := fun x y h => by
    induction h with
    | refl => exact .inl rfl
    | step _ he _ =>
      refine .inr fun z => ?_
      unfold Web.edges at he
      obtain ⟨k, hk, ek⟩ := List.mem_map.mp he
      obtain ⟨k1, k2⟩ := mem_rowsOf.mp hk
      have e2 : w.edge true k = ((w.row k).e, (w.row k).s) := rfl
      rw [e2] at ek
      have e3 := (Prod.mk.inj ek).2
      have : k ∈ w.fromP p _ := mem_fromP.mpr ⟨k1, k2, e3⟩
      rw [z] at this
      cases this
  rcases key _ _ h with z | z
  · exact hx z.symm
  · exact z e
theorem in_upTo {ks : List Int} {n : Nat} (nd : ks.Nodup) (h : ∀ x ∈ ks, 0 ≤ x ∧ x < (n : Int)) : ks.length ≤ n := by
  have := nd.length_le_of_subset (l₂ := (List.range n).map fun j : Nat => (j : Int)) fun x hx => List.mem_map.mpr ⟨x.toNat, List.mem_range.mpr (by have := h x hx; omega), by have := h x hx; omega⟩
  rwa [List.length_map, List.length_range] at this
def C__law_round : SC := fun ws m QC => ∃ (w : Web) (a f : Int) (k : Nat), ws = [.t w.t, .h 0] ∧ m = [leftC a f k] ∧ LeftOk a f ∧ k ≤ 1000 ∧ w.Ok ∧
  ∀ (ks : List Nat) (a' : Int) (k' : Nat), (∀ j ∈ ks, j < w.rows.length) → ks.length ≤ 16 → LeftOk a' f → k' ≤ k + 20 → QC (.t (.lst (ks.map natT))) [leftC a' f k'] []
theorem ln__law_round : ∀ ws m Q, C__law_round ws m Q → ws.length = ["a", "b"].length := by rintro ws m Q ⟨_, _, _, _, rfl, _⟩; rfl
def rd__law_round : DSt :=
  dSeq (dAsg (dCallS C__law_draw (dCons (dVar 1) (dCons (dN fLen (dCons (d2 fIx (dVar 0) (dC (.int 0))) (dNil))) (dNil)))) (dgN 2))
  (dSeq (dAsg (dCallS C__law_draw (dCons (dVar 1) (dCons (d2 fIx (d2 fIx (dVar 0) (dC (.int 0))) (dVar 2)) (dNil)))) (dgN 3))
  (dSeq (dAsg (dLstH (dNil)) (dgN 4))
  (dSeq (dAsg (dLstH (dNil)) (dgN 5))
  (dSeq (dWhile (dAnd (dB (d2 (fEq true) (dVar 3) (dC (.int 1)))) (dB (d2 (fIn true) (dVar 3) (dVar 5)))) (dSeq (dDrop (dM fAppend (dVar 5) (dCons (dVar 3) (dNil))))
  (dSeq (dAsg (dLc finT (diR1 (dCons (dN fLen (dCons (d2 fIx (dVar 0) (dC (.int 1))) (dNil))) (dNil))) (dgN 7) (dB (d2 (fEq false) (dSlT (d2 fIx (d2 fIx (dVar 0) (dC (.int 1))) (dVar 7)) (dNoPart) (dPart (dC (.int 2)))) (dTup (dCons (dVar 2) (dCons (dVar 3) (dNil)))))) (dVar 7) [7]) (dgN 6))
  (dSeq (dDrop (dM fAppend (dVar 4) (dCons (d2 fIx (dVar 6) (dCallS C__law_draw (dCons (dVar 1) (dCons (dN fLen (dCons (dVar 6) (dNil))) (dNil))))) (dNil))))
  (dAsg (d2 fIx (d2 fIx (d2 fIx (dVar 0) (dC (.int 1))) (d2 fIx (dVar 4) (d1 fNeg (dC (.int 1))))) (dC (.int 2))) (dgN 3))))))
  (dSeq (dIfS (dB (d2 (fEq false) (dVar 3) (dC (.int 1)))) (dRet (dLst (dNil))) (dNext))
  (dRet (dSl (dVar 4) (dPart (dM fIndex (dVar 5) (dCons (dVar 3) (dNil)))) (dNoPart))))))))

theorem rp__law_round : ∀ ws m QC, C__law_round ws m QC → rd__law_round ⟨FinS m.length QC (.t .non), FinS m.length QC, fun _ => False, fun _ => False⟩ ⟨ws.map some ++ List.replicate (8 - ws.length) none, m.map some⟩ := by
  rintro ws m QC ⟨w, a, f, k, rfl, rfl, hL, hk, hok, hQ⟩
  have hok1 := hok.1
  unfold rd__law_round Web.t
  walk_at "dl"
  rw [List.length_map]
  refine callS_draw0 (k := k) hL (by omega) (by omega) (by omega) fun p a1 p0 p1 hL1 => ?_
  obtain ⟨p, rfl⟩ := toI p0
  have hp : p < w.places.length := by omega
  have hpv := hok.2.1 _ (place_mem hp)
  have pa := place_at (w := w) (i := (p : Int)) (by omega) (by omega)
  walk_at "dl"
  refine callS_draw0 (k := k + 1) hL1 (by omega) (by omega) (by omega) fun x a2 x0 x1 hL2 => ?_
  walk_at "dl"
  refine ⟨by decide, ?_⟩
  walk_at "dl"
  refine ⟨by decide, ?_⟩
  walk_at "dl"
  refine ⟨fun n g' => ∃ (ks : List Nat) (met : List Int) (y a3 : Int) (k3 : Nat) (o6 : Option W), g' = ⟨[some (.t w.t), some (.h 0), some (.t (.int (p : Nat))), some (.t (.int y)), some (.h 1), some (.h 2), o6, none], [some (leftC a3 f k3), some (.lt (ks.map natT)), some (.lt (met.map T.int))]⟩ ∧
    met.Nodup ∧ (∀ z ∈ met, 0 ≤ z ∧ z < w.place p) ∧ 0 ≤ y ∧ y < w.place p ∧ LeftOk a3 f ∧ k3 = k + 2 + ks.length ∧ ks.length = met.length ∧ (∀ j ∈ ks, j < w.rows.length) ∧ n = 100 - met.length, ⟨_, [], [], x, a2, k + 2, none, rfl, List.nodup_nil, by simp, x0, x1, hL2, rfl, rfl, by simp, rfl⟩, ?_⟩
  rintro n g' ⟨ks, met, y, a3, k3, o6, rfl, hnd, hin, y0, y1, hL3, hk3, hkm, hks, rfl⟩
  obtain ⟨pn, hpn⟩ := toI (i := w.place p) (by omega)
  have hml : met.length ≤ pn := in_upTo hnd fun z hz => by have := hin z hz; omega
  unfold Web.t
  walk_at "dl"
  refine k_n (fun h => ?_) (fun h => ?_)
  · walk_at "dl"
    refine i_ninI rfl ?_
    walk_at "dl"
    refine k_n (fun h2 => ?_) (fun h2 => ?_)
    · have hfl := fromP_len w p y
      have hne := fromP_ne hok hp y0 y1 h
      walk_at "dl"
      refine ⟨isL_lt rfl, ?_⟩
      walk_at "dl"
      refine i_append (us := met.map T.int) rfl (lineLt (by rw [List.length_map]; omega)) ?_
      walk_at "dl"
      rw [List.length_map]
      refine ⟨by omega, ?_⟩
      refine lcP (List.range w.rows.length) (fun k => W.t (natT k)) (fun k => decide ((w.row k).p = p) && decide ((w.row k).s = y)) natT (by rw [Int.toNat_natCast, rgW0]; rfl) (by rw [List.length_range]; exact lineLe (by omega)) trivial ?_ rfl ?_
      · intro k hk Y N2 hY hN2
        have hk' : k < w.rows.length := by simpa using hk
        have hr := row_at hk'
        unfold natT Row.t at *
        walk_at "dl"
        refine o_cutT (by show ¬ (HT.sIx 4 0 none = 0 ∧ HT.sIx 4 4 (some 2) = 4); decide) ?_
        have ec : DL.cut [T.int (w.row k).p, T.int (w.row k).s, T.int (w.row k).e, T.int (w.row k).c] none (some 2) = [T.int (w.row k).p, T.int (w.row k).s] := cut_hi2 _ 2
        rw [ec]
        walk_at "dl"
        refine ⟨by decide, ?_⟩
        refine i_eqT (u := .tup [.int (w.row k).p, .int (w.row k).s]) (v := .tup [.int p, .int y]) rfl rfl rfl rfl ?_
        rw [teq_pair]
        cases e : (decide ((w.row k).p = (p : Int)) && decide ((w.row k).s = y)) with
        | true =>
          walk_at "dl"
          exact hY e _ rfl
        | false =>
          walk_at "dl"
          exact hN2 e _ rfl
      rw [show (List.range w.rows.length).filter (fun k => decide ((w.row k).p = (p : Int)) && decide ((w.row k).s = y)) = w.fromP p y from rfl]
      walk_at "dl"
      refine ⟨isL_lt rfl, ?_⟩
      walk_at "dl"
      rw [List.length_map]
      have hlp : 0 < (w.fromP p y).length := List.length_pos_iff.mpr hne
      refine callS_draw0 (k := k3) hL3 (by omega) (by omega) (by omega) fun j a4 j0 j1 hL4 => ?_
      obtain ⟨j, rfl⟩ := toI j0
      obtain ⟨l, hl⟩ := getLt (xs := w.fromP p y) (j := j) (by omega)
      have hla : atI ((w.fromP p y).map natT) (j : Int) = some (natT l) := atI_map natT (atI_nat hl)
      obtain ⟨l1, l2, l3⟩ := mem_fromP.mp (List.mem_of_getElem? hl)
      have hro := hok.2.2.1 _ (row_mem l1)
      unfold Web.rowOk at hro
      rw [l2] at hro
      have hrow := row_at l1
      walk_at "dl"
      refine' i_append (us := ks.map natT) ?ea ?la ?_
      case ea => rfl
      case la => exact lineLt (by rw [List.length_map]; omega)
      simp only [G.put, List.set_cons_succ, List.set_cons_zero]
      rw [show ks.map natT ++ [natT l] = (ks ++ [l]).map natT by rw [List.map_append]; rfl]
      have hlast : atI ((ks ++ [l]).map natT) (-1) = some (.int l) := by rw [List.map_append]; exact atI_last _ _
      unfold Row.t at hrow
      walk_at "dl"
      refine ⟨100 - (met ++ [y]).length, by rw [List.length_append, List.length_singleton]; omega, ks ++ [l], met ++ [y], (w.row l).e, a4, k3 + 1, some (.t (.lst ((w.fromP p y).map natT))), ?_, ?_, ?_, by omega, by omega, hL4, by rw [List.length_append, List.length_singleton]; omega, by rw [List.length_append, List.length_append, hkm]; rfl, ?_, rfl⟩
      · rw [List.map_append (l₁ := met)]
        rfl
      · exact List.nodup_append.mpr ⟨hnd, by simp, fun a ha b hb z => h2 (by rw [← (show b = y by simpa using hb), ← z]; exact ha)⟩
      · intro z hz
        rcases List.mem_append.mp hz with q | q
        · exact hin z q
        · rw [show z = y by simpa using q]
          exact ⟨y0, y1⟩
      · intro i hi
        rcases List.mem_append.mp hi with q | q
        · exact hks i q
        · rw [show i = l by simpa using q]
          exact l1
    · walk_at "dl"
      refine k_dF h ?_
      walk_at "dl"
      refine ⟨isL_lt rfl, ?_⟩
      walk_at "dl"
      obtain ⟨j, hj⟩ := List.getElem?_of_mem h2
      have hjl := (List.getElem?_eq_some_iff.mp hj).1
      refine i_index (ns := met) (j := j) rfl hj (fun m hm z => ?_) ?_
      · have h3 := List.getElem?_eq_some_iff.mp z
        have h4 := List.getElem?_eq_some_iff.mp hj
        exact List.pairwise_iff_getElem.mp hnd m j h3.1 h4.1 hm (by rw [h3.2, h4.2])
      walk_at "dl"
      refine o_cut rfl ?_
      rw [cut_lo2 _ _ (by rw [List.length_map]; omega), ← List.map_drop]
      exact fin_one rfl (hQ _ a3 k3 (fun i hi => hks i (List.mem_of_mem_drop hi)) (by rw [List.length_drop]; omega) hL3 (by omega))
  · walk_at "dl"
    refine k_dT h ?_
    walk_at "dl"
    refine ⟨by decide, ?_⟩
    exact fin_one rfl (hQ [] a3 k3 (by simp) (by simp) hL3 (by omega))
/-! numbers changed -/
theorem fin_t0 {QC : W → List Cell → List Cell → Prop} {x : T} {c : Cell} {sl : List (Option W)} {mem : Sto} (em : mem[0]? = some (some c)) (hp : c.plain = true) (q : QC (.t x) [c] []) : FinS 1 QC (.t x) ⟨sl, mem⟩ := by
  refine fin_s [] [c] [] (.t x) (by decide) ?_ rfl rfl rfl ?_ q
  · intro j hj
    have : j = 0 := by simpa using hj
    subst this
    exact (List.getElem?_eq_some_iff.mp em).1
  · intro i c' e
    match i, e with
    | 0, e => cases e; exact ⟨0, _, rfl, up_plain hp _, em⟩
    | i + 1, e => simp at e
theorem bx_of {xs : List Int} (h : ∀ z ∈ xs, -15000 ≤ z ∧ z ≤ 15000) : Bx xs := getD_all (P := fun z => -15000 ≤ z ∧ z ≤ 15000) (by decide) h
theorem sml_mem {B : Int} {xs : List Int} (h : Sml B xs) : ∀ z ∈ xs, 0 ≤ z ∧ z ≤ B := fun z hz => by
  obtain ⟨j, e⟩ := getD_mem0 hz
  have := h j
  rw [e] at this
  exact this
theorem sml_of {B : Int} {xs : List Int} (hB : 0 ≤ B) (h : ∀ z ∈ xs, 0 ≤ z ∧ z ≤ B) : Sml B xs := getD_all (P := fun z => 0 ≤ z ∧ z ≤ B) ⟨Int.le_refl 0, hB⟩ h
theorem callS_rnd {w : Web} {a f : Int} {k : Nat} {sl : List (Option W)} {mem : Sto} {Q : W → G → Prop} (em : mem[0]? = some (some (leftC a f k))) (hL : LeftOk a f) (hk : k ≤ 1000) (hok : w.Ok)
    (h : ∀ (ks : List Nat) (a' : Int) (k' : Nat), (∀ j ∈ ks, j < w.rows.length) → ks.length ≤ 16 → LeftOk a' f → k' ≤ k + 20 → Q (.t (.lst (ks.map natT))) ⟨sl, mem.set 0 (some (leftC a' f k'))⟩) : callS C__law_round [.t w.t, .h 0] ⟨sl, mem⟩ Q := by
  refine ⟨[0], [leftC a f k], [.t w.t, .h 0], by simp, rfl, rfl, fun i c e => ?_, w, a, f, k, rfl, rfl, hL, hk, hok, fun ks a' k' h1 h2 h3 h4 => ⟨.t (.lst (ks.map natT)), [leftC a' f k'], [], rfl, rfl, rfl, ?_⟩⟩
  · match i, e with
    | 0, e => cases e; exact ⟨0, _, rfl, rfl, em⟩
    | i + 1, e => simp at e
  · show Q _ ⟨sl, mem.set 0 (some (leftC a' f k')) ++ []⟩
    rw [List.append_nil]
    exact h ks a' k' h1 h2 h3 h4
def C__law_changed : SC := fun ws m QC => ∃ (w : Web) (xs : List Int) (a f : Int) (k : Nat), ws = [.t w.t, .t (.lst (xs.map T.int)), .h 0] ∧ m = [leftC a f k] ∧ LeftOk a f ∧ k ≤ 100 ∧ w.Ok ∧ xs.length = w.rows.length + w.places.length ∧ Sml 7300 xs ∧
  ∀ (ys : List Int) (a' : Int) (k' : Nat), Bx ys → ys.length ≤ 100 → QC (.t (.lst (ys.map T.int))) [leftC a' f k'] []
theorem ln__law_changed : ∀ ws m Q, C__law_changed ws m Q → ws.length = ["a", "b", "c"].length := by rintro ws m Q ⟨_, _, _, _, _, rfl, _⟩; rfl
def rd__law_changed : DSt :=
  dSeq (dAsg (dCallS C__law_draw (dCons (dVar 2) (dCons (dC (.int 9)) (dNil)))) (dgN 3))
  (dSeq (dAsg (dCallS C__law_draw (dCons (dVar 2) (dCons (dN fLen (dCons (dVar 1) (dNil))) (dNil)))) (dgN 4))
  (dSeq (dAsg (dN fListOfH (dCons (dVar 1) (dNil))) (dgN 5))
  (dSeq (dIfS (dB (d2 (fI0 fun i j => .bl (decide (i < j))) (dVar 3) (dC (.int 5)))) (dAsg (d2 fIx (dLst (dCons (d2 fAdd (d2 fIx (dVar 5) (dVar 4)) (dC (.int 1))) (dCons (d2 (fI0 fun i j => .int (i - j)) (d2 fIx (dVar 5) (dVar 4)) (dC (.int 1))) (dCons (dC (.int 0)) (dCons (d1 fNeg (dC (.int 1))) (dCons (d2 (fI IntMulOk fun i j => .int (i * j)) (dC (.int 2)) (d2 fIx (dVar 5) (dVar 4))) (dNil))))))) (dVar 3)) (dgSub (dVar 5) (dVar 4))) (dNext))
  (dSeq (dIfS (dB (d2 (fEq false) (dVar 3) (dC (.int 5)))) (dAsg (dLc finH (diL (dVar 1)) (dgN 8) (dYes) (d2 (fI IntMulOk fun i j => .int (i * j)) (dC (.int 2)) (dVar 8)) [8]) (dgN 5)) (dNext))
  (dSeq (dIfS (dB (d2 (fEq false) (dVar 3) (dC (.int 6)))) (dAsg (d2 fRepH (dLst (dCons (dC (.int 0)) (dNil))) (dN fLen (dCons (dVar 1) (dNil)))) (dgN 5)) (dNext))
  (dSeq (dIfS (dB (d2 (fEq false) (dVar 3) (dC (.int 7)))) (dAsg (d2 fIx (dLst (dCons (dSl (dVar 1) (dNoPart) (dPart (d1 fNeg (dC (.int 1))))) (dCons (d2 fAdd (dVar 1) (dLst (dCons (dC (.int 0)) (dNil)))) (dNil)))) (d2 (fI (fun _ j => j ≠ 0) fun i j => .int (i.fmod j)) (dVar 4) (dC (.int 2)))) (dgN 5)) (dNext))
  (dSeq (dIfS (dB (d2 (fEq false) (dVar 3) (dC (.int 8)))) (dFor (diR1 (dCons (d2 fAdd (dC (.int 1)) (d2 (fI (fun _ j => j ≠ 0) fun i j => .int (i.fmod j)) (dVar 4) (dC (.int 3)))) (dNil))) (dgN 6) (dFor (diL (dCallS C__law_round (dCons (dVar 0) (dCons (dVar 2) (dNil))))) (dgN 7) (dSeq (dAsg (d2 fAdd (d2 fIx (dVar 5) (dVar 7)) (dC (.int 1))) (dgSub (dVar 5) (dVar 7)))
  (dIfS (dB (d2 (fI0 fun i j => .bl (decide (j ≤ i))) (d2 fIx (d2 fIx (d2 fIx (dVar 0) (dC (.int 1))) (dVar 7)) (dC (.int 3))) (dC (.int 0)))) (dAsg (d2 fAddH (dSl (dVar 5) (dNoPart) (dPart (dN fLen (dCons (d2 fIx (dVar 0) (dC (.int 1))) (dNil))))) (d2 fRep (dLst (dCons (dC (.int 99)) (dNil))) (dN fLen (dCons (d2 fIx (dVar 0) (dC (.int 0))) (dNil))))) (dgN 5)) (dNext))))) (dNext))
  (dRet (dFrz 5)))))))))

theorem rp__law_changed : ∀ ws m QC, C__law_changed ws m QC → rd__law_changed ⟨FinS m.length QC (.t .non), FinS m.length QC, fun _ => False, fun _ => False⟩ ⟨ws.map some ++ List.replicate (9 - ws.length) none, m.map some⟩ := by
  rintro ws m QC ⟨w, xs, a, f, k, rfl, rfl, hL, hk, hok, hxl, hsm, hQ⟩
  have hok1 := hok.1
  have hmem := sml_mem hsm
  unfold rd__law_changed
  walk_at "dl"
  refine callS_draw0 (k := k) hL (by omega) (by omega) (by omega) fun r a1 r0 r1 hL1 => ?_
  walk_at "dl"
  rw [List.length_map]
  refine callS_draw0 (k := k + 1) hL1 (by omega) (by omega) (by omega) fun at0 a2 t0 t1 hL2 => ?_
  obtain ⟨t, rfl⟩ := toI t0
  have hat := int_at (xs := xs) (j := t) (by omega)
  have htb := hsm t
  walk_at "dl"
  refine i_listOfH (us := xs.map T.int) rfl ?_
  walk_at "dl"
  refine k_d (fun h => ?_) (fun h => ?_)
  · have pick : ∃ v : Int, -1 ≤ v ∧ v ≤ 14600 ∧ atI [T.int (xs.getD t 0 + 1), T.int (xs.getD t 0 - 1), T.int 0, T.int (-1), T.int (2 * xs.getD t 0)] r = some (.int v) := by
      rcases (show r = 0 ∨ r = 1 ∨ r = 2 ∨ r = 3 ∨ r = 4 by omega) with e | e | e | e | e <;> rw [e]
      · exact ⟨xs.getD t 0 + 1, by omega, by omega, rfl⟩
      · exact ⟨xs.getD t 0 - 1, by omega, by omega, rfl⟩
      · exact ⟨0, by omega, by omega, rfl⟩
      · exact ⟨-1, by omega, by omega, rfl⟩
      · exact ⟨2 * xs.getD t 0, by omega, by omega, rfl⟩
    obtain ⟨v, v1, v2, hv⟩ := pick
    walk_at "dl"
    refine i_fI (mulR (by omega) (by omega)) ?_
    walk_at "dl"
    refine ⟨by decide, ?_⟩
    walk_at "dl"
    refine o_put (us := xs.map T.int) rfl (ixN_nat (by rw [List.length_map]; omega)) ?_
    rw [show (xs.map T.int).set t (T.int v) = (xs.set t v).map T.int by rw [List.map_set]]
    walk_at "dl"
    refine k_dF (by omega) ?_
    walk_at "dl"
    refine k_dF (by omega) ?_
    walk_at "dl"
    refine k_dF (by omega) ?_
    walk_at "dl"
    refine k_dF (by omega) ?_
    walk_at "dl"
    refine fin_t0 rfl rfl (hQ (xs.set t v) a2 (k + 1 + 1) (bx_of fun z hz => ?_) (by rw [List.length_set]; omega))
    rcases List.mem_or_eq_of_mem_set hz with q | q
    · have := hmem z q; omega
    · omega
  rcases (show r = 5 ∨ r = 6 ∨ r = 7 ∨ r = 8 by omega) with e | e | e | e <;> subst e
  · walk_at "dl"
    refine k_dT (by decide) ?_
    walk_at "dl"
    refine lcP xs (fun z => W.t (.int z)) (fun _ => true) (fun z => T.int (2 * z)) (by rw [List.map_map]; rfl) (lineLe (by omega)) rfl ?_ rfl ?_
    · intro z hz Y N3 hY hN3
      have := hmem z hz
      walk_at "dl"
      refine i_fI (mulR (by omega) (by omega)) ?_
      exact hY rfl _ rfl
    rw [List.filter_eq_self.mpr (fun _ _ => rfl), show (xs.map fun z => T.int (2 * z)) = (xs.map fun z => 2 * z).map T.int by rw [List.map_map]; rfl]
    walk_at "dl"
    refine k_dF (by decide) ?_
    walk_at "dl"
    refine k_dF (by decide) ?_
    walk_at "dl"
    refine k_dF (by decide) ?_
    walk_at "dl"
    refine fin_t0 rfl rfl (hQ (xs.map fun z => 2 * z) a2 (k + 1 + 1) (bx_of fun z hz => ?_) (by rw [List.length_map]; omega))
    obtain ⟨y, hy, rfl⟩ := List.mem_map.mp hz
    have := hmem y hy
    omega
  · walk_at "dl"
    refine k_dF (by decide) ?_
    walk_at "dl"
    refine k_dT (by decide) ?_
    walk_at "dl"
    refine ⟨by decide, ?_⟩
    walk_at "dl"
    rw [List.length_map]
    refine i_repH (xs := [T.int 0]) rfl ⟨by omega, by omega, Nat.le_of_lt (lineLt (by simp; omega))⟩ ?_
    rw [Int.toNat_natCast, show (List.replicate xs.length [T.int 0]).flatten = (List.replicate xs.length (0 : Int)).map T.int by rw [List.flatten_replicate_singleton, List.map_replicate]]
    walk_at "dl"
    refine k_dF (by decide) ?_
    walk_at "dl"
    refine k_dF (by decide) ?_
    walk_at "dl"
    refine fin_t0 rfl rfl (hQ (List.replicate xs.length 0) a2 (k + 1 + 1) (bx_of fun z hz => ?_) (by rw [List.length_replicate]; omega))
    rw [List.eq_of_mem_replicate hz]
    decide
  · walk_at "dl"
    refine k_dF (by decide) ?_
    walk_at "dl"
    refine k_dF (by decide) ?_
    walk_at "dl"
    refine k_dT (by decide) ?_
    walk_at "dl"
    have ecut : DL.cut (xs.map T.int) none (some (-1)) = xs.dropLast.map T.int := by
      rcases List.eq_nil_or_concat xs with e | ⟨ini, z, e⟩
      · rw [e] at hxl; simp at hxl; omega
      · rw [e, List.concat_eq_append, List.map_append, List.dropLast_concat]
        exact cut_m1 _ _
    refine o_cut rfl ?_
    rw [ecut]
    walk_at "dl"
    refine ⟨by decide, ?_⟩
    refine i_addL (xs := xs.map T.int) (ys := [T.int 0]) rfl rfl (Nat.le_of_lt (lineLt (by rw [List.length_map, List.length_singleton]; omega))) ?_
    walk_at "dl"
    refine ⟨by decide, ?_⟩
    walk_at "dl"
    refine i_fI (by decide) ?_
    have pick : ∃ ys : List Int, (∀ z ∈ ys, -15000 ≤ z ∧ z ≤ 15000) ∧ ys.length ≤ 100 ∧ atI [T.lst (xs.dropLast.map T.int), T.lst (xs.map T.int ++ [T.int 0])] ((t : Int).fmod 2) = some (.lst (ys.map T.int)) := by
      have hm : (t : Int).fmod 2 = 0 ∨ (t : Int).fmod 2 = 1 := by rw [Int.fmod_eq_emod_of_nonneg _ (by decide)]; omega
      rcases hm with e | e <;> rw [e]
      · exact ⟨xs.dropLast, fun z hz => by have := hmem z (List.dropLast_subset _ hz); omega, by rw [List.length_dropLast]; omega, rfl⟩
      · refine ⟨xs ++ [0], fun z hz => ?_, by rw [List.length_append, List.length_singleton]; omega, by rw [List.map_append]; rfl⟩
        rcases List.mem_append.mp hz with q | q
        · have := hmem z q; omega
        · rw [show z = 0 by simpa using q]; decide
    obtain ⟨ys, hy1, hy2, hy3⟩ := pick
    walk_at "dl"
    refine k_dF (by decide) ?_
    walk_at "dl"
    exact fin_t0 rfl rfl (hQ ys a2 (k + 1 + 1) (bx_of hy1) hy2)
  · walk_at "dl"
    refine k_dF (by decide) ?_
    walk_at "dl"
    refine k_dF (by decide) ?_
    walk_at "dl"
    refine k_dF (by decide) ?_
    walk_at "dl"
    refine k_dT (by decide) ?_
    walk_at "dl"
    refine i_fI (by decide) ?_
    obtain ⟨tn, htn, htn3⟩ : ∃ tn : Nat, (t : Int).fmod 3 = (tn : Nat) ∧ tn ≤ 2 := by
      rw [Int.fmod_eq_emod_of_nonneg _ (by decide)]
      exact ⟨((t : Int) % 3).toNat, by omega, by omega⟩
    rw [htn]
    walk_at "dl"
    refine ⟨by omega, ?_⟩
    refine forG (List.range (1 + tn)) (fun k => W.t (natT k)) (fun pre g' => ∃ (ys : List Int) (n : Nat) (mem : Sto) (a3 : Int) (k3 : Nat) (o6 o7 : Option W), g' = ⟨[some (.t w.t), some (.t (.lst (xs.map T.int))), some (.h 0), some (.t (.int 8)), some (.t (.int (t : Nat))), some (.h n), o6, o7, none], mem⟩ ∧
        mem[0]? = some (some (leftC a3 f k3)) ∧ mem[n]? = some (some (.lt (ys.map T.int))) ∧ n ≠ 0 ∧ ys.length = xs.length ∧ Sml (7300 + 16 * (pre.length : Nat)) ys ∧ LeftOk a3 f ∧ k3 ≤ k + 2 + 20 * pre.length)
      (by rw [show ((1 : Int) + (tn : Nat)).toNat = 1 + tn by omega, rgW0]; rfl) ⟨xs, 1, _, a2, k + 1 + 1, none, none, rfl, rfl, rfl, by decide, rfl, by simpa using hsm, hL2, by simp⟩ (fun _ _ _ => by trivial) ?_ ?_
    · rintro pre j post hsp g' ⟨ys, n, mem, a3, k3, o6, o7, rfl, em0, emn, hn, hyl, hys, hL3, hk3⟩ N hN
      have hprl : pre.length ≤ 2 := by
        have := congrArg List.length hsp
        rw [List.length_append, List.length_cons, List.length_range] at this
        omega
      unfold natT
      walk_at "dl"
      refine callS_rnd em0 hL3 (by omega) hok fun ks a4 k4 hks hkl hL4 hk4 => ?_
      have em0' : (mem.set 0 (some (leftC a4 f k4)))[0]? = some (some (leftC a4 f k4)) := List.getElem?_set_self (List.getElem?_eq_some_iff.mp em0).1
      have emn' : (mem.set 0 (some (leftC a4 f k4)))[n]? = some (some (.lt (ys.map T.int))) := by rw [List.getElem?_set_ne (fun z => hn z.symm)]; exact emn
      generalize mem.set 0 (some (leftC a4 f k4)) = mem1 at em0' emn'
      walk_at "dl"
      refine forG ks (fun k => W.t (natT k)) (fun pre2 g' => ∃ (ys : List Int) (n : Nat) (mem : Sto) (o7 : Option W), g' = ⟨[some (.t w.t), some (.t (.lst (xs.map T.int))), some (.h 0), some (.t (.int 8)), some (.t (.int (t : Nat))), some (.h n), some (.t (.int (j : Nat))), o7, none], mem⟩ ∧
          mem[0]? = some (some (leftC a4 f k4)) ∧ mem[n]? = some (some (.lt (ys.map T.int))) ∧ n ≠ 0 ∧ ys.length = xs.length ∧ Sml (7300 + 16 * (pre.length : Nat) + (pre2.length : Nat)) ys)
        (by rw [List.map_map]; rfl) ⟨ys, n, mem1, o7, rfl, em0', emn', hn, hyl, by simpa using hys⟩ (fun _ _ _ => by trivial) ?_ ?_
      · rintro pre2 l post2 hsp2 g' ⟨zs, n2, mem2, p7, rfl, e0, en, hn2, hzl, hzs⟩ N2 hN2
        have hl := hks l (by rw [hsp2]; simp)
        have hrow := row_at hl
        have hat2 := int_at (xs := zs) (j := l) (by omega)
        have hpl2 : pre2.length ≤ 16 := by
          have := congrArg List.length hsp2
          rw [List.length_append, List.length_cons] at this
          omega
        have hsi := sml_inc hzs l
        have hpe : 7300 + 16 * (pre.length : Int) + ((pre2 ++ [l]).length : Nat) = 7300 + 16 * (pre.length : Int) + (pre2.length : Nat) + 1 := by rw [List.length_append, List.length_singleton]; omega
        rw [hpe] at hN2
        have hil := incA_len zs l
        unfold natT Row.t at *
        walk_at "dl"
        refine i_incA en (by omega) ?_
        simp only [G.put]
        have e0' : (mem2.set n2 (some (.lt ((incA zs l).map T.int))))[0]? = some (some (leftC a4 f k4)) := by rw [List.getElem?_set_ne hn2]; exact e0
        have en' : (mem2.set n2 (some (.lt ((incA zs l).map T.int))))[n2]? = some (some (.lt ((incA zs l).map T.int))) := List.getElem?_set_self (List.getElem?_eq_some_iff.mp en).1
        generalize mem2.set n2 (some (.lt ((incA zs l).map T.int))) = mem3 at e0' en'
        walk_at "dl"
        refine k_d (fun hc => ?_) (fun hc => ?_)
        · walk_at "dl"
          refine o_cut (lq_h en') ?_
          rw [cut_hi2]
          walk_at "dl"
          refine ⟨by decide, ?_⟩
          walk_at "dl"
          rw [List.length_map, List.length_map]
          refine i_rep (xs := [T.int 99]) rfl ⟨by omega, by omega, Nat.le_of_lt (lineLt (by simp; omega))⟩ ?_
          rw [Int.toNat_natCast, show (List.replicate w.places.length [T.int 99]).flatten = (List.replicate w.places.length (99 : Int)).map T.int by rw [List.flatten_replicate_singleton, List.map_replicate], ← List.map_take]
          refine i_addHL (xs := ((incA zs l).take w.rows.length).map T.int) (ys := (List.replicate w.places.length (99 : Int)).map T.int) rfl rfl (Nat.le_of_lt (lineLt (by rw [List.length_map, List.length_map, List.length_take, List.length_replicate]; omega))) ?_
          rw [← List.map_append]
          walk_at "dl"
          have hn3 : mem3.length ≠ 0 := by have := (List.getElem?_eq_some_iff.mp e0').1; omega
          refine hN2 _ ⟨(incA zs l).take w.rows.length ++ List.replicate w.places.length 99, mem3.length, _, some (.t (.int (l : Nat))), rfl, at_more e0', at_last, hn3, by rw [List.length_append, List.length_take, List.length_replicate]; omega, sml_of (by omega) fun z hz => ?_⟩
          rcases List.mem_append.mp hz with q | q
          · exact sml_mem hsi z (List.mem_of_mem_take q)
          · rw [List.eq_of_mem_replicate q]
            omega
        · walk_at "dl"
          exact hN2 _ ⟨incA zs l, n2, mem3, _, rfl, e0', en', hn2, by omega, hsi⟩
      · rintro g' ⟨zs, n2, mem2, p7, rfl, e0, en, hn2, hzl, hzs⟩
        refine hN _ ⟨zs, n2, mem2, a4, k4, _, _, rfl, e0, en, hn2, hzl, sml_le hzs ?_, hL4, ?_⟩
        · rw [List.length_append, List.length_singleton]
          omega
        · rw [List.length_append, List.length_singleton]
          omega
    · rintro g' ⟨ys, n, mem, a3, k3, o6, o7, rfl, em0, emn, hn, hyl, hys, hL3, hk3⟩
      rw [List.length_range] at hys
      walk_at "dl"
      refine i_frzH rfl emn rfl ?_
      refine fin_t0 (c := leftC a3 f k3) ?_ rfl (hQ ys a3 k3 (bx_of fun z hz => ?_) (by omega))
      · show (mem.set n none)[0]? = _
        rw [List.getElem?_set_ne hn]
        exact em0
      · have := sml_mem hys z hz
        omega
/-! the law of heaps of counts -/
theorem tally_some {w : Web} : ∀ (bs as : List (List Int)) (xs : List Int), tally w as = some xs → (∀ r ∈ bs, stk w r = some []) → ∃ ys, tally w (as ++ bs) = some ys := by
  intro bs
  induction bs with
  | nil => intro as xs e _; exact ⟨xs, by rw [List.append_nil]; exact e⟩
  | cons b bs ih =>
    intro as xs e h
    rw [show as ++ b :: bs = (as ++ [b]) ++ bs by simp]
    refine ih (as ++ [b]) (tlyR w xs b) ?_ fun r hr => h r (List.mem_cons_of_mem _ hr)
    rw [tally_snoc, e]
    show (if stk w b = some [] then some (tlyR w xs b) else none) = _
    rw [if_pos (h b (by simp))]
theorem tyN_hw {g : G} {n : Nat} {us : List W} (em : g.mem[n]? = some (some (.lw us))) : g.tyN (.h n) = some "list" := by unfold G.tyN; dsimp only; rw [em]
theorem treeD_hl {sl : List (Option W)} {mem : Sto} {hs : List Nat} {rs : List (List Int)} {n : Nat} (em : mem[n]? = some (some (Cell.lw (hs.map W.h)))) (hh : HL mem hs rs) : (⟨sl, mem⟩ : G).treeD 6 (.h n) = some (hT rs) := by
  have e : (hs.map W.h).map ((⟨sl, mem⟩ : G).treeD 5) = (rs.map runT).map some := by
    refine List.ext_getElem? fun i => ?_
    rw [List.getElem?_map, List.getElem?_map, List.getElem?_map, List.getElem?_map]
    cases e1 : hs[i]? with
    | none =>
      rw [List.getElem?_eq_none (by rw [← hh.len]; exact List.getElem?_eq_none_iff.mp e1)]
      rfl
    | some h =>
      obtain ⟨r, e2, e3⟩ := hh.val i h e1
      rw [e2]
      show some ((⟨sl, mem⟩ : G).treeD 5 (.h h)) = some (some (runT r))
      unfold G.treeD
      dsimp only
      rw [e3]
      rfl
  unfold G.treeD
  dsimp only
  rw [em]
  dsimp only
  rw [e, allS_map]
  rfl
theorem lcG {g1 : G} {gt : DGt} {te : Dt} {vs : List Nat} {fin : Fin3} {Q : W → G → Prop} {ws : List W} {St : G → Prop} {ι : Type} (items : List ι) (enc : ι → W) (R : List ι → List T → G → Prop) (hws : ws = items.map enc) (hlen : items.length ≤ sizeLine) (hSt : ∀ g', St g') (h0 : R [] [] (g1.wipe vs))
    (hel : ∀ pre x post, items = pre ++ x :: post → ∀ us g', R pre us g' → ∀ (Y : W → G → Prop) (N : G → Prop), (∀ u g4, R (pre ++ [x]) (us ++ [u]) (g4.wipe vs) → Y (.t u) g4) → gt (enc x) g' fun g2 => dYes g2 fun b g3 => if b = true then te g3 Y else N g3)
    (hQ : ∀ us g', us.length = items.length → R items us g' → fin (us.map W.t) (g'.rs g1 vs) Q) : lcI fin ws St g1 gt dYes te vs Q := by
  subst hws
  refine ⟨fun i acc g' => ∃ us : List T, acc = us.map W.t ∧ us.length = i ∧ i ≤ items.length ∧ R (items.take i) us g', ⟨[], rfl, rfl, Nat.zero_le _, h0⟩, ?_, ?_, by simpa using hlen, ?_⟩
  · rintro i acc g' ⟨us, rfl, hl, _, _⟩
    exact ⟨hSt _, by rw [List.length_map]; omega⟩
  · rintro i acc w g' hw ⟨us, rfl, hl, hi, hR⟩
    rw [List.getElem?_map] at hw
    cases e : items[i]? with
    | none => rw [e] at hw; cases hw
    | some x =>
      rw [e] at hw
      cases hw
      have hi2 := (List.getElem?_eq_some_iff.mp e).1
      have hx : items[i] = x := (List.getElem?_eq_some_iff.mp e).2
      have hsp : items = items.take i ++ x :: items.drop (i + 1) := by
        rw [← hx, List.getElem_cons_drop, List.take_append_drop]
      refine hel _ x _ hsp us g' hR _ _ fun u g4 h4 => ⟨us ++ [u], by rw [List.map_append]; rfl, by rw [List.length_append, hl]; rfl, hi2, ?_⟩
      rw [List.take_add_one, e]
      exact h4
  · rintro acc g' ⟨us, rfl, hl, _, hR⟩
    rw [List.length_map] at hl hR
    rw [List.take_length] at hR
    exact hQ us g' hl hR
theorem teq_two (w : Web) (ks : List Int) : teq (.lst [w.t, .lst (ks.map T.int)]) (.lst [w.t, .lst (ks.map T.int)]) = true := teq_lst fun t ht => by
  have : t = w.t ∨ t = .lst (ks.map T.int) := by simpa using ht
  rcases this with rfl | rfl
  · exact teq_web w
  · exact teq_ints ks
theorem sh_two (w : Web) (ks : List Int) : (T.lst [w.t, .lst (ks.map T.int)]).sh 8 = true := by
  show [w.t, T.lst (ks.map T.int)].all (T.sh 7) = true
  rw [List.all_cons, List.all_cons, List.all_nil, sh_web w 4, sh_ints 6 ks]
  rfl

theorem len_count {w : Web} {r : List Int} (h : ∀ k ∈ r, 0 ≤ k ∧ k < w.rows.length) : r.length = ((List.range w.rows.length).map fun k : Nat => r.count (k : Int)).sum := by
  induction r with
  | nil => exact (sumN_nil fun k _ => rfl).symm
  | cons k r ih =>
    obtain ⟨k0, k1⟩ := h k (by simp)
    obtain ⟨n, rfl⟩ := toI k0
    rw [List.length_cons, ih fun j hj => h j (by simp [hj])]
    have e := sum_updN (f := fun j : Nat => ((n : Int) :: r).count (j : Int)) (g := fun j : Nat => r.count (j : Int)) (d := 1) (k := n) (fun j hj => by
      rw [count_cast, if_neg (show ¬ n = j from fun z => hj z.symm), Nat.zero_add]) (by
      rw [count_cast, if_pos rfl]
      omega) (List.nodup_range (n := w.rows.length)) (List.mem_range.mpr (by omega))
    rw [e]
theorem sumN_le {α : Type} {f : α → Nat} {B : Nat} : ∀ {l : List α}, (∀ x ∈ l, f x ≤ B) → (l.map f).sum ≤ B * l.length
  | [], _ => Nat.le_refl _
  | x :: l, h => by
    have h1 := h x (by simp)
    have h2 := sumN_le (l := l) fun y hy => h y (List.mem_cons_of_mem _ hy)
    rw [List.map_cons, List.sum_cons, List.length_cons, Nat.mul_succ]
    omega
theorem run_short {w : Web} (hok : w.Ok) {xs : List Int} (hb : Bx xs) {heap : List (List Int)} (e : tally w heap = some xs) (hst : ∀ r ∈ heap, stk w r = some []) : ∀ r ∈ heap, r.length ≤ 1000000 := fun r hr => by
  have hok1 := hok.1
  obtain ⟨zs, b1, b2, b3, b4⟩ := tally_getD hok heap [] _ rfl (by rw [List.length_replicate]) hst
  rw [List.nil_append, e] at b1
  cases b1
  rw [len_count (stk_rng (hst r hr))]
  have h := sumN_le (f := fun k : Nat => r.count (k : Int)) (B := 15000) (l := List.range w.rows.length) fun k hk => by
    have h1 := b3 k (List.mem_range.mp hk)
    have h2 := hb k
    have h3 : (List.replicate (w.rows.length + w.places.length) (0 : Int)).getD k 0 = 0 := by
      rw [List.getD_eq_getElem?_getD, List.getElem?_replicate]
      split <;> rfl
    rw [h3] at h1
    have h4 : r.count (k : Int) ≤ (heap.map fun r => r.count (k : Int)).sum := by
      obtain ⟨i, hi⟩ := List.getElem?_of_mem hr
      clear h1 h2 h3 b3 b4 b2 e hst hr
      induction heap generalizing i with
      | nil => simp at hi
      | cons a heap ih =>
        rw [List.map_cons, List.sum_cons]
        cases i with
        | zero => cases hi; omega
        | succ i => have := ih i (by simpa using hi); omega
    omega
  rw [List.length_range] at h
  omega
theorem callS_chg {w : Web} {xs : List Int} {a f : Int} {j : Nat} {sl : List (Option W)} {mem : Sto} {Q : W → G → Prop} (em : mem[j]? = some (some (leftC a f 0))) (hL : LeftOk a f) (hok : w.Ok) (hl : xs.length = w.rows.length + w.places.length) (hs : Sml 7300 xs)
    (h : ∀ (ys : List Int) (c : Cell), Bx ys → ys.length ≤ 100 → Q (.t (.lst (ys.map T.int))) ⟨sl, mem.set j (some c)⟩) : callS C__law_changed [.t w.t, .t (.lst (xs.map T.int)), .h j] ⟨sl, mem⟩ Q := by
  refine ⟨[j], [leftC a f 0], [.t w.t, .t (.lst (xs.map T.int)), .h 0], by simp, rfl, rfl, fun i c e => ?_, w, xs, a, f, 0, rfl, rfl, hL, by omega, hok, hl, hs, fun ys a' k' h1 h2 => ⟨.t (.lst (ys.map T.int)), [leftC a' f k'], [], rfl, rfl, rfl, ?_⟩⟩
  · match i, e with
    | 0, e => cases e; exact ⟨j, _, rfl, rfl, em⟩
    | i + 1, e => simp at e
  · show Q _ ⟨sl, mem.set j (some (leftC a' f k')) ++ []⟩
    rw [List.append_nil]
    exact h ys _ h1 h2
theorem teq_bl2 (a b : Bool) : teq (.bl a) (.bl b) = decide (a = b) := by cases a <;> cases b <;> simp [teq, T.pd, PyData.eqv]
def rd_law : DSt :=
  dSeq (dAsg (d2 fIx (dLst (dCons (dTup (dCons (dC (.int 4)) (dCons (dC (.int 5)) (dNil)))) (dCons (dTup (dCons (dC (.int 1)) (dCons (dC (.int 14)) (dNil)))) (dNil)))) (dCallS C__law_draw (dCons (dCallH C__law_left (dCons (dVar 0) (dCons (dC (.int 5)) (dNil)))) (dCons (dC (.int 2)) (dNil))))) (dgTup 2 (dgCons (dgN 1) (dgCons (dgN 2) (dgNil)))))
  (dSeq (dAsg (dCallS C__law_web (dCons (dVar 0) (dCons (dVar 1) (dCons (dVar 2) (dNil))))) (dgN 3))
  (dSeq (dAsg (dCallT C__law_tally (dCons (dVar 3) (dCons (dCallT C__law_heap (dCons (dVar 0) (dCons (dC (.int 6)) (dCons (dVar 3) (dCons (dC (.int 4)) (dCons (dC (.int 25)) (dNil))))))) (dNil)))) (dgN 4))
  (dSeq (dAsg (d2 fAdd (dLst (dCons (dVar 4) (dNil))) (dLc finT (diR2 (dCons (dC (.int 11)) (dCons (dC (.int 30)) (dNil)))) (dgN 13) (dYes) (dCallS C__law_changed (dCons (dVar 3) (dCons (dVar 4) (dCons (dCallH C__law_left (dCons (dVar 0) (dCons (dVar 13) (dNil)))) (dNil))))) [13])) (dgN 5))
  (dSeq (dFor (diL (dVar 5)) (dgN 6) (dSeq (dAsg (dLst (dCons (dCallT C__law_copy (dCons (dVar 3) (dNil))) (dCons (dN fListOf (dCons (dVar 6) (dNil))) (dNil)))) (dgN 7))
  (dSeq (dAsg (dCallT C__law_are_counts (dCons (dVar 3) (dCons (dVar 6) (dNil)))) (dgN 8))
  (dSeq (dAsg (dCallT C_are_counts (dCons (d2 fIx (dVar 7) (dC (.int 0))) (dCons (d2 fIx (dVar 7) (dC (.int 1))) (dNil)))) (dgN 9))
  (dSeq (dIfS (dOr (dNot (dB (dN fIsi (dCons (dVar 9) (dCons (dC (.raw (.ty "bool"))) (dNil)))))) (dB (d2 (fEq true) (dVar 9) (dVar 8)))) (dRet (dC (.bl false))) (dNext))
  (dSeq (dIfS (dB (dVar 8)) (dFor (diR1 (dCons (dC (.int 2)) (dNil))) (dgN 10) (dSeq (dAsg (dCallS C_heap_of (dCons (d2 fIx (dVar 7) (dC (.int 0))) (dCons (d2 fIx (dVar 7) (dC (.int 1))) (dNil)))) (dgN 11))
  (dSeq (dIfS (dOr (dNot (dB (dN fIsi (dCons (dVar 11) (dCons (dC (.raw (.ty "list"))) (dNil)))))) (dB (d2 (fEq true) (dCallF C__law_tally (dCons (dVar 3) (dCons (dVar 11) (dNil)))) (dVar 6)))) (dRet (dC (.bl false))) (dNext))
  (dSeq (dFor (diL (dVar 11)) (dgN 12) (dDrop (dM fAppend (dVar 12) (dCons (d1 fNeg (dC (.int 1))) (dNil)))))
  (dDrop (dM fAppend (dVar 11) (dCons (dLst (dNil)) (dNil)))))))) (dIfS (dNot (dB (dCallT C__law_refused (dCons (d2 fIx (dVar 7) (dC (.int 0))) (dCons (d2 fIx (dVar 7) (dC (.int 1))) (dNil)))))) (dRet (dC (.bl false))) (dNext)))
  (dIfS (dB (d2 (fEq true) (dVar 7) (dLst (dCons (dVar 3) (dCons (dVar 6) (dNil)))))) (dRet (dC (.bl false))) (dNext))))))))
  (dRet (dC (.bl true)))))))

theorem rp_law : ∀ ws m QC, C_law ws m QC → rd_law ⟨FinS m.length QC (.t .non), FinS m.length QC, fun _ => False, fun _ => False⟩ ⟨ws.map some ++ List.replicate (14 - ws.length) none, m.map some⟩ := by
  rintro ws m QC ⟨ns, rfl, rfl, hns, hbits, hQ⟩
  unfold rd_law
  walk_at "dl"
  refine ⟨by decide, ?_⟩
  walk_at "dl"
  refine ⟨by decide, ?_⟩
  walk_at "dl"
  refine ⟨by decide, ?_⟩
  walk_at "dl"
  refine ⟨ns, 5, rfl, hbits, fun a f hL => ?_⟩
  walk_at "dl"
  refine callS_draw0 (k := 0) hL (by omega) (by omega) (by omega) fun r a1 r0 r1 hL1 => ?_
  have pick : ∃ pm most : Nat, 1 ≤ pm ∧ pm ≤ 4 ∧ most ≤ 14 ∧ pm * (most + 1) ≤ 60 ∧ atI [T.tup [T.int 4, T.int 5], T.tup [T.int 1, T.int 14]] r = some (.tup [.int pm, .int most]) := by
    rcases (show r = 0 ∨ r = 1 by omega) with e | e <;> rw [e]
    · exact ⟨4, 5, by omega, by omega, by omega, by omega, atI_nat (j := 0) rfl⟩
    · exact ⟨1, 14, by omega, by omega, by omega, by omega, atI_nat (j := 1) rfl⟩
  obtain ⟨pm, most, p1, p2, p3, p4, ep⟩ := pick
  walk_at "dl"
  refine callS_web2 (pm := pm) (most := most) hbits p1 p2 p3 p4 fun w hok hpl => ?_
  have hok1 := hok.1
  walk_at "dl"
  refine ⟨ns, 6, 4, 25, w, rfl, hbits, hok, by omega, by omega, fun heap0 hhl hhr => ?_⟩
  have hpok0 : HpOk heap0 := ⟨by omega, fun r hr => by have := hhr r hr; omega⟩
  walk_at "dl"
  obtain ⟨xs, hxs⟩ := tally_some (w := w) heap0 [] _ rfl fun r hr => (hhr r hr).1
  rw [List.nil_append] at hxs
  refine ⟨w, heap0, rfl, hok, hpok0, fun e => (by rw [hxs] at e; cases e), fun ys e => ?_⟩
  rw [hxs] at e
  cases e
  have hxl := tally_len hxs
  have hsm0 : Sml (0 + 1801 * heap0.length) xs := tally_small (w := w) heap0 [] 0 _ xs rfl (fun j => by
    rw [List.getD_eq_getElem?_getD, List.getElem?_replicate]
    split <;> exact ⟨Int.le_refl _, Int.le_refl _⟩) (fun r hr => (hhr r hr).2) (by rw [List.nil_append]; exact hxs)
  have hsm : Sml 7300 xs := sml_le hsm0 (by omega)
  walk_at "dl"
  refine ⟨by decide, ?_⟩
  walk_at "dl"
  refine ⟨⟨by decide, by decide, by decide, by decide⟩, ?_⟩
  refine lcG (List.range 19) (fun k => W.t (.int (11 + (k : Nat)))) (fun _ us g' => ∃ (mem : Sto) (yss : List (List Int)), g' = ⟨[some (.t (.sq (ns.map T.int))), some (.t (.int pm)), some (.t (.int most)), some (.t w.t), some (.t (.lst (xs.map T.int))), none, none, none, none, none, none, none, none, none], mem⟩ ∧ us = yss.map (fun ys => T.lst (ys.map T.int)) ∧ ∀ ys ∈ yss, Bx ys ∧ ys.length ≤ 100)
    rfl (by rw [List.length_range]; exact lineLe (by omega)) (fun _ => by trivial) ⟨_, [], rfl, rfl, by simp⟩ ?_ ?_
  · rintro pre k post hsp us g' ⟨mem, yss, rfl, rfl, hys⟩ Y N hY
    walk_at "dl"
    refine ⟨ns, 11 + k, by rw [Int.natCast_add]; rfl, hbits, fun a2 f2 hL2 => ?_⟩
    walk_at "dl"
    refine callS_chg at_last hL2 hok hxl hsm fun ys c hy1 hy2 => ?_
    refine hY _ _ ⟨_, yss ++ [ys], rfl, by rw [List.map_append]; rfl, fun z hz => ?_⟩
    rcases List.mem_append.mp hz with q | q
    · exact hys z q
    · rw [show z = ys by simpa using q]
      exact ⟨hy1, hy2⟩
  rintro us g' hul ⟨mem, yss, rfl, rfl, hys⟩
  rw [List.length_map, List.length_range] at hul
  walk_at "dl"
  refine i_addL (xs := [T.lst (xs.map T.int)]) (ys := yss.map fun ys => T.lst (ys.map T.int)) rfl rfl (lineLe (by rw [List.length_map, List.length_singleton]; omega)) ?_
  rw [show [T.lst (xs.map T.int)] ++ yss.map (fun ys => T.lst (ys.map T.int)) = (xs :: yss).map fun ys => T.lst (ys.map T.int) from rfl]
  have hall : ∀ ys ∈ xs :: yss, Bx ys ∧ ys.length ≤ 100 := fun ys hy => by
    rcases List.mem_cons.mp hy with q | q
    · rw [q]
      exact ⟨fun j => by have := hsm j; omega, by omega⟩
    · exact hys ys q
  generalize (xs :: yss : List (List Int)) = listed at hall
  walk_at "dl"
  refine forG listed (fun ys => W.t (.lst (ys.map T.int))) (fun _ g' => ∃ (o6 o7 o8 o9 o10 o11 o12 : Option W) (mem : Sto), g' = ⟨[some (.t (.sq (ns.map T.int))), some (.t (.int pm)), some (.t (.int most)), some (.t w.t), some (.t (.lst (xs.map T.int))), some (.t (.lst (listed.map fun ys => T.lst (ys.map T.int)))), o6, o7, o8, o9, o10, o11, o12, none], mem⟩)
    (by rw [List.map_map]; rfl) ⟨_, _, _, _, _, _, _, _, rfl⟩ (fun _ _ _ => by trivial) ?_ ?_
  · rintro pre ys post hsp g' ⟨o6, o7, o8, o9, o10, o11, o12, mem, rfl⟩ N hN
    obtain ⟨hb, hyl⟩ := hall ys (by rw [hsp]; simp)
    walk_at "dl"
    refine ⟨w, rfl, ?_⟩
    walk_at "dl"
    refine i_listOf (us := ys.map T.int) rfl ?_
    walk_at "dl"
    refine ⟨by decide, ?_⟩
    walk_at "dl"
    refine ⟨w, ys, rfl, hok, by omega, hb, fun hr => ?_, fun hr => ?_⟩
    · walk_at "dl"
      refine ⟨w, ys, rfl, hok, by omega, hb, fun _ => ?_, fun z => absurd hr z⟩
      walk_at "dl"
      refine i_isi (a := "bool") (b := true) rfl rfl ?_
      walk_at "dl"
      rw [Bool.not_true]
      walk_at "dl"
      refine i_neT (u := .bl true) (v := .bl true) rfl rfl rfl rfl ?_
      rw [teq_bl2, decide_eq_true rfl, Bool.not_true]
      walk_at "dl"
      refine ⟨by decide, ?_⟩
      refine forG (List.range 2) (fun k => W.t (natT k)) (fun _ g' => ∃ (o10 o11 o12 : Option W) (mem : Sto), g' = ⟨[some (.t (.sq (ns.map T.int))), some (.t (.int pm)), some (.t (.int most)), some (.t w.t), some (.t (.lst (xs.map T.int))), some (.t (.lst (listed.map fun ys => T.lst (ys.map T.int)))), some (.t (.lst (ys.map T.int))), some (.t (.lst [w.t, .lst (ys.map T.int)])), some (.t (.bl true)), some (.t (.bl true)), o10, o11, o12, none], mem⟩)
        (by rw [show (2 : Int).toNat = 2 from rfl, rgW0]; rfl) ⟨_, _, _, _, rfl⟩ (fun _ _ _ => by trivial) ?_ ?_
      · rintro pre2 k post2 hsp2 g' ⟨o10, o11, o12, mem, rfl⟩ N2 hN2
        unfold natT
        walk_at "dl"
        refine callS_hlP (P := fun heap => tally w heap = some ys ∧ heap.length = nN ys w.rows.length ∧ ∀ r ∈ heap, stk w r = some []) rfl (fun QC h => ⟨w, ys, rfl, rfl, hok, hr, hb, h⟩) fun heap hp => ?_
        obtain ⟨ht, hhl2, hst⟩ := hp
        have hshort := run_short hok hb ht hst
        have hhb : heap.length ≤ 15000 := by
          have := hb w.rows.length
          rw [hhl2]
          unfold nN
          omega
        have hpok : HpOk heap := ⟨by omega, hshort⟩
        obtain ⟨em, hh⟩ := hl_new mem heap
        generalize (mem ++ (heap.map lC ++ [Cell.lw ((List.range heap.length).map fun j => W.h (mem.length + j))]).map some) = mem1 at em hh
        generalize mem.length + heap.length = nn at em
        generalize (List.range heap.length).map (mem.length + ·) = hs at em hh
        have hhl := hh.len
        walk_at "dl"
        refine i_isi (a := "list") (b := true) (tyN_hw em) rfl ?_
        walk_at "dl"
        rw [Bool.not_true]
        walk_at "dl"
        refine i_callF ?_
        walk_at "dl"
        refine o_nest (us := [w.t, hT heap]) (by
          show allS [some w.t, G.treeD _ 6 (.h nn)] = _
          rw [treeD_hl em hh]
          rfl) ?_
        refine ⟨w, heap, rfl, hok, hpok, fun e => (by rw [ht] at e; cases e), fun zs e => ?_⟩
        rw [ht] at e
        cases e
        refine o_flH (isFlat_ints _) ?_
        simp only [G.push]
        have en : (mem1 ++ [some (Cell.lt (ys.map T.int))])[mem1.length]? = some (some (.lt (ys.map T.int))) := at_last
        have em2 : (mem1 ++ [some (Cell.lt (ys.map T.int))])[nn]? = some (some (Cell.lw (hs.map W.h))) := at_more em
        have hh2 : HL (mem1 ++ [some (Cell.lt (ys.map T.int))]) hs heap := hh.grow
        generalize (mem1 ++ [some (Cell.lt (ys.map T.int))]) = mem2 at en em2 hh2
        generalize mem1.length = nl at en
        walk_at "dl"
        refine i_neT (u := .lst (ys.map T.int)) (v := .lst (ys.map T.int)) (tree_h en) rfl (sh_ints 7 ys) (sh_ints 7 ys) ?_
        rw [teq_ints, Bool.not_true]
        walk_at "dl"
        refine o_LqW (lq_hw em2) (wseq_h em2) ?_
        refine forG hs W.h (fun pre3 g' => ∃ (o12 : Option W) (mem3 : Sto), g' = ⟨[some (.t (.sq (ns.map T.int))), some (.t (.int pm)), some (.t (.int most)), some (.t w.t), some (.t (.lst (xs.map T.int))), some (.t (.lst (listed.map fun ys => T.lst (ys.map T.int)))), some (.t (.lst (ys.map T.int))), some (.t (.lst [w.t, .lst (ys.map T.int)])), some (.t (.bl true)), some (.t (.bl true)), some (.t (.int (k : Nat))), some (.h nn), o12, none], mem3⟩ ∧ mem3[nn]? = some (some (Cell.lw (hs.map W.h))) ∧ ∀ i h : Nat, pre3.length ≤ i → hs[i]? = some h → ∃ r : List Int, heap[i]? = some r ∧ mem3[h]? = some (some (Cell.lt (r.map T.int))))
          rfl ⟨_, _, rfl, em2, fun i h _ e => hh2.val i h e⟩ ?_ ?_ ?_
        · rintro _ _ ⟨_, _, rfl, e1, _⟩
          exact wseq_h e1
        · rintro pre3 h post3 hsp3 g2 ⟨p12, mem3, rfl, em3, hv3⟩ N3 hN3
          have hat : hs[pre3.length]? = some h := by rw [hsp3, List.getElem?_append_right (Nat.le_refl _), Nat.sub_self]; rfl
          obtain ⟨r, er, el⟩ := hv3 _ h (Nat.le_refl _) hat
          have hrl := hshort r (List.mem_of_getElem? er)
          walk_at "dl"
          refine ⟨isL_lt el, ?_⟩
          walk_at "dl"
          refine i_append el (lineBig (by rw [List.length_map]; omega)) ?_
          simp only [G.put]
          have hnn : nn ≠ h := fun z => by subst z; rw [em3] at el; cases el
          refine hN3 _ ⟨_, _, rfl, ?_, fun i h' hi e => ?_⟩
          · rw [List.getElem?_set_ne (fun z => hnn z.symm)]
            exact em3
          · rw [List.length_append, List.length_singleton] at hi
            obtain ⟨r', e1, e2⟩ := hv3 i h' (by omega) e
            refine ⟨r', e1, ?_⟩
            rw [List.getElem?_set_ne (fun z => ?_)]
            · exact e2
            · subst z
              have h1 := (List.getElem?_eq_some_iff.mp hat)
              have h2 := (List.getElem?_eq_some_iff.mp e)
              exact List.pairwise_iff_getElem.mp hh.nd pre3.length i h1.1 h2.1 (by omega) (by rw [h1.2, h2.2])
        · rintro g2 ⟨p12, mem3, rfl, em3, _⟩
          walk_at "dl"
          refine ⟨isL_lw em3, ?_⟩
          walk_at "dl"
          refine ⟨by decide, ?_⟩
          walk_at "dl"
          refine i_appendW (us := hs.map W.h) em3 (lineBig (by rw [List.length_map]; omega)) ?_
          exact hN2 _ ⟨_, _, _, _, rfl⟩
      · rintro g' ⟨o10, o11, o12, mem, rfl⟩
        walk_at "dl"
        refine ⟨by decide, ?_⟩
        refine i_neT (u := .lst [w.t, .lst (ys.map T.int)]) (v := .lst [w.t, .lst (ys.map T.int)]) rfl rfl (sh_two w ys) (sh_two w ys) ?_
        rw [teq_two, Bool.not_true]
        walk_at "dl"
        exact hN _ ⟨_, _, _, _, _, _, _, _, rfl⟩
    · walk_at "dl"
      refine ⟨w, ys, rfl, hok, by omega, hb, fun z => absurd z hr, fun _ => ?_⟩
      walk_at "dl"
      refine i_isi (a := "bool") (b := true) rfl rfl ?_
      walk_at "dl"
      rw [Bool.not_true]
      walk_at "dl"
      refine i_neT (u := .bl false) (v := .bl false) rfl rfl rfl rfl ?_
      rw [teq_bl2, decide_eq_true rfl, Bool.not_true]
      walk_at "dl"
      refine ⟨w, ys, rfl, hok, by omega, hb, hr, ?_⟩
      walk_at "dl"
      rw [Bool.not_true]
      walk_at "dl"
      refine ⟨by decide, ?_⟩
      refine i_neT (u := .lst [w.t, .lst (ys.map T.int)]) (v := .lst [w.t, .lst (ys.map T.int)]) rfl rfl (sh_two w ys) (sh_two w ys) ?_
      rw [teq_two, Bool.not_true]
      walk_at "dl"
      exact hN _ ⟨_, _, _, _, _, _, _, _, rfl⟩
  · rintro g' ⟨o6, o7, o8, o9, o10, o11, o12, mem, rfl⟩
    walk_at "dl"
    exact fin_true hQ
end DL

namespace DL
open PySem PySem.Spec PyProof.Rows L2
def topS (i : Nat) : Stmt := PySem.Challenge.pw_fewcounters_k06_whole_heaps_of_counts.main.body.getD i (.Pass ⟨0, 0, 0, 0⟩)
structure Mi (mg : Str → Option Value) : Prop where
  h_set : mg "set" = none
  m_MOST_PLACES : ∃ tk : Tok, mg "MOST_PLACES" = some (.int 16 tk)
  m_MOST_PARTS : ∃ tk : Tok, mg "MOST_PARTS" = some (.int 4 tk)
  m_MOST_ROWS : ∃ tk : Tok, mg "MOST_ROWS" = some (.int 60 tk)
abbrev s__law_mix : Stmt := topS 29
theorem sc__law_mix : FnScope ["_law_number", "_law_k", "_law_mixed"] ["_law_number", "_law_k"] (defScope s__law_mix) := ⟨rfl, rfl, rfl, by decide +kernel, rfl, by decide +kernel, by decide +kernel⟩
theorem kn__law_mix {P : Program} {w : World} {K : PySem.W.Frag} {mg : Str → Option Value} {base : Heap} {k : Nat} (B : Bi mg) (M : Mi mg) (O : Ow K mg "_law_mix" s__law_mix ["_law_number", "_law_k"])   : Kn P w K mg base (k + 1) "_law_mix" ["_law_number", "_law_k"] C__law_mix.s := by
  obtain ⟨f, fd, F, gm, bd⟩ := O.ex
  refine ⟨f, fd, pfn_ok F sc__law_mix ln__law_mix ?_, gm, F.kp, bd⟩
  intro cdv A outer s H E hr
  exact ⟨_, rd__law_mix, dss_cons (ds_set 2 sc__law_mix.nd (de_mod (de_mul (de_add (de_add (de_mul (de_var 0) (de_var 0)) (de_mul (de_var 1) (de_var 0))) (de_mul (de_mul (de_int) (de_var 1)) (de_var 1))) (de_int)) (de_int)))
  (dss_one (ds_ret (de_mod (de_mul (de_var 2) (de_var 2)) (de_int)))), rp__law_mix⟩

abbrev s__law_draw : Stmt := topS 32
theorem sc__law_draw : FnScope ["_law_left_here", "_law_base", "_law_mixed", "_law_digit"] ["_law_left_here", "_law_base"] (defScope s__law_draw) := ⟨rfl, rfl, rfl, by decide +kernel, rfl, by decide +kernel, by decide +kernel⟩
theorem kn__law_draw {P : Program} {w : World} {K : PySem.W.Frag} {mg : Str → Option Value} {base : Heap} {k : Nat} (B : Bi mg) (M : Mi mg) (O : Ow K mg "_law_draw" s__law_draw ["_law_left_here", "_law_base"]) (G__law_mix : Kn P w K mg base k "_law_mix" ["_law_number", "_law_k"] C__law_mix.s)  : Kn P w K mg base (k + 1) "_law_draw" ["_law_left_here", "_law_base"] C__law_draw := by
  obtain ⟨f, fd, F, gm, bd⟩ := O.ex
  obtain ⟨f__law_mix, fd__law_mix, ok__law_mix, mg__law_mix, kp__law_mix, bd__law_mix⟩ := G__law_mix.ex
  refine ⟨f, fd, dfn_ok F sc__law_draw ln__law_draw ?_, gm, F.kp, bd⟩
  intro cdv A outer s H E hr
  exact ⟨_, rd__law_draw, dss_cons (ds_asg (de_add (de_ix (de_var 0) (de_int)) (de_int)) (dg_sub (de_var 0) (de_int)))
  (dss_cons (ds_if (dt_eq hr (de_ix (de_var 0) (de_int)) (de_int)) (dss_cons (ds_set 2 sc__law_draw.nd (de_callT ok__law_mix hr mg__law_mix kp__law_mix bd__law_mix (da_cons (de_ix (de_var 0) (de_int)) (da_cons (de_ix (de_var 0) (de_int)) (da_nil)))))
  (dss_one (ds_ret (de_mod (de_mod (de_mul (de_var 2) (de_add (de_var 2) (de_int))) (de_int)) (de_var 1))))) (dss_nil))
  (dss_cons (ds_set 3 sc__law_draw.nd (de_mod (de_ix (de_var 0) (de_int)) (de_var 1)))
  (dss_cons (ds_asg (de_fdiv (de_ix (de_var 0) (de_int)) (de_var 1)) (dg_sub (de_var 0) (de_int)))
  (dss_one (ds_ret (de_var 3)))))), rp__law_draw⟩

abbrev s__law_cell_at : Stmt := topS 30
theorem sc__law_cell_at : FnScope ["_law_script", "_law_k"] ["_law_script", "_law_k"] (defScope s__law_cell_at) := ⟨rfl, rfl, rfl, by decide +kernel, rfl, by decide +kernel, by decide +kernel⟩
theorem kn__law_cell_at {P : Program} {w : World} {K : PySem.W.Frag} {mg : Str → Option Value} {base : Heap} {k : Nat} (B : Bi mg) (M : Mi mg) (O : Ow K mg "_law_cell_at" s__law_cell_at ["_law_script", "_law_k"])   : Kn P w K mg base (k + 1) "_law_cell_at" ["_law_script", "_law_k"] C__law_cell_at.s := by
  obtain ⟨f, fd, F, gm, bd⟩ := O.ex
  refine ⟨f, fd, pfn_ok F sc__law_cell_at ln__law_cell_at ?_, gm, F.kp, bd⟩
  intro cdv A outer s H E hr
  exact ⟨_, rd__law_cell_at, dss_cons (ds_if (dt_lt (de_var 1) (de_len B.h_len (da_cons (de_var 0) (da_nil)))) (dss_one (ds_ret (de_ix (de_var 0) (de_var 1)))) (dss_nil))
  (dss_one (ds_ret (de_int))), rp__law_cell_at⟩

abbrev s__law_left : Stmt := topS 31
theorem sc__law_left : FnScope ["_law_script", "_law_k", "_law_cell"] ["_law_script", "_law_k"] (defScope s__law_left) := ⟨rfl, rfl, rfl, by decide +kernel, rfl, by decide +kernel, by decide +kernel⟩
theorem kn__law_left {P : Program} {w : World} {K : PySem.W.Frag} {mg : Str → Option Value} {base : Heap} {k : Nat} (B : Bi mg) (M : Mi mg) (O : Ow K mg "_law_left" s__law_left ["_law_script", "_law_k"]) (G__law_cell_at : Kn P w K mg base k "_law_cell_at" ["_law_script", "_law_k"] C__law_cell_at.s)  : Kn P w K mg base (k + 1) "_law_left" ["_law_script", "_law_k"] C__law_left.s := by
  obtain ⟨f, fd, F, gm, bd⟩ := O.ex
  obtain ⟨f__law_cell_at, fd__law_cell_at, ok__law_cell_at, mg__law_cell_at, kp__law_cell_at, bd__law_cell_at⟩ := G__law_cell_at.ex
  refine ⟨f, fd, pfn_ok F sc__law_left ln__law_left ?_, gm, F.kp, bd⟩
  intro cdv A outer s H E hr
  exact ⟨_, rd__law_left, dss_cons (ds_set 2 sc__law_left.nd (de_callT ok__law_cell_at hr mg__law_cell_at kp__law_cell_at bd__law_cell_at (da_cons (de_var 0) (da_cons (de_var 1) (da_nil)))))
  (dss_cons (ds_if (dt_lt (de_var 2) (de_pow (de_int) (de_int))) (dss_one (ds_ret (de_lstH (da_cons (de_var 2) (da_cons (de_int) (da_cons (de_int) (da_nil))))))) (dss_nil))
  (dss_one (ds_ret (de_lstH (da_cons (de_sub (de_var 2) (de_pow (de_int) (de_int))) (da_cons (de_int) (da_cons (de_int) (da_nil)))))))), rp__law_left⟩

abbrev s__law_part : Stmt := topS 33
theorem sc__law_part : FnScope ["_law_left_here", "_law_most", "_law_many", "_law_ties", "_law_turn", "_law_at", "_law_new", "_law_start", "_law_a", "_law_b"] ["_law_left_here", "_law_most"] (defScope s__law_part) := ⟨rfl, rfl, rfl, by decide +kernel, rfl, by decide +kernel, by decide +kernel⟩
theorem kn__law_part {P : Program} {w : World} {K : PySem.W.Frag} {mg : Str → Option Value} {base : Heap} {k : Nat} (B : Bi mg) (M : Mi mg) (O : Ow K mg "_law_part" s__law_part ["_law_left_here", "_law_most"]) (G__law_draw : Kn P w K mg base k "_law_draw" ["_law_left_here", "_law_base"] C__law_draw)  : Kn P w K mg base (k + 1) "_law_part" ["_law_left_here", "_law_most"] C__law_part := by
  obtain ⟨f, fd, F, gm, bd⟩ := O.ex
  obtain ⟨f__law_draw, fd__law_draw, ok__law_draw, mg__law_draw, kp__law_draw, bd__law_draw⟩ := G__law_draw.ex
  refine ⟨f, fd, dfn_ok F sc__law_part ln__law_part ?_, gm, F.kp, bd⟩
  intro cdv A outer s H E hr
  exact ⟨_, rd__law_part, dss_cons (ds_set 2 sc__law_part.nd (de_int))
  (dss_cons (ds_set 3 sc__law_part.nd (de_lstH (da_cons (de_tup (da_cons (de_int) (da_cons (de_int) (da_nil)))) (da_nil))))
  (dss_cons (ds_for rfl (di_range1 B.h_range (da_cons (de_callS ok__law_draw hr mg__law_draw kp__law_draw bd__law_draw (da_cons (de_var 0) (da_cons (de_add (de_var 1) (de_int)) (da_nil)))) (da_nil))) (dg_name 4 sc__law_part.nd) (dss_one (ds_if (dt_eq hr (de_callS ok__law_draw hr mg__law_draw kp__law_draw bd__law_draw (da_cons (de_var 0) (da_cons (de_int) (da_nil)))) (de_int)) (dss_cons (ds_set 5 sc__law_part.nd (de_callS ok__law_draw hr mg__law_draw kp__law_draw bd__law_draw (da_cons (de_var 0) (da_cons (de_len B.h_len (da_cons (de_var 3) (da_nil))) (da_nil)))))
  (dss_cons (ds_set 6 sc__law_part.nd (de_add (de_int) (de_callS ok__law_draw hr mg__law_draw kp__law_draw bd__law_draw (da_cons (de_var 0) (da_cons (de_sub (de_var 2) (de_int)) (da_nil))))))
  (dss_cons (ds_setLcU 3 (fin := finH) (own := [("_law_a", 8), ("_law_b", 9)]) fin_H rfl sc__law_part.nd (di_list (de_var 3)) (blkOk_by (own := [("_law_a", 8), ("_law_b", 9)]) (N := ["_law_left_here", "_law_most", "_law_many", "_law_ties", "_law_turn", "_law_at", "_law_new", "_law_start", "_law_a", "_law_b"]) (sc := defScope s__law_part) (by decide +kernel)) (fun _ _ _ _ _ => ⟨_, cg_tup rfl (cgs_cons (cg_name 8 sc__law_part.nd) (cgs_cons (cg_name 9 sc__law_part.nd) (cgs_nil)))⟩) (fun _ _ _ _ _ => ⟨_, dts_nil⟩) (fun _ _ _ _ _ => ⟨_, de_tup (da_cons (de_add (de_var 8) (de_intOf B.h_int (da_cons (de_ge (de_var 8) (de_var 6)) (da_nil)))) (da_cons (de_add (de_var 9) (de_intOf B.h_int (da_cons (de_ge (de_var 9) (de_var 6)) (da_nil)))) (da_nil)))⟩) s)
  (dss_cons (ds_expr (de_append (de_var 3) (da_cons (de_tup (da_cons (de_var 6) (da_cons (de_ix (de_ix (de_var 3) (de_var 5)) (de_int)) (da_nil)))) (da_nil))))
  (dss_cons (ds_asg (de_tup (da_cons (de_ix (de_ix (de_var 3) (de_var 5)) (de_int)) (da_cons (de_var 6) (da_nil)))) (dg_sub (de_var 3) (de_var 5)))
  (dss_one (ds_set 2 sc__law_part.nd (de_add (de_var 2) (de_int))))))))) (dss_cons (ds_set 7 sc__law_part.nd (de_callS ok__law_draw hr mg__law_draw kp__law_draw bd__law_draw (da_cons (de_var 0) (da_cons (de_sub (de_var 2) (de_int)) (da_nil)))))
  (dss_one (ds_expr (de_append (de_var 3) (da_cons (de_tup (da_cons (de_add (de_var 7) (de_intOf B.h_int (da_cons (de_gt (de_var 7) (de_int)) (da_nil)))) (da_cons (de_callS ok__law_draw hr mg__law_draw kp__law_draw bd__law_draw (da_cons (de_var 0) (da_cons (de_var 2) (da_nil)))) (da_nil)))) (da_nil)))))))))
  (dss_one (ds_ret (de_tup (da_cons (de_var 2) (da_cons (de_frz 3) (da_nil)))))))), rp__law_part⟩

abbrev s__law_web : Stmt := topS 34
theorem sc__law_web : FnScope ["_law_script", "_law_parts_most", "_law_most", "_law_first", "_law_parts", "_law_places", "_law_rows", "_law_part_here", "_law_many", "_law_ties", "_law_some", "_law_start", "_law_end", "_law_row", "_law_later"] ["_law_script", "_law_parts_most", "_law_most"] (defScope s__law_web) := ⟨rfl, rfl, rfl, by decide +kernel, rfl, by decide +kernel, by decide +kernel⟩
theorem kn__law_web {P : Program} {w : World} {K : PySem.W.Frag} {mg : Str → Option Value} {base : Heap} {k : Nat} (B : Bi mg) (M : Mi mg) (O : Ow K mg "_law_web" s__law_web ["_law_script", "_law_parts_most", "_law_most"]) (G__law_left : Kn P w K mg base k "_law_left" ["_law_script", "_law_k"] C__law_left.s) (G__law_draw : Kn P w K mg base k "_law_draw" ["_law_left_here", "_law_base"] C__law_draw) (G__law_part : Kn P w K mg base k "_law_part" ["_law_left_here", "_law_most"] C__law_part)  : Kn P w K mg base (k + 1) "_law_web" ["_law_script", "_law_parts_most", "_law_most"] C__law_web := by
  obtain ⟨f, fd, F, gm, bd⟩ := O.ex
  obtain ⟨f__law_left, fd__law_left, ok__law_left, mg__law_left, kp__law_left, bd__law_left⟩ := G__law_left.ex
  obtain ⟨f__law_draw, fd__law_draw, ok__law_draw, mg__law_draw, kp__law_draw, bd__law_draw⟩ := G__law_draw.ex
  obtain ⟨f__law_part, fd__law_part, ok__law_part, mg__law_part, kp__law_part, bd__law_part⟩ := G__law_part.ex
  refine ⟨f, fd, dfn_ok F sc__law_web ln__law_web ?_, gm, F.kp, bd⟩
  intro cdv A outer s H E hr
  exact ⟨_, rd__law_web, dss_cons (ds_set 3 sc__law_web.nd (de_callH ok__law_left hr mg__law_left kp__law_left bd__law_left (da_cons (de_var 0) (da_cons (de_int) (da_nil)))))
  (dss_cons (ds_set 4 sc__law_web.nd (de_add (de_int) (de_callS ok__law_draw hr mg__law_draw kp__law_draw bd__law_draw (da_cons (de_var 3) (da_cons (de_var 1) (da_nil))))))
  (dss_cons (ds_set 5 sc__law_web.nd (de_lstH (da_nil)))
  (dss_cons (ds_set 6 sc__law_web.nd (de_lstW (da_nil)))
  (dss_cons (ds_for rfl (di_range1 B.h_range (da_cons (de_var 4) (da_nil))) (dg_name 7 sc__law_web.nd) (dss_cons (ds_asg (de_callS ok__law_part hr mg__law_part kp__law_part bd__law_part (da_cons (de_callH ok__law_left hr mg__law_left kp__law_left bd__law_left (da_cons (de_var 0) (da_cons (de_add (de_int) (de_var 7)) (da_nil)))) (da_cons (de_var 2) (da_nil)))) (dg_tup rfl (dgs_cons (dg_name 8 sc__law_web.nd) (dgs_cons (dg_name 9 sc__law_web.nd) (dgs_nil)))))
  (dss_cons (ds_expr (de_append (de_var 5) (da_cons (de_var 8) (da_nil))))
  (dss_cons (ds_if (dt_gt (de_var 7) (de_int)) (dss_cons (ds_setLcU 10 (fin := finW) (own := [("_law_row", 13)]) fin_W rfl sc__law_web.nd (di_list (de_var 6)) (blkOk_by (own := [("_law_row", 13)]) (N := ["_law_script", "_law_parts_most", "_law_most", "_law_first", "_law_parts", "_law_places", "_law_rows", "_law_part_here", "_law_many", "_law_ties", "_law_some", "_law_start", "_law_end", "_law_row", "_law_later"]) (sc := defScope s__law_web) (by decide +kernel)) (fun _ _ _ _ _ => ⟨_, cg_name 13 sc__law_web.nd⟩) (fun _ _ _ _ _ => ⟨_, dts_one (dt_eq hr (de_ix (de_var 13) (de_int)) (de_neg (de_int)))⟩) (fun _ _ _ _ _ => ⟨_, de_var 13⟩) s)
  (dss_one (ds_asg (de_var 7) (dg_sub (de_ix (de_var 10) (de_callS ok__law_draw hr mg__law_draw kp__law_draw bd__law_draw (da_cons (de_var 3) (da_cons (de_len B.h_len (da_cons (de_var 10) (da_nil))) (da_nil))))) (de_int))))) (dss_nil))
  (dss_one (ds_for rfl (di_list (de_var 9)) (dg_tup rfl (dgs_cons (dg_name 11 sc__law_web.nd) (dgs_cons (dg_name 12 sc__law_web.nd) (dgs_nil)))) (dss_one (ds_expr (de_insert (de_var 6) (da_cons (de_callS ok__law_draw hr mg__law_draw kp__law_draw bd__law_draw (da_cons (de_var 3) (da_cons (de_add (de_len B.h_len (da_cons (de_var 6) (da_nil))) (de_int)) (da_nil)))) (da_cons (de_lstH (da_cons (de_var 7) (da_cons (de_var 11) (da_cons (de_var 12) (da_cons (de_neg (de_int)) (da_nil)))))) (da_nil))))))))))))
  (dss_cons (ds_for rfl (di_list (de_var 6)) (dg_name 13 sc__law_web.nd) (dss_cons (ds_set 14 sc__law_web.nd (de_callS ok__law_draw hr mg__law_draw kp__law_draw bd__law_draw (da_cons (de_var 3) (da_cons (de_sub (de_var 4) (de_ix (de_var 13) (de_int))) (da_nil)))))
  (dss_one (ds_if (dt_w (dw_and (dt_eq hr (de_ix (de_var 13) (de_int)) (de_neg (de_int))) (dw_and1 (dt_gt (de_var 14) (de_int))))) (dss_one (ds_asg (de_add (de_ix (de_var 13) (de_int)) (de_var 14)) (dg_sub (de_var 13) (de_int)))) (dss_nil)))))
  (dss_one (ds_ret (de_tup (da_cons (de_frz 5) (da_cons (de_lcU (fin := finT) (own := [("_law_row", 13)]) fin_T rfl sc__law_web.nd (di_list (de_var 6)) (blkOk_by (own := [("_law_row", 13)]) (N := ["_law_script", "_law_parts_most", "_law_most", "_law_first", "_law_parts", "_law_places", "_law_rows", "_law_part_here", "_law_many", "_law_ties", "_law_some", "_law_start", "_law_end", "_law_row", "_law_later"]) (sc := defScope s__law_web) (by decide +kernel)) (fun _ _ _ _ _ => ⟨_, cg_name 13 sc__law_web.nd⟩) (fun _ _ _ _ _ => ⟨_, dts_nil⟩) (fun _ _ _ _ _ => ⟨_, de_tupOf B.h_tuple (da_cons (de_var 13) (da_nil))⟩) s) (da_nil))))))))))), rp__law_web⟩

abbrev s__law_stack : Stmt := topS 41
theorem sc__law_stack : FnScope ["_law_web_here", "_law_rows", "_law_stack_here", "_law_k"] ["_law_web_here", "_law_rows"] (defScope s__law_stack) := ⟨rfl, rfl, rfl, by decide +kernel, rfl, by decide +kernel, by decide +kernel⟩
theorem kn__law_stack {P : Program} {w : World} {K : PySem.W.Frag} {mg : Str → Option Value} {base : Heap} {k : Nat} (B : Bi mg) (M : Mi mg) (O : Ow K mg "_law_stack" s__law_stack ["_law_web_here", "_law_rows"])   : Kn P w K mg base (k + 1) "_law_stack" ["_law_web_here", "_law_rows"] C__law_stack.s := by
  obtain ⟨f, fd, F, gm, bd⟩ := O.ex
  refine ⟨f, fd, pfn_ok F sc__law_stack ln__law_stack ?_, gm, F.kp, bd⟩
  intro cdv A outer s H E hr
  exact ⟨_, rd__law_stack, dss_cons (ds_set 2 sc__law_stack.nd (de_lstH (da_cons (de_tup (da_cons (de_int) (da_cons (de_int) (da_nil)))) (da_nil))))
  (dss_cons (ds_for rfl (di_list (de_var 1)) (dg_name 3 sc__law_stack.nd) (dss_cons (ds_if (dt_w (dw_or (dt_eq hr (de_len B.h_len (da_cons (de_var 2) (da_nil))) (de_int)) (dw_or (dt_lt (de_var 3) (de_int)) (dw_or (dt_ge (de_var 3) (de_len B.h_len (da_cons (de_ix (de_var 0) (de_int)) (da_nil)))) (dw_or1 (dt_ne hr (de_slT (de_ix (de_ix (de_var 0) (de_int)) (de_var 3)) (do_none) (do_some (de_int))) (de_ix (de_var 2) (de_neg (de_int))))))))) (dss_one (ds_ret (de_non))) (dss_nil))
  (dss_cons (ds_set 2 sc__law_stack.nd (de_addH (de_sl (de_var 2) (do_none) (do_some (de_neg (de_int)))) (de_lst (da_cons (de_tup (da_cons (de_ix (de_ix (de_ix (de_var 0) (de_int)) (de_var 3)) (de_int)) (da_cons (de_ix (de_ix (de_ix (de_var 0) (de_int)) (de_var 3)) (de_int)) (da_nil)))) (da_nil)))))
  (dss_cons (ds_if (dt_ge (de_ix (de_ix (de_ix (de_var 0) (de_int)) (de_var 3)) (de_int)) (de_int)) (dss_one (ds_expr (de_append (de_var 2) (da_cons (de_tup (da_cons (de_ix (de_ix (de_ix (de_var 0) (de_int)) (de_var 3)) (de_int)) (da_cons (de_int) (da_nil)))) (da_nil))))) (dss_nil))
  (dss_one (ds_while (dt_w (dw_and (dt_gt (de_len B.h_len (da_cons (de_var 2) (da_nil))) (de_int)) (dw_and1 (dt_eq hr (de_ix (de_ix (de_var 2) (de_neg (de_int))) (de_int)) (de_int))))) (dss_one (ds_expr (de_pop (de_var 2))))))))))
  (dss_one (ds_ret (de_var 2)))), rp__law_stack⟩

abbrev s__law_tally : Stmt := topS 42
theorem sc__law_tally : FnScope ["_law_web_here", "_law_heap_here", "_law_found", "_law_rows", "_law_k", "_law_called"] ["_law_web_here", "_law_heap_here"] (defScope s__law_tally) := ⟨rfl, rfl, rfl, by decide +kernel, rfl, by decide +kernel, by decide +kernel⟩
theorem kn__law_tally {P : Program} {w : World} {K : PySem.W.Frag} {mg : Str → Option Value} {base : Heap} {k : Nat} (B : Bi mg) (M : Mi mg) (O : Ow K mg "_law_tally" s__law_tally ["_law_web_here", "_law_heap_here"]) (G__law_stack : Kn P w K mg base k "_law_stack" ["_law_web_here", "_law_rows"] C__law_stack.s)  : Kn P w K mg base (k + 1) "_law_tally" ["_law_web_here", "_law_heap_here"] C__law_tally.s := by
  obtain ⟨f, fd, F, gm, bd⟩ := O.ex
  obtain ⟨f__law_stack, fd__law_stack, ok__law_stack, mg__law_stack, kp__law_stack, bd__law_stack⟩ := G__law_stack.ex
  refine ⟨f, fd, pfn_ok F sc__law_tally ln__law_tally ?_, gm, F.kp, bd⟩
  intro cdv A outer s H E hr
  exact ⟨_, rd__law_tally, dss_cons (ds_set 2 sc__law_tally.nd (de_repH (de_lst (da_cons (de_int) (da_nil))) (de_add (de_len B.h_len (da_cons (de_ix (de_var 0) (de_int)) (da_nil))) (de_len B.h_len (da_cons (de_ix (de_var 0) (de_int)) (da_nil))))))
  (dss_cons (ds_for rfl (di_list (de_var 1)) (dg_name 3 sc__law_tally.nd) (dss_cons (ds_if (dt_ne hr (de_callT ok__law_stack hr mg__law_stack kp__law_stack bd__law_stack (da_cons (de_var 0) (da_cons (de_var 3) (da_nil)))) (de_lst (da_nil))) (dss_one (ds_ret (de_non))) (dss_nil))
  (dss_cons (ds_asg (de_add (de_ix (de_var 2) (de_len B.h_len (da_cons (de_ix (de_var 0) (de_int)) (da_nil)))) (de_int)) (dg_sub (de_var 2) (de_len B.h_len (da_cons (de_ix (de_var 0) (de_int)) (da_nil)))))
  (dss_one (ds_for rfl (di_list (de_var 3)) (dg_name 4 sc__law_tally.nd) (dss_cons (ds_asg (de_add (de_ix (de_var 2) (de_var 4)) (de_int)) (dg_sub (de_var 2) (de_var 4)))
  (dss_one (ds_if (dt_ge (de_ix (de_ix (de_ix (de_var 0) (de_int)) (de_var 4)) (de_int)) (de_int)) (dss_cons (ds_set 5 sc__law_tally.nd (de_add (de_len B.h_len (da_cons (de_ix (de_var 0) (de_int)) (da_nil))) (de_ix (de_ix (de_ix (de_var 0) (de_int)) (de_var 4)) (de_int))))
  (dss_one (ds_asg (de_add (de_ix (de_var 2) (de_var 5)) (de_int)) (dg_sub (de_var 2) (de_var 5))))) (dss_nil)))))))))
  (dss_one (ds_ret (de_var 2)))), rp__law_tally⟩

abbrev s__law_far : Stmt := topS 36
theorem sc__law_far : FnScope ["_law_web_here", "_law_part_here", "_law_far_here", "_law_turn", "_law_row"] ["_law_web_here", "_law_part_here"] (defScope s__law_far) := ⟨rfl, rfl, rfl, by decide +kernel, rfl, by decide +kernel, by decide +kernel⟩
theorem kn__law_far {P : Program} {w : World} {K : PySem.W.Frag} {mg : Str → Option Value} {base : Heap} {k : Nat} (B : Bi mg) (M : Mi mg) (O : Ow K mg "_law_far" s__law_far ["_law_web_here", "_law_part_here"])   : Kn P w K mg base (k + 1) "_law_far" ["_law_web_here", "_law_part_here"] C__law_far.s := by
  obtain ⟨f, fd, F, gm, bd⟩ := O.ex
  refine ⟨f, fd, pfn_ok F sc__law_far ln__law_far ?_, gm, F.kp, bd⟩
  intro cdv A outer s H E hr
  exact ⟨_, rd__law_far, dss_cons (ds_set 2 sc__law_far.nd (de_disp (dp_cons (de_int) (de_int) (dp_nil)) (by rfl) (by rfl) (fun z => by cases z) (by decide)))
  (dss_cons (ds_for rfl (di_range1 B.h_range (da_cons (de_ix (de_ix (de_var 0) (de_int)) (de_var 1)) (da_nil))) (dg_name 3 sc__law_far.nd) (dss_one (ds_for rfl (di_list (de_ix (de_var 0) (de_int))) (dg_name 4 sc__law_far.nd) (dss_one (ds_if (dt_w (dw_and (dt_eq hr (de_ix (de_var 4) (de_int)) (de_var 1)) (dw_and1 (dt_din hr (de_ix (de_var 4) (de_int)) (de_var 2))))) (dss_one (ds_dput hr (de_var 2) (de_ix (de_var 4) (de_int)) (de_min rfl B.h_min (da_cons (de_getD hr (de_var 2) (de_ix (de_var 4) (de_int)) (de_int)) (da_cons (de_add (de_get hr (de_var 2) (de_ix (de_var 4) (de_int))) (de_int)) (da_nil)))))) (dss_nil))))))
  (dss_one (ds_ret (de_var 2)))), rp__law_far⟩

abbrev s__law_leaving : Stmt := topS 37
theorem sc__law_leaving : FnScope ["_law_web_here", "_law_stack_here", "_law_short", "_law_fars", "_law_part_here", "_law_place", "_law_some", "_law_least", "_law_k"] ["_law_web_here", "_law_stack_here", "_law_short", "_law_fars"] (defScope s__law_leaving) := ⟨rfl, rfl, rfl, by decide +kernel, rfl, by decide +kernel, by decide +kernel⟩
theorem kn__law_leaving {P : Program} {w : World} {K : PySem.W.Frag} {mg : Str → Option Value} {base : Heap} {k : Nat} (B : Bi mg) (M : Mi mg) (O : Ow K mg "_law_leaving" s__law_leaving ["_law_web_here", "_law_stack_here", "_law_short", "_law_fars"])   : Kn P w K mg base (k + 1) "_law_leaving" ["_law_web_here", "_law_stack_here", "_law_short", "_law_fars"] C__law_leaving.s := by
  obtain ⟨f, fd, F, gm, bd⟩ := O.ex
  refine ⟨f, fd, pfn_ok F sc__law_leaving ln__law_leaving ?_, gm, F.kp, bd⟩
  intro cdv A outer s H E hr
  exact ⟨_, rd__law_leaving, dss_cons (ds_asg (de_ix (de_var 1) (de_neg (de_int))) (dg_tup rfl (dgs_cons (dg_name 4 sc__law_leaving.nd) (dgs_cons (dg_name 5 sc__law_leaving.nd) (dgs_nil)))))
  (dss_cons (ds_setLcU 6 (fin := finT) (own := [("_law_k", 8)]) fin_T rfl sc__law_leaving.nd (di_range1 B.h_range (da_cons (de_len B.h_len (da_cons (de_ix (de_var 0) (de_int)) (da_nil))) (da_nil))) (blkOk_by (own := [("_law_k", 8)]) (N := ["_law_web_here", "_law_stack_here", "_law_short", "_law_fars", "_law_part_here", "_law_place", "_law_some", "_law_least", "_law_k"]) (sc := defScope s__law_leaving) (by decide +kernel)) (fun _ _ _ _ _ => ⟨_, cg_name 8 sc__law_leaving.nd⟩) (fun _ _ _ _ _ => ⟨_, dts_one (dt_eq hr (de_slT (de_ix (de_ix (de_var 0) (de_int)) (de_var 8)) (do_none) (do_some (de_int))) (de_tup (da_cons (de_var 4) (da_cons (de_var 5) (da_nil)))))⟩) (fun _ _ _ _ _ => ⟨_, de_var 8⟩) s)
  (dss_cons (ds_if (dt_val (de_var 2)) (dss_cons (ds_set 7 sc__law_leaving.nd (de_min rfl B.h_min (da_cons (de_lcU (fin := finT) (own := [("_law_k", 8)]) fin_T rfl sc__law_leaving.nd (di_list (de_var 6)) (blkOk_by (own := [("_law_k", 8)]) (N := ["_law_web_here", "_law_stack_here", "_law_short", "_law_fars", "_law_part_here", "_law_place", "_law_some", "_law_least", "_law_k"]) (sc := defScope s__law_leaving) (by decide +kernel)) (fun _ _ _ _ _ => ⟨_, cg_name 8 sc__law_leaving.nd⟩) (fun _ _ _ _ _ => ⟨_, dts_nil⟩) (fun _ _ _ _ _ => ⟨_, de_get hr (de_ix (de_var 3) (de_var 4)) (de_ix (de_ix (de_ix (de_var 0) (de_int)) (de_var 8)) (de_int))⟩) s) (da_nil))))
  (dss_one (ds_set 6 sc__law_leaving.nd (de_sl (de_lcU (fin := finT) (own := [("_law_k", 8)]) fin_T rfl sc__law_leaving.nd (di_list (de_var 6)) (blkOk_by (own := [("_law_k", 8)]) (N := ["_law_web_here", "_law_stack_here", "_law_short", "_law_fars", "_law_part_here", "_law_place", "_law_some", "_law_least", "_law_k"]) (sc := defScope s__law_leaving) (by decide +kernel)) (fun _ _ _ _ _ => ⟨_, cg_name 8 sc__law_leaving.nd⟩) (fun _ _ _ _ _ => ⟨_, dts_one (dt_eq hr (de_get hr (de_ix (de_var 3) (de_var 4)) (de_ix (de_ix (de_ix (de_var 0) (de_int)) (de_var 8)) (de_int))) (de_var 7))⟩) (fun _ _ _ _ _ => ⟨_, de_var 8⟩) s) (do_none) (do_some (de_int)))))) (dss_nil))
  (dss_one (ds_ret (de_var 6))))), rp__law_leaving⟩

abbrev s__law_behind : Stmt := topS 38
theorem sc__law_behind : FnScope ["_law_web_here", "_law_stack_here", "_law_k"] ["_law_web_here", "_law_stack_here", "_law_k"] (defScope s__law_behind) := ⟨rfl, rfl, rfl, by decide +kernel, rfl, by decide +kernel, by decide +kernel⟩
theorem kn__law_behind {P : Program} {w : World} {K : PySem.W.Frag} {mg : Str → Option Value} {base : Heap} {k : Nat} (B : Bi mg) (M : Mi mg) (O : Ow K mg "_law_behind" s__law_behind ["_law_web_here", "_law_stack_here", "_law_k"])   : Kn P w K mg base (k + 1) "_law_behind" ["_law_web_here", "_law_stack_here", "_law_k"] C__law_behind.s := by
  obtain ⟨f, fd, F, gm, bd⟩ := O.ex
  refine ⟨f, fd, pfn_ok F sc__law_behind ln__law_behind ?_, gm, F.kp, bd⟩
  intro cdv A outer s H E hr
  exact ⟨_, rd__law_behind, dss_cons (ds_set 1 sc__law_behind.nd (de_addH (de_sl (de_var 1) (do_none) (do_some (de_neg (de_int)))) (de_lst (da_cons (de_tup (da_cons (de_ix (de_ix (de_ix (de_var 0) (de_int)) (de_var 2)) (de_int)) (da_cons (de_ix (de_ix (de_ix (de_var 0) (de_int)) (de_var 2)) (de_int)) (da_nil)))) (da_nil)))))
  (dss_cons (ds_if (dt_ge (de_ix (de_ix (de_ix (de_var 0) (de_int)) (de_var 2)) (de_int)) (de_int)) (dss_one (ds_expr (de_append (de_var 1) (da_cons (de_tup (da_cons (de_ix (de_ix (de_ix (de_var 0) (de_int)) (de_var 2)) (de_int)) (da_cons (de_int) (da_nil)))) (da_nil))))) (dss_nil))
  (dss_cons (ds_while (dt_w (dw_and (dt_gt (de_len B.h_len (da_cons (de_var 1) (da_nil))) (de_int)) (dw_and1 (dt_eq hr (de_ix (de_ix (de_var 1) (de_neg (de_int))) (de_int)) (de_int))))) (dss_one (ds_expr (de_pop (de_var 1)))))
  (dss_one (ds_ret (de_var 1))))), rp__law_behind⟩

abbrev s__law_run : Stmt := topS 39
theorem sc__law_run : FnScope ["_law_web_here", "_law_left_here", "_law_most", "_law_fars", "_law_rows", "_law_stack_here", "_law_some", "_law_part_here"] ["_law_web_here", "_law_left_here", "_law_most"] (defScope s__law_run) := ⟨rfl, rfl, rfl, by decide +kernel, rfl, by decide +kernel, by decide +kernel⟩
theorem kn__law_run {P : Program} {w : World} {K : PySem.W.Frag} {mg : Str → Option Value} {base : Heap} {k : Nat} (B : Bi mg) (M : Mi mg) (O : Ow K mg "_law_run" s__law_run ["_law_web_here", "_law_left_here", "_law_most"]) (G__law_far : Kn P w K mg base k "_law_far" ["_law_web_here", "_law_part_here"] C__law_far.s) (G__law_leaving : Kn P w K mg base k "_law_leaving" ["_law_web_here", "_law_stack_here", "_law_short", "_law_fars"] C__law_leaving.s) (G__law_draw : Kn P w K mg base k "_law_draw" ["_law_left_here", "_law_base"] C__law_draw) (G__law_behind : Kn P w K mg base k "_law_behind" ["_law_web_here", "_law_stack_here", "_law_k"] C__law_behind.s)  : Kn P w K mg base (k + 1) "_law_run" ["_law_web_here", "_law_left_here", "_law_most"] C__law_run := by
  obtain ⟨f, fd, F, gm, bd⟩ := O.ex
  obtain ⟨f__law_far, fd__law_far, ok__law_far, mg__law_far, kp__law_far, bd__law_far⟩ := G__law_far.ex
  obtain ⟨f__law_leaving, fd__law_leaving, ok__law_leaving, mg__law_leaving, kp__law_leaving, bd__law_leaving⟩ := G__law_leaving.ex
  obtain ⟨f__law_draw, fd__law_draw, ok__law_draw, mg__law_draw, kp__law_draw, bd__law_draw⟩ := G__law_draw.ex
  obtain ⟨f__law_behind, fd__law_behind, ok__law_behind, mg__law_behind, kp__law_behind, bd__law_behind⟩ := G__law_behind.ex
  refine ⟨f, fd, dfn_ok F sc__law_run ln__law_run ?_, gm, F.kp, bd⟩
  intro cdv A outer s H E hr
  exact ⟨_, rd__law_run, dss_cons (ds_setLcU 3 (fin := finT) (own := [("_law_part_here", 7)]) fin_T rfl sc__law_run.nd (di_range1 B.h_range (da_cons (de_len B.h_len (da_cons (de_ix (de_var 0) (de_int)) (da_nil))) (da_nil))) (blkOk_by (own := [("_law_part_here", 7)]) (N := ["_law_web_here", "_law_left_here", "_law_most", "_law_fars", "_law_rows", "_law_stack_here", "_law_some", "_law_part_here"]) (sc := defScope s__law_run) (by decide +kernel)) (fun _ _ _ _ _ => ⟨_, cg_name 7 sc__law_run.nd⟩) (fun _ _ _ _ _ => ⟨_, dts_nil⟩) (fun _ _ _ _ _ => ⟨_, de_callT ok__law_far hr mg__law_far kp__law_far bd__law_far (da_cons (de_var 0) (da_cons (de_var 7) (da_nil)))⟩) s)
  (dss_cons (ds_set 4 sc__law_run.nd (de_lstH (da_nil)))
  (dss_cons (ds_set 5 sc__law_run.nd (de_lst (da_cons (de_tup (da_cons (de_int) (da_cons (de_int) (da_nil)))) (da_nil))))
  (dss_cons (ds_while (dt_gt (de_len B.h_len (da_cons (de_var 5) (da_nil))) (de_int)) (dss_cons (ds_set 6 sc__law_run.nd (de_callT ok__law_leaving hr mg__law_leaving kp__law_leaving bd__law_leaving (da_cons (de_var 0) (da_cons (de_var 5) (da_cons (de_ge (de_len B.h_len (da_cons (de_var 4) (da_nil))) (de_var 2)) (da_cons (de_var 3) (da_nil)))))))
  (dss_cons (ds_expr (de_append (de_var 4) (da_cons (de_ix (de_var 6) (de_callS ok__law_draw hr mg__law_draw kp__law_draw bd__law_draw (da_cons (de_var 1) (da_cons (de_len B.h_len (da_cons (de_var 6) (da_nil))) (da_nil))))) (da_nil))))
  (dss_one (ds_set 5 sc__law_run.nd (de_callT ok__law_behind hr mg__law_behind kp__law_behind bd__law_behind (da_cons (de_var 0) (da_cons (de_var 5) (da_cons (de_ix (de_var 4) (de_neg (de_int))) (da_nil))))))))))
  (dss_one (ds_ret (de_var 4)))))), rp__law_run⟩

abbrev s__law_heap : Stmt := topS 40
theorem sc__law_heap : FnScope ["_law_script", "_law_at", "_law_web_here", "_law_most_runs", "_law_most", "_law_left_here", "_law_heap_here", "_law_room", "_law_turn", "_law_run_here"] ["_law_script", "_law_at", "_law_web_here", "_law_most_runs", "_law_most"] (defScope s__law_heap) := ⟨rfl, rfl, rfl, by decide +kernel, rfl, by decide +kernel, by decide +kernel⟩
theorem kn__law_heap {P : Program} {w : World} {K : PySem.W.Frag} {mg : Str → Option Value} {base : Heap} {k : Nat} (B : Bi mg) (M : Mi mg) (O : Ow K mg "_law_heap" s__law_heap ["_law_script", "_law_at", "_law_web_here", "_law_most_runs", "_law_most"]) (G__law_left : Kn P w K mg base k "_law_left" ["_law_script", "_law_k"] C__law_left.s) (G__law_draw : Kn P w K mg base k "_law_draw" ["_law_left_here", "_law_base"] C__law_draw) (G__law_run : Kn P w K mg base k "_law_run" ["_law_web_here", "_law_left_here", "_law_most"] C__law_run)  : Kn P w K mg base (k + 1) "_law_heap" ["_law_script", "_law_at", "_law_web_here", "_law_most_runs", "_law_most"] C__law_heap.s := by
  obtain ⟨f, fd, F, gm, bd⟩ := O.ex
  obtain ⟨f__law_left, fd__law_left, ok__law_left, mg__law_left, kp__law_left, bd__law_left⟩ := G__law_left.ex
  obtain ⟨f__law_draw, fd__law_draw, ok__law_draw, mg__law_draw, kp__law_draw, bd__law_draw⟩ := G__law_draw.ex
  obtain ⟨f__law_run, fd__law_run, ok__law_run, mg__law_run, kp__law_run, bd__law_run⟩ := G__law_run.ex
  refine ⟨f, fd, pfn_ok F sc__law_heap ln__law_heap ?_, gm, F.kp, bd⟩
  intro cdv A outer s H E hr
  exact ⟨_, rd__law_heap, dss_cons (ds_set 5 sc__law_heap.nd (de_callH ok__law_left hr mg__law_left kp__law_left bd__law_left (da_cons (de_var 0) (da_cons (de_var 1) (da_nil)))))
  (dss_cons (ds_set 6 sc__law_heap.nd (de_lstH (da_nil)))
  (dss_cons (ds_set 7 sc__law_heap.nd (de_int))
  (dss_cons (ds_for rfl (di_range1 B.h_range (da_cons (de_callS ok__law_draw hr mg__law_draw kp__law_draw bd__law_draw (da_cons (de_var 5) (da_cons (de_add (de_var 3) (de_int)) (da_nil)))) (da_nil))) (dg_name 8 sc__law_heap.nd) (dss_cons (ds_set 9 sc__law_heap.nd (de_callS ok__law_run hr mg__law_run kp__law_run bd__law_run (da_cons (de_var 2) (da_cons (de_callH ok__law_left hr mg__law_left kp__law_left bd__law_left (da_cons (de_var 0) (da_cons (de_add (de_add (de_var 1) (de_int)) (de_var 8)) (da_nil)))) (da_cons (de_var 4) (da_nil))))))
  (dss_one (ds_if (dt_le (de_len B.h_len (da_cons (de_var 9) (da_nil))) (de_var 7)) (dss_cons (ds_expr (de_append (de_var 6) (da_cons (de_frz 9) (da_nil))))
  (dss_one (ds_set 7 sc__law_heap.nd (de_sub (de_var 7) (de_len B.h_len (da_cons (de_var 9) (da_nil))))))) (dss_nil)))))
  (dss_one (ds_ret (de_var 6)))))), rp__law_heap⟩

abbrev s__law_round : Stmt := topS 46
theorem sc__law_round : FnScope ["_law_web_here", "_law_left_here", "_law_part_here", "_law_here", "_law_rows", "_law_met", "_law_some", "_law_k"] ["_law_web_here", "_law_left_here"] (defScope s__law_round) := ⟨rfl, rfl, rfl, by decide +kernel, rfl, by decide +kernel, by decide +kernel⟩
theorem kn__law_round {P : Program} {w : World} {K : PySem.W.Frag} {mg : Str → Option Value} {base : Heap} {k : Nat} (B : Bi mg) (M : Mi mg) (O : Ow K mg "_law_round" s__law_round ["_law_web_here", "_law_left_here"]) (G__law_draw : Kn P w K mg base k "_law_draw" ["_law_left_here", "_law_base"] C__law_draw)  : Kn P w K mg base (k + 1) "_law_round" ["_law_web_here", "_law_left_here"] C__law_round := by
  obtain ⟨f, fd, F, gm, bd⟩ := O.ex
  obtain ⟨f__law_draw, fd__law_draw, ok__law_draw, mg__law_draw, kp__law_draw, bd__law_draw⟩ := G__law_draw.ex
  refine ⟨f, fd, dfn_ok F sc__law_round ln__law_round ?_, gm, F.kp, bd⟩
  intro cdv A outer s H E hr
  exact ⟨_, rd__law_round, dss_cons (ds_set 2 sc__law_round.nd (de_callS ok__law_draw hr mg__law_draw kp__law_draw bd__law_draw (da_cons (de_var 1) (da_cons (de_len B.h_len (da_cons (de_ix (de_var 0) (de_int)) (da_nil))) (da_nil)))))
  (dss_cons (ds_set 3 sc__law_round.nd (de_callS ok__law_draw hr mg__law_draw kp__law_draw bd__law_draw (da_cons (de_var 1) (da_cons (de_ix (de_ix (de_var 0) (de_int)) (de_var 2)) (da_nil)))))
  (dss_cons (ds_set 4 sc__law_round.nd (de_lstH (da_nil)))
  (dss_cons (ds_set 5 sc__law_round.nd (de_lstH (da_nil)))
  (dss_cons (ds_while (dt_w (dw_and (dt_ne hr (de_var 3) (de_int)) (dw_and1 (dt_notin (de_var 3) (de_var 5))))) (dss_cons (ds_expr (de_append (de_var 5) (da_cons (de_var 3) (da_nil))))
  (dss_cons (ds_setLcU 6 (fin := finT) (own := [("_law_k", 7)]) fin_T rfl sc__law_round.nd (di_range1 B.h_range (da_cons (de_len B.h_len (da_cons (de_ix (de_var 0) (de_int)) (da_nil))) (da_nil))) (blkOk_by (own := [("_law_k", 7)]) (N := ["_law_web_here", "_law_left_here", "_law_part_here", "_law_here", "_law_rows", "_law_met", "_law_some", "_law_k"]) (sc := defScope s__law_round) (by decide +kernel)) (fun _ _ _ _ _ => ⟨_, cg_name 7 sc__law_round.nd⟩) (fun _ _ _ _ _ => ⟨_, dts_one (dt_eq hr (de_slT (de_ix (de_ix (de_var 0) (de_int)) (de_var 7)) (do_none) (do_some (de_int))) (de_tup (da_cons (de_var 2) (da_cons (de_var 3) (da_nil)))))⟩) (fun _ _ _ _ _ => ⟨_, de_var 7⟩) s)
  (dss_cons (ds_expr (de_append (de_var 4) (da_cons (de_ix (de_var 6) (de_callS ok__law_draw hr mg__law_draw kp__law_draw bd__law_draw (da_cons (de_var 1) (da_cons (de_len B.h_len (da_cons (de_var 6) (da_nil))) (da_nil))))) (da_nil))))
  (dss_one (ds_set 3 sc__law_round.nd (de_ix (de_ix (de_ix (de_var 0) (de_int)) (de_ix (de_var 4) (de_neg (de_int)))) (de_int))))))))
  (dss_cons (ds_if (dt_eq hr (de_var 3) (de_int)) (dss_one (ds_ret (de_lst (da_nil)))) (dss_nil))
  (dss_one (ds_ret (de_sl (de_var 4) (do_some (de_index (de_var 5) (da_cons (de_var 3) (da_nil)))) (do_none))))))))), rp__law_round⟩

abbrev s__law_changed : Stmt := topS 47
theorem sc__law_changed : FnScope ["_law_web_here", "_law_tally_here", "_law_left_here", "_law_choice", "_law_at", "_law_numbers", "_law_turn", "_law_k", "_law_number"] ["_law_web_here", "_law_tally_here", "_law_left_here"] (defScope s__law_changed) := ⟨rfl, rfl, rfl, by decide +kernel, rfl, by decide +kernel, by decide +kernel⟩
theorem kn__law_changed {P : Program} {w : World} {K : PySem.W.Frag} {mg : Str → Option Value} {base : Heap} {k : Nat} (B : Bi mg) (M : Mi mg) (O : Ow K mg "_law_changed" s__law_changed ["_law_web_here", "_law_tally_here", "_law_left_here"]) (G__law_draw : Kn P w K mg base k "_law_draw" ["_law_left_here", "_law_base"] C__law_draw) (G__law_round : Kn P w K mg base k "_law_round" ["_law_web_here", "_law_left_here"] C__law_round)  : Kn P w K mg base (k + 1) "_law_changed" ["_law_web_here", "_law_tally_here", "_law_left_here"] C__law_changed := by
  obtain ⟨f, fd, F, gm, bd⟩ := O.ex
  obtain ⟨f__law_draw, fd__law_draw, ok__law_draw, mg__law_draw, kp__law_draw, bd__law_draw⟩ := G__law_draw.ex
  obtain ⟨f__law_round, fd__law_round, ok__law_round, mg__law_round, kp__law_round, bd__law_round⟩ := G__law_round.ex
  refine ⟨f, fd, dfn_ok F sc__law_changed ln__law_changed ?_, gm, F.kp, bd⟩
  intro cdv A outer s H E hr
  exact ⟨_, rd__law_changed, dss_cons (ds_set 3 sc__law_changed.nd (de_callS ok__law_draw hr mg__law_draw kp__law_draw bd__law_draw (da_cons (de_var 2) (da_cons (de_int) (da_nil)))))
  (dss_cons (ds_set 4 sc__law_changed.nd (de_callS ok__law_draw hr mg__law_draw kp__law_draw bd__law_draw (da_cons (de_var 2) (da_cons (de_len B.h_len (da_cons (de_var 1) (da_nil))) (da_nil)))))
  (dss_cons (ds_set 5 sc__law_changed.nd (de_listOfH B.h_list (da_cons (de_var 1) (da_nil))))
  (dss_cons (ds_if (dt_lt (de_var 3) (de_int)) (dss_one (ds_asg (de_ix (de_lst (da_cons (de_add (de_ix (de_var 5) (de_var 4)) (de_int)) (da_cons (de_sub (de_ix (de_var 5) (de_var 4)) (de_int)) (da_cons (de_int) (da_cons (de_neg (de_int)) (da_cons (de_mul (de_int) (de_ix (de_var 5) (de_var 4))) (da_nil))))))) (de_var 3)) (dg_sub (de_var 5) (de_var 4)))) (dss_nil))
  (dss_cons (ds_if (dt_eq hr (de_var 3) (de_int)) (dss_one (ds_setLcU 5 (fin := finH) (own := [("_law_number", 8)]) fin_H rfl sc__law_changed.nd (di_list (de_var 1)) (blkOk_by (own := [("_law_number", 8)]) (N := ["_law_web_here", "_law_tally_here", "_law_left_here", "_law_choice", "_law_at", "_law_numbers", "_law_turn", "_law_k", "_law_number"]) (sc := defScope s__law_changed) (by decide +kernel)) (fun _ _ _ _ _ => ⟨_, cg_name 8 sc__law_changed.nd⟩) (fun _ _ _ _ _ => ⟨_, dts_nil⟩) (fun _ _ _ _ _ => ⟨_, de_mul (de_int) (de_var 8)⟩) s)) (dss_nil))
  (dss_cons (ds_if (dt_eq hr (de_var 3) (de_int)) (dss_one (ds_set 5 sc__law_changed.nd (de_repH (de_lst (da_cons (de_int) (da_nil))) (de_len B.h_len (da_cons (de_var 1) (da_nil)))))) (dss_nil))
  (dss_cons (ds_if (dt_eq hr (de_var 3) (de_int)) (dss_one (ds_set 5 sc__law_changed.nd (de_ix (de_lst (da_cons (de_sl (de_var 1) (do_none) (do_some (de_neg (de_int)))) (da_cons (de_add (de_var 1) (de_lst (da_cons (de_int) (da_nil)))) (da_nil)))) (de_mod (de_var 4) (de_int))))) (dss_nil))
  (dss_cons (ds_if (dt_eq hr (de_var 3) (de_int)) (dss_one (ds_for rfl (di_range1 B.h_range (da_cons (de_add (de_int) (de_mod (de_var 4) (de_int))) (da_nil))) (dg_name 6 sc__law_changed.nd) (dss_one (ds_for rfl (di_list (de_callS ok__law_round hr mg__law_round kp__law_round bd__law_round (da_cons (de_var 0) (da_cons (de_var 2) (da_nil))))) (dg_name 7 sc__law_changed.nd) (dss_cons (ds_asg (de_add (de_ix (de_var 5) (de_var 7)) (de_int)) (dg_sub (de_var 5) (de_var 7)))
  (dss_one (ds_if (dt_ge (de_ix (de_ix (de_ix (de_var 0) (de_int)) (de_var 7)) (de_int)) (de_int)) (dss_one (ds_set 5 sc__law_changed.nd (de_addH (de_sl (de_var 5) (do_none) (do_some (de_len B.h_len (da_cons (de_ix (de_var 0) (de_int)) (da_nil))))) (de_rep (de_lst (da_cons (de_int) (da_nil))) (de_len B.h_len (da_cons (de_ix (de_var 0) (de_int)) (da_nil))))))) (dss_nil)))))))) (dss_nil))
  (dss_one (ds_ret (de_frz 5)))))))))), rp__law_changed⟩

abbrev s__law_copy : Stmt := topS 35
theorem sc__law_copy : FnScope ["_law_web_here"] ["_law_web_here"] (defScope s__law_copy) := ⟨rfl, rfl, rfl, by decide +kernel, rfl, by decide +kernel, by decide +kernel⟩
theorem kn__law_copy {P : Program} {w : World} {K : PySem.W.Frag} {mg : Str → Option Value} {base : Heap} {k : Nat} (B : Bi mg) (M : Mi mg) (O : Ow K mg "_law_copy" s__law_copy ["_law_web_here"])   : Kn P w K mg base (k + 1) "_law_copy" ["_law_web_here"] C__law_copy.s := by
  obtain ⟨f, fd, F, gm, bd⟩ := O.ex
  refine ⟨f, fd, pfn_ok F sc__law_copy ln__law_copy ?_, gm, F.kp, bd⟩
  intro cdv A outer s H E hr
  exact ⟨_, rd__law_copy, dss_one (ds_ret (de_tup (da_cons (de_listOf B.h_list (da_cons (de_ix (de_var 0) (de_int)) (da_nil))) (da_cons (de_listOf B.h_list (da_cons (de_ix (de_var 0) (de_int)) (da_nil))) (da_nil))))), rp__law_copy⟩

abbrev s__law_every : Stmt := topS 43
theorem sc__law_every : FnScope ["_law_web_here", "_law_found", "_law_part_here", "_law_place", "_law_sums", "_law_row", "_law_here", "_law_other"] ["_law_web_here"] (defScope s__law_every) := ⟨rfl, rfl, rfl, by decide +kernel, rfl, by decide +kernel, by decide +kernel⟩
theorem kn__law_every {P : Program} {w : World} {K : PySem.W.Frag} {mg : Str → Option Value} {base : Heap} {k : Nat} (B : Bi mg) (M : Mi mg) (O : Ow K mg "_law_every" s__law_every ["_law_web_here"])   : Kn P w K mg base (k + 1) "_law_every" ["_law_web_here"] C__law_every.s := by
  obtain ⟨f, fd, F, gm, bd⟩ := O.ex
  refine ⟨f, fd, pfn_ok F sc__law_every ln__law_every ?_, gm, F.kp, bd⟩
  intro cdv A outer s H E hr
  exact ⟨_, rd__law_every, dss_cons (ds_set 1 sc__law_every.nd (de_lstH (da_nil)))
  (dss_cons (ds_for rfl (di_range1 B.h_range (da_cons (de_len B.h_len (da_cons (de_ix (de_var 0) (de_int)) (da_nil))) (da_nil))) (dg_name 2 sc__law_every.nd) (dss_one (ds_for rfl (di_range1 B.h_range (da_cons (de_ix (de_ix (de_var 0) (de_int)) (de_var 2)) (da_nil))) (dg_name 3 sc__law_every.nd) (dss_cons (ds_set 4 sc__law_every.nd (de_lstH (da_nil)))
  (dss_cons (ds_for rfl (di_list (de_ix (de_var 0) (de_int))) (dg_name 5 sc__law_every.nd) (dss_cons (ds_set 6 sc__law_every.nd (de_sub (de_intOf B.h_int (da_cons (de_eq hr (de_ix (de_var 5) (de_int)) (de_var 3)) (da_nil))) (de_intOf B.h_int (da_cons (de_eq hr (de_ix (de_var 5) (de_int)) (de_var 3)) (da_nil)))))
  (dss_one (ds_expr (de_append (de_var 4) (da_cons (de_mul (de_var 6) (de_intOf B.h_int (da_cons (de_eq hr (de_ix (de_var 5) (de_int)) (de_var 2)) (da_nil)))) (da_nil)))))))
  (dss_cons (ds_for rfl (di_range1 B.h_range (da_cons (de_len B.h_len (da_cons (de_ix (de_var 0) (de_int)) (da_nil))) (da_nil))) (dg_name 7 sc__law_every.nd) (dss_one (ds_expr (de_append (de_var 4) (da_cons (de_mul (de_intOf B.h_int (da_cons (de_eq hr (de_var 7) (de_var 2)) (da_nil))) (de_sub (de_intOf B.h_int (da_cons (de_eq hr (de_var 3) (de_int)) (da_nil))) (de_intOf B.h_int (da_cons (de_eq hr (de_var 3) (de_int)) (da_nil))))) (da_nil))))))
  (dss_one (ds_expr (de_append (de_var 1) (da_cons (de_frz 4) (da_nil)))))))))))
  (dss_cons (ds_for rfl (di_range2 B.h_range (da_cons (de_int) (da_cons (de_len B.h_len (da_cons (de_ix (de_var 0) (de_int)) (da_nil))) (da_nil)))) (dg_name 2 sc__law_every.nd) (dss_one (ds_expr (de_append (de_var 1) (da_cons (de_add (de_lcU (fin := finT) (own := [("_law_row", 5)]) fin_T rfl sc__law_every.nd (di_list (de_ix (de_var 0) (de_int))) (blkOk_by (own := [("_law_row", 5)]) (N := ["_law_web_here", "_law_found", "_law_part_here", "_law_place", "_law_sums", "_law_row", "_law_here", "_law_other"]) (sc := defScope s__law_every) (by decide +kernel)) (fun _ _ _ _ _ => ⟨_, cg_name 5 sc__law_every.nd⟩) (fun _ _ _ _ _ => ⟨_, dts_nil⟩) (fun _ _ _ _ _ => ⟨_, de_intOf B.h_int (da_cons (de_eq hr (de_ix (de_var 5) (de_int)) (de_var 2)) (da_nil))⟩) s) (de_lcU (fin := finT) (own := [("_law_other", 7)]) fin_T rfl sc__law_every.nd (di_range1 B.h_range (da_cons (de_len B.h_len (da_cons (de_ix (de_var 0) (de_int)) (da_nil))) (da_nil))) (blkOk_by (own := [("_law_other", 7)]) (N := ["_law_web_here", "_law_found", "_law_part_here", "_law_place", "_law_sums", "_law_row", "_law_here", "_law_other"]) (sc := defScope s__law_every) (by decide +kernel)) (fun _ _ _ _ _ => ⟨_, cg_name 7 sc__law_every.nd⟩) (fun _ _ _ _ _ => ⟨_, dts_nil⟩) (fun _ _ _ _ _ => ⟨_, de_sub (de_int) (de_intOf B.h_int (da_cons (de_eq hr (de_var 7) (de_var 2)) (da_nil)))⟩) s)) (da_nil))))))
  (dss_one (ds_ret (de_var 1))))), rp__law_every⟩

abbrev s__law_hangs : Stmt := topS 44
theorem sc__law_hangs : FnScope ["_law_web_here", "_law_part_here", "_law_numbers", "_law_some", "_law_come", "_law_turn", "_law_start", "_law_end", "_law_starts", "_law_k"] ["_law_web_here", "_law_part_here", "_law_numbers"] (defScope s__law_hangs) := ⟨rfl, rfl, rfl, by decide +kernel, rfl, by decide +kernel, by decide +kernel⟩
theorem kn__law_hangs {P : Program} {w : World} {K : PySem.W.Frag} {mg : Str → Option Value} {base : Heap} {k : Nat} (B : Bi mg) (M : Mi mg) (O : Ow K mg "_law_hangs" s__law_hangs ["_law_web_here", "_law_part_here", "_law_numbers"])   : Kn P w K mg base (k + 1) "_law_hangs" ["_law_web_here", "_law_part_here", "_law_numbers"] C__law_hangs.s := by
  obtain ⟨f, fd, F, gm, bd⟩ := O.ex
  refine ⟨f, fd, pfn_ok F sc__law_hangs ln__law_hangs ?_, gm, F.kp, bd⟩
  intro cdv A outer s H E hr
  exact ⟨_, rd__law_hangs, dss_cons (ds_setLcU 3 (fin := finT) (own := [("_law_k", 9)]) fin_T rfl sc__law_hangs.nd (di_range1 B.h_range (da_cons (de_len B.h_len (da_cons (de_ix (de_var 0) (de_int)) (da_nil))) (da_nil))) (blkOk_by (own := [("_law_k", 9)]) (N := ["_law_web_here", "_law_part_here", "_law_numbers", "_law_some", "_law_come", "_law_turn", "_law_start", "_law_end", "_law_starts", "_law_k"]) (sc := defScope s__law_hangs) (by decide +kernel)) (fun _ _ _ _ _ => ⟨_, cg_name 9 sc__law_hangs.nd⟩) (fun _ _ _ _ _ => ⟨_, dts_one (dt_w (dw_and (dt_eq hr (de_ix (de_ix (de_ix (de_var 0) (de_int)) (de_var 9)) (de_int)) (de_var 1)) (dw_and1 (dt_gt (de_ix (de_var 2) (de_var 9)) (de_int)))))⟩) (fun _ _ _ _ _ => ⟨_, de_slT (de_ix (de_ix (de_var 0) (de_int)) (de_var 9)) (do_some (de_int)) (do_some (de_int))⟩) s)
  (dss_cons (ds_set 4 sc__law_hangs.nd (de_lstH (da_cons (de_int) (da_nil))))
  (dss_cons (ds_for rfl (di_range1 B.h_range (da_cons (de_add (de_len B.h_len (da_cons (de_var 3) (da_nil))) (de_int)) (da_nil))) (dg_name 5 sc__law_hangs.nd) (dss_one (ds_for rfl (di_list (de_var 3)) (dg_tup rfl (dgs_cons (dg_name 6 sc__law_hangs.nd) (dgs_cons (dg_name 7 sc__law_hangs.nd) (dgs_nil)))) (dss_one (ds_if (dt_w (dw_and (dt_in (de_var 6) (de_var 4)) (dw_and1 (dt_notin (de_var 7) (de_var 4))))) (dss_one (ds_expr (de_append (de_var 4) (da_cons (de_var 7) (da_nil))))) (dss_nil))))))
  (dss_cons (ds_set 8 sc__law_hangs.nd (de_ix (de_var 2) (de_add (de_len B.h_len (da_cons (de_ix (de_var 0) (de_int)) (da_nil))) (de_var 1))))
  (dss_one (ds_ret (de_and (de_eq hr (de_len B.h_len (da_cons (de_lcU (fin := finT) (own := [("_law_start", 6), ("_law_end", 7)]) fin_T rfl sc__law_hangs.nd (di_list (de_var 3)) (blkOk_by (own := [("_law_start", 6), ("_law_end", 7)]) (N := ["_law_web_here", "_law_part_here", "_law_numbers", "_law_some", "_law_come", "_law_turn", "_law_start", "_law_end", "_law_starts", "_law_k"]) (sc := defScope s__law_hangs) (by decide +kernel)) (fun _ _ _ _ _ => ⟨_, cg_tup rfl (cgs_cons (cg_name 6 sc__law_hangs.nd) (cgs_cons (cg_name 7 sc__law_hangs.nd) (cgs_nil)))⟩) (fun _ _ _ _ _ => ⟨_, dts_one (dt_notin (de_var 6) (de_var 4))⟩) (fun _ _ _ _ _ => ⟨_, de_var 6⟩) s) (da_nil))) (de_int)) (de_one (de_or (de_gt (de_var 8) (de_int)) (de_one (de_eq hr (de_var 3) (de_lst (da_nil)))))))))))), rp__law_hangs⟩

abbrev s__law_are_counts : Stmt := topS 45
theorem sc__law_are_counts : FnScope ["_law_web_here", "_law_numbers", "_law_sides", "_law_k", "_law_part_here"] ["_law_web_here", "_law_numbers"] (defScope s__law_are_counts) := ⟨rfl, rfl, rfl, by decide +kernel, rfl, by decide +kernel, by decide +kernel⟩
theorem kn__law_are_counts {P : Program} {w : World} {K : PySem.W.Frag} {mg : Str → Option Value} {base : Heap} {k : Nat} (B : Bi mg) (M : Mi mg) (O : Ow K mg "_law_are_counts" s__law_are_counts ["_law_web_here", "_law_numbers"]) (G__law_every : Kn P w K mg base k "_law_every" ["_law_web_here"] C__law_every.s) (G__law_hangs : Kn P w K mg base k "_law_hangs" ["_law_web_here", "_law_part_here", "_law_numbers"] C__law_hangs.s)  : Kn P w K mg base (k + 1) "_law_are_counts" ["_law_web_here", "_law_numbers"] C__law_are_counts.s := by
  obtain ⟨f, fd, F, gm, bd⟩ := O.ex
  obtain ⟨f__law_every, fd__law_every, ok__law_every, mg__law_every, kp__law_every, bd__law_every⟩ := G__law_every.ex
  obtain ⟨f__law_hangs, fd__law_hangs, ok__law_hangs, mg__law_hangs, kp__law_hangs, bd__law_hangs⟩ := G__law_hangs.ex
  refine ⟨f, fd, pfn_ok F sc__law_are_counts ln__law_are_counts ?_, gm, F.kp, bd⟩
  intro cdv A outer s H E hr
  exact ⟨_, rd__law_are_counts, dss_cons (ds_if (dt_w (dw_or (dt_ne hr (de_len B.h_len (da_cons (de_var 1) (da_nil))) (de_add (de_len B.h_len (da_cons (de_ix (de_var 0) (de_int)) (da_nil))) (de_len B.h_len (da_cons (de_ix (de_var 0) (de_int)) (da_nil))))) (dw_or1 (dt_lt (de_min rfl B.h_min (da_cons (de_var 1) (da_nil))) (de_int))))) (dss_one (ds_ret (de_bl))) (dss_nil))
  (dss_cons (ds_for rfl (di_list (de_callT ok__law_every hr mg__law_every kp__law_every bd__law_every (da_cons (de_var 0) (da_nil)))) (dg_name 2 sc__law_are_counts.nd) (dss_one (ds_if (dt_ne hr (de_sum rfl B.h_sum (da_cons (de_lcU (fin := finT) (own := [("_law_k", 3)]) fin_T rfl sc__law_are_counts.nd (di_range1 B.h_range (da_cons (de_len B.h_len (da_cons (de_var 1) (da_nil))) (da_nil))) (blkOk_by (own := [("_law_k", 3)]) (N := ["_law_web_here", "_law_numbers", "_law_sides", "_law_k", "_law_part_here"]) (sc := defScope s__law_are_counts) (by decide +kernel)) (fun _ _ _ _ _ => ⟨_, cg_name 3 sc__law_are_counts.nd⟩) (fun _ _ _ _ _ => ⟨_, dts_nil⟩) (fun _ _ _ _ _ => ⟨_, de_mul (de_ix (de_var 2) (de_var 3)) (de_ix (de_var 1) (de_var 3))⟩) s) (da_nil))) (de_int)) (dss_one (ds_ret (de_bl))) (dss_nil))))
  (dss_one (ds_ret (de_notin (de_bl) (de_lcU (fin := finT) (own := [("_law_part_here", 4)]) fin_T rfl sc__law_are_counts.nd (di_range1 B.h_range (da_cons (de_len B.h_len (da_cons (de_ix (de_var 0) (de_int)) (da_nil))) (da_nil))) (blkOk_by (own := [("_law_part_here", 4)]) (N := ["_law_web_here", "_law_numbers", "_law_sides", "_law_k", "_law_part_here"]) (sc := defScope s__law_are_counts) (by decide +kernel)) (fun _ _ _ _ _ => ⟨_, cg_name 4 sc__law_are_counts.nd⟩) (fun _ _ _ _ _ => ⟨_, dts_nil⟩) (fun _ _ _ _ _ => ⟨_, de_callT ok__law_hangs hr mg__law_hangs kp__law_hangs bd__law_hangs (da_cons (de_var 0) (da_cons (de_var 4) (da_cons (de_var 1) (da_nil))))⟩) s))))), rp__law_are_counts⟩

abbrev s_fits_row : Stmt := topS 12
theorem sc_fits_row : FnScope ["web", "row", "places", "rows", "part", "start", "end", "calls"] ["web", "row"] (defScope s_fits_row) := ⟨rfl, rfl, rfl, by decide +kernel, rfl, by decide +kernel, by decide +kernel⟩
theorem kn_fits_row {P : Program} {w : World} {K : PySem.W.Frag} {mg : Str → Option Value} {base : Heap} {k : Nat} (B : Bi mg) (M : Mi mg) (O : Ow K mg "fits_row" s_fits_row ["web", "row"])   : Kn P w K mg base (k + 1) "fits_row" ["web", "row"] C_fits_row.s := by
  obtain ⟨f, fd, F, gm, bd⟩ := O.ex
  refine ⟨f, fd, pfn_ok F sc_fits_row ln_fits_row ?_, gm, F.kp, bd⟩
  intro cdv A outer s H E hr
  exact ⟨_, rd_fits_row, dss_cons (ds_asg (de_var 0) (dg_tup rfl (dgs_cons (dg_name 2 sc_fits_row.nd) (dgs_cons (dg_name 3 sc_fits_row.nd) (dgs_nil)))))
  (dss_cons (ds_asg (de_var 1) (dg_tup rfl (dgs_cons (dg_name 4 sc_fits_row.nd) (dgs_cons (dg_name 5 sc_fits_row.nd) (dgs_cons (dg_name 6 sc_fits_row.nd) (dgs_cons (dg_name 7 sc_fits_row.nd) (dgs_nil)))))))
  (dss_cons (ds_if (dt_w (dw_or (dt_lt (de_var 4) (de_int)) (dw_or (dt_ge (de_var 4) (de_len B.h_len (da_cons (de_var 2) (da_nil)))) (dw_or (dt_lt (de_min rfl B.h_min (da_cons (de_var 5) (da_cons (de_var 6) (da_nil)))) (de_int)) (dw_or1 (dt_ge (de_max rfl B.h_max (da_cons (de_var 5) (da_cons (de_var 6) (da_nil)))) (de_ix (de_var 2) (de_var 4)))))))) (dss_one (ds_ret (de_bl))) (dss_nil))
  (dss_one (ds_ret (de_and (de_ne hr (de_var 5) (de_int)) (de_and (de_lt (de_var 7) (de_len B.h_len (da_cons (de_var 2) (da_nil)))) (de_one (de_or (de_eq hr (de_var 7) (de_neg (de_int))) (de_one (de_gt (de_var 7) (de_var 4))))))))))), rp_fits_row⟩

abbrev s_rows_of : Stmt := topS 10
theorem sc_rows_of : FnScope ["web", "part", "k"] ["web", "part"] (defScope s_rows_of) := ⟨rfl, rfl, rfl, by decide +kernel, rfl, by decide +kernel, by decide +kernel⟩
theorem kn_rows_of {P : Program} {w : World} {K : PySem.W.Frag} {mg : Str → Option Value} {base : Heap} {k : Nat} (B : Bi mg) (M : Mi mg) (O : Ow K mg "rows_of" s_rows_of ["web", "part"])   : Kn P w K mg base (k + 1) "rows_of" ["web", "part"] C_rows_of.s := by
  obtain ⟨f, fd, F, gm, bd⟩ := O.ex
  refine ⟨f, fd, pfn_ok F sc_rows_of ln_rows_of ?_, gm, F.kp, bd⟩
  intro cdv A outer s H E hr
  exact ⟨_, rd_rows_of, dss_one (ds_ret (de_lcU (fin := finH) (own := [("k", 2)]) fin_H rfl sc_rows_of.nd (di_range1 B.h_range (da_cons (de_len B.h_len (da_cons (de_ix (de_var 0) (de_int)) (da_nil))) (da_nil))) (blkOk_by (own := [("k", 2)]) (N := ["web", "part", "k"]) (sc := defScope s_rows_of) (by decide +kernel)) (fun _ _ _ _ _ => ⟨_, cg_name 2 sc_rows_of.nd⟩) (fun _ _ _ _ _ => ⟨_, dts_one (dt_eq hr (de_ix (de_ix (de_ix (de_var 0) (de_int)) (de_var 2)) (de_int)) (de_var 1))⟩) (fun _ _ _ _ _ => ⟨_, de_var 2⟩) s)), rp_rows_of⟩

abbrev s_reached : Stmt := topS 11
theorem sc_reached : FnScope ["web", "part", "start", "turned", "found", "many", "k", "one", "other"] ["web", "part", "start", "turned"] (defScope s_reached) := ⟨rfl, rfl, rfl, by decide +kernel, rfl, by decide +kernel, by decide +kernel⟩
theorem kn_reached {P : Program} {w : World} {K : PySem.W.Frag} {mg : Str → Option Value} {base : Heap} {k : Nat} (B : Bi mg) (M : Mi mg) (O : Ow K mg "reached" s_reached ["web", "part", "start", "turned"]) (G_rows_of : Kn P w K mg base k "rows_of" ["web", "part"] C_rows_of.s)  : Kn P w K mg base (k + 1) "reached" ["web", "part", "start", "turned"] C_reached.s := by
  obtain ⟨f, fd, F, gm, bd⟩ := O.ex
  obtain ⟨f_rows_of, fd_rows_of, ok_rows_of, mg_rows_of, kp_rows_of, bd_rows_of⟩ := G_rows_of.ex
  refine ⟨f, fd, pfn_ok F sc_reached ln_reached ?_, gm, F.kp, bd⟩
  intro cdv A outer s H E hr
  exact ⟨_, rd_reached, dss_cons (ds_set 4 sc_reached.nd (de_disp (dp_cons (de_var 2) (de_bl) (dp_nil)) (by rfl) (by rfl) (fun z => by cases z) (by decide)))
  (dss_cons (ds_set 5 sc_reached.nd (de_int))
  (dss_cons (ds_while (dt_lt (de_var 5) (de_len B.h_len (da_cons (de_var 4) (da_nil)))) (dss_cons (ds_set 5 sc_reached.nd (de_len B.h_len (da_cons (de_var 4) (da_nil))))
  (dss_one (ds_for rfl (di_list (de_callT ok_rows_of hr mg_rows_of kp_rows_of bd_rows_of (da_cons (de_var 0) (da_cons (de_var 1) (da_nil))))) (dg_name 6 sc_reached.nd) (dss_cons (ds_par 7 8 sc_reached.nd (da_cons (de_ix (de_ix (de_ix (de_var 0) (de_int)) (de_var 6)) (de_int)) (da_cons (de_ix (de_ix (de_ix (de_var 0) (de_int)) (de_var 6)) (de_int)) (da_nil))))
  (dss_cons (ds_if (dt_val (de_var 3)) (dss_one (ds_par 7 8 sc_reached.nd (da_cons (de_var 8) (da_cons (de_var 7) (da_nil))))) (dss_nil))
  (dss_one (ds_if (dt_din hr (de_var 7) (de_var 4)) (dss_one (ds_dput hr (de_var 4) (de_var 8) (de_bl))) (dss_nil)))))))))
  (dss_one (ds_ret (de_var 4))))), rp_reached⟩

abbrev s_is_web : Stmt := topS 13
theorem sc_is_web : FnScope ["web", "places", "rows", "row", "part"] ["web"] (defScope s_is_web) := ⟨rfl, rfl, rfl, by decide +kernel, rfl, by decide +kernel, by decide +kernel⟩
theorem kn_is_web {P : Program} {w : World} {K : PySem.W.Frag} {mg : Str → Option Value} {base : Heap} {k : Nat} (B : Bi mg) (M : Mi mg) (O : Ow K mg "is_web" s_is_web ["web"]) (G_fits_row : Kn P w K mg base k "fits_row" ["web", "row"] C_fits_row.s) (G_reached : Kn P w K mg base k "reached" ["web", "part", "start", "turned"] C_reached.s)  : Kn P w K mg base (k + 1) "is_web" ["web"] C_is_web.s := by
  obtain ⟨f, fd, F, gm, bd⟩ := O.ex
  obtain ⟨f_fits_row, fd_fits_row, ok_fits_row, mg_fits_row, kp_fits_row, bd_fits_row⟩ := G_fits_row.ex
  obtain ⟨f_reached, fd_reached, ok_reached, mg_reached, kp_reached, bd_reached⟩ := G_reached.ex
  refine ⟨f, fd, pfn_ok F sc_is_web ln_is_web ?_, gm, F.kp, bd⟩
  intro cdv A outer s H E hr
  exact ⟨_, rd_is_web, dss_cons (ds_asg (de_var 0) (dg_tup rfl (dgs_cons (dg_name 1 sc_is_web.nd) (dgs_cons (dg_name 2 sc_is_web.nd) (dgs_nil)))))
  (dss_cons (ds_if (dt_w (dw_or (dt_lt (de_len B.h_len (da_cons (de_var 1) (da_nil))) (de_int)) (dw_or (dt_gt (de_len B.h_len (da_cons (de_var 1) (da_nil))) (de_globE (by rfl) M.m_MOST_PARTS)) (dw_or (dt_lt (de_len B.h_len (da_cons (de_var 2) (da_nil))) (de_int)) (dw_or1 (dt_gt (de_len B.h_len (da_cons (de_var 2) (da_nil))) (de_globE (by rfl) M.m_MOST_ROWS))))))) (dss_one (ds_ret (de_bl))) (dss_nil))
  (dss_cons (ds_if (dt_w (dw_or (dt_lt (de_min rfl B.h_min (da_cons (de_var 1) (da_nil))) (de_int)) (dw_or1 (dt_gt (de_max rfl B.h_max (da_cons (de_var 1) (da_nil))) (de_globE (by rfl) M.m_MOST_PLACES))))) (dss_one (ds_ret (de_bl))) (dss_nil))
  (dss_cons (ds_for rfl (di_list (de_var 2)) (dg_name 3 sc_is_web.nd) (dss_one (ds_if (dt_not (dt_val (de_callT ok_fits_row hr mg_fits_row kp_fits_row bd_fits_row (da_cons (de_var 0) (da_cons (de_var 3) (da_nil)))))) (dss_one (ds_ret (de_bl))) (dss_nil))))
  (dss_cons (ds_for rfl (di_range1 B.h_range (da_cons (de_len B.h_len (da_cons (de_var 1) (da_nil))) (da_nil))) (dg_name 4 sc_is_web.nd) (dss_cons (ds_if (dt_w (dw_or (dt_ne hr (de_len B.h_len (da_cons (de_callT ok_reached hr mg_reached kp_reached bd_reached (da_cons (de_var 0) (da_cons (de_var 4) (da_cons (de_int) (da_cons (de_bl) (da_nil)))))) (da_nil))) (de_ix (de_var 1) (de_var 4))) (dw_or1 (dt_ne hr (de_len B.h_len (da_cons (de_callT ok_reached hr mg_reached kp_reached bd_reached (da_cons (de_var 0) (da_cons (de_var 4) (da_cons (de_int) (da_cons (de_bl) (da_nil)))))) (da_nil))) (de_ix (de_var 1) (de_var 4)))))) (dss_one (ds_ret (de_bl))) (dss_nil))
  (dss_one (ds_if (dt_w (dw_and (dt_gt (de_var 4) (de_int)) (dw_and1 (dt_notin (de_var 4) (de_lcU (fin := finT) (own := [("row", 3)]) fin_T rfl sc_is_web.nd (di_list (de_var 2)) (blkOk_by (own := [("row", 3)]) (N := ["web", "places", "rows", "row", "part"]) (sc := defScope s_is_web) (by decide +kernel)) (fun _ _ _ _ _ => ⟨_, cg_name 3 sc_is_web.nd⟩) (fun _ _ _ _ _ => ⟨_, dts_nil⟩) (fun _ _ _ _ _ => ⟨_, de_ix (de_var 3) (de_int)⟩) s))))) (dss_one (ds_ret (de_bl))) (dss_nil)))))
  (dss_one (ds_ret (de_bl))))))), rp_is_web⟩

abbrev s_must_be_web : Stmt := topS 14
theorem sc_must_be_web : FnScope ["web"] ["web"] (defScope s_must_be_web) := ⟨rfl, rfl, rfl, by decide +kernel, rfl, by decide +kernel, by decide +kernel⟩
theorem kn_must_be_web {P : Program} {w : World} {K : PySem.W.Frag} {mg : Str → Option Value} {base : Heap} {k : Nat} (B : Bi mg) (M : Mi mg) (O : Ow K mg "must_be_web" s_must_be_web ["web"]) (G_is_web : Kn P w K mg base k "is_web" ["web"] C_is_web.s)  : Kn P w K mg base (k + 1) "must_be_web" ["web"] C_must_be_web.s := by
  obtain ⟨f, fd, F, gm, bd⟩ := O.ex
  obtain ⟨f_is_web, fd_is_web, ok_is_web, mg_is_web, kp_is_web, bd_is_web⟩ := G_is_web.ex
  refine ⟨f, fd, pfn_ok F sc_must_be_web ln_must_be_web ?_, gm, F.kp, bd⟩
  intro cdv A outer s H E hr
  exact ⟨_, rd_must_be_web, dss_one (ds_if (dt_not (dt_val (de_callT ok_is_web hr mg_is_web kp_is_web bd_is_web (da_cons (de_var 0) (da_nil))))) (dss_one (ds_never)) (dss_nil)), rp_must_be_web⟩

abbrev s_relation_at : Stmt := topS 16
theorem sc_relation_at : FnScope ["web", "part", "place", "found", "row", "here", "begun", "other"] ["web", "part", "place"] (defScope s_relation_at) := ⟨rfl, rfl, rfl, by decide +kernel, rfl, by decide +kernel, by decide +kernel⟩
theorem kn_relation_at {P : Program} {w : World} {K : PySem.W.Frag} {mg : Str → Option Value} {base : Heap} {k : Nat} (B : Bi mg) (M : Mi mg) (O : Ow K mg "relation_at" s_relation_at ["web", "part", "place"])   : Kn P w K mg base (k + 1) "relation_at" ["web", "part", "place"] C_relation_at.s := by
  obtain ⟨f, fd, F, gm, bd⟩ := O.ex
  refine ⟨f, fd, pfn_ok F sc_relation_at ln_relation_at ?_, gm, F.kp, bd⟩
  intro cdv A outer s H E hr
  exact ⟨_, rd_relation_at, dss_cons (ds_set 3 sc_relation_at.nd (de_lstH (da_nil)))
  (dss_cons (ds_for rfl (di_list (de_ix (de_var 0) (de_int))) (dg_name 4 sc_relation_at.nd) (dss_cons (ds_set 5 sc_relation_at.nd (de_eq hr (de_ix (de_var 4) (de_int)) (de_var 1)))
  (dss_one (ds_expr (de_append (de_var 3) (da_cons (de_sub (de_intOf B.h_int (da_cons (de_and (de_var 5) (de_one (de_eq hr (de_ix (de_var 4) (de_int)) (de_var 2)))) (da_nil))) (de_intOf B.h_int (da_cons (de_and (de_var 5) (de_one (de_eq hr (de_ix (de_var 4) (de_int)) (de_var 2)))) (da_nil)))) (da_nil)))))))
  (dss_cons (ds_set 6 sc_relation_at.nd (de_sub (de_intOf B.h_int (da_cons (de_eq hr (de_var 2) (de_int)) (da_nil))) (de_intOf B.h_int (da_cons (de_eq hr (de_var 2) (de_int)) (da_nil)))))
  (dss_one (ds_ret (de_addH (de_var 3) (de_lcU (fin := finT) (own := [("other", 7)]) fin_T rfl sc_relation_at.nd (di_range1 B.h_range (da_cons (de_len B.h_len (da_cons (de_ix (de_var 0) (de_int)) (da_nil))) (da_nil))) (blkOk_by (own := [("other", 7)]) (N := ["web", "part", "place", "found", "row", "here", "begun", "other"]) (sc := defScope s_relation_at) (by decide +kernel)) (fun _ _ _ _ _ => ⟨_, cg_name 7 sc_relation_at.nd⟩) (fun _ _ _ _ _ => ⟨_, dts_nil⟩) (fun _ _ _ _ _ => ⟨_, de_mul (de_var 6) (de_intOf B.h_int (da_cons (de_eq hr (de_var 7) (de_var 1)) (da_nil)))⟩) s)))))), rp_relation_at⟩

abbrev s_relation_of_calls : Stmt := topS 17
theorem sc_relation_of_calls : FnScope ["web", "part", "row", "other"] ["web", "part"] (defScope s_relation_of_calls) := ⟨rfl, rfl, rfl, by decide +kernel, rfl, by decide +kernel, by decide +kernel⟩
theorem kn_relation_of_calls {P : Program} {w : World} {K : PySem.W.Frag} {mg : Str → Option Value} {base : Heap} {k : Nat} (B : Bi mg) (M : Mi mg) (O : Ow K mg "relation_of_calls" s_relation_of_calls ["web", "part"])   : Kn P w K mg base (k + 1) "relation_of_calls" ["web", "part"] C_relation_of_calls.s := by
  obtain ⟨f, fd, F, gm, bd⟩ := O.ex
  refine ⟨f, fd, pfn_ok F sc_relation_of_calls ln_relation_of_calls ?_, gm, F.kp, bd⟩
  intro cdv A outer s H E hr
  exact ⟨_, rd_relation_of_calls, dss_one (ds_ret (de_addH (de_lcU (fin := finT) (own := [("row", 2)]) fin_T rfl sc_relation_of_calls.nd (di_list (de_ix (de_var 0) (de_int))) (blkOk_by (own := [("row", 2)]) (N := ["web", "part", "row", "other"]) (sc := defScope s_relation_of_calls) (by decide +kernel)) (fun _ _ _ _ _ => ⟨_, cg_name 2 sc_relation_of_calls.nd⟩) (fun _ _ _ _ _ => ⟨_, dts_nil⟩) (fun _ _ _ _ _ => ⟨_, de_intOf B.h_int (da_cons (de_eq hr (de_ix (de_var 2) (de_int)) (de_var 1)) (da_nil))⟩) s) (de_lcU (fin := finT) (own := [("other", 3)]) fin_T rfl sc_relation_of_calls.nd (di_range1 B.h_range (da_cons (de_len B.h_len (da_cons (de_ix (de_var 0) (de_int)) (da_nil))) (da_nil))) (blkOk_by (own := [("other", 3)]) (N := ["web", "part", "row", "other"]) (sc := defScope s_relation_of_calls) (by decide +kernel)) (fun _ _ _ _ _ => ⟨_, cg_name 3 sc_relation_of_calls.nd⟩) (fun _ _ _ _ _ => ⟨_, dts_nil⟩) (fun _ _ _ _ _ => ⟨_, de_sub (de_int) (de_intOf B.h_int (da_cons (de_eq hr (de_var 3) (de_var 1)) (da_nil)))⟩) s))), rp_relation_of_calls⟩

abbrev s_related : Stmt := topS 18
theorem sc_related : FnScope ["web", "found", "part", "place"] ["web"] (defScope s_related) := ⟨rfl, rfl, rfl, by decide +kernel, rfl, by decide +kernel, by decide +kernel⟩
theorem kn_related {P : Program} {w : World} {K : PySem.W.Frag} {mg : Str → Option Value} {base : Heap} {k : Nat} (B : Bi mg) (M : Mi mg) (O : Ow K mg "related" s_related ["web"]) (G_relation_at : Kn P w K mg base k "relation_at" ["web", "part", "place"] C_relation_at.s) (G_relation_of_calls : Kn P w K mg base k "relation_of_calls" ["web", "part"] C_relation_of_calls.s)  : Kn P w K mg base (k + 1) "related" ["web"] C_related.s := by
  obtain ⟨f, fd, F, gm, bd⟩ := O.ex
  obtain ⟨f_relation_at, fd_relation_at, ok_relation_at, mg_relation_at, kp_relation_at, bd_relation_at⟩ := G_relation_at.ex
  obtain ⟨f_relation_of_calls, fd_relation_of_calls, ok_relation_of_calls, mg_relation_of_calls, kp_relation_of_calls, bd_relation_of_calls⟩ := G_relation_of_calls.ex
  refine ⟨f, fd, pfn_ok F sc_related ln_related ?_, gm, F.kp, bd⟩
  intro cdv A outer s H E hr
  exact ⟨_, rd_related, dss_cons (ds_set 1 sc_related.nd (de_lst (da_nil)))
  (dss_cons (ds_for rfl (di_range1 B.h_range (da_cons (de_len B.h_len (da_cons (de_ix (de_var 0) (de_int)) (da_nil))) (da_nil))) (dg_name 2 sc_related.nd) (dss_one (ds_set 1 sc_related.nd (de_add (de_var 1) (de_lcU (fin := finT) (own := [("place", 3)]) fin_T rfl sc_related.nd (di_range1 B.h_range (da_cons (de_ix (de_ix (de_var 0) (de_int)) (de_var 2)) (da_nil))) (blkOk_by (own := [("place", 3)]) (N := ["web", "found", "part", "place"]) (sc := defScope s_related) (by decide +kernel)) (fun _ _ _ _ _ => ⟨_, cg_name 3 sc_related.nd⟩) (fun _ _ _ _ _ => ⟨_, dts_nil⟩) (fun _ _ _ _ _ => ⟨_, de_callT ok_relation_at hr mg_relation_at kp_relation_at bd_relation_at (da_cons (de_var 0) (da_cons (de_var 2) (da_cons (de_var 3) (da_nil))))⟩) s)))))
  (dss_one (ds_ret (de_addH (de_var 1) (de_lcU (fin := finT) (own := [("part", 2)]) fin_T rfl sc_related.nd (di_range2 B.h_range (da_cons (de_int) (da_cons (de_len B.h_len (da_cons (de_ix (de_var 0) (de_int)) (da_nil))) (da_nil)))) (blkOk_by (own := [("part", 2)]) (N := ["web", "found", "part", "place"]) (sc := defScope s_related) (by decide +kernel)) (fun _ _ _ _ _ => ⟨_, cg_name 2 sc_related.nd⟩) (fun _ _ _ _ _ => ⟨_, dts_nil⟩) (fun _ _ _ _ _ => ⟨_, de_callT ok_relation_of_calls hr mg_relation_of_calls kp_relation_of_calls bd_relation_of_calls (da_cons (de_var 0) (da_cons (de_var 2) (da_nil)))⟩) s))))), rp_related⟩

abbrev s_are_even : Stmt := topS 19
theorem sc_are_even : FnScope ["web", "numbers", "relation", "k"] ["web", "numbers"] (defScope s_are_even) := ⟨rfl, rfl, rfl, by decide +kernel, rfl, by decide +kernel, by decide +kernel⟩
theorem kn_are_even {P : Program} {w : World} {K : PySem.W.Frag} {mg : Str → Option Value} {base : Heap} {k : Nat} (B : Bi mg) (M : Mi mg) (O : Ow K mg "are_even" s_are_even ["web", "numbers"]) (G_related : Kn P w K mg base k "related" ["web"] C_related.s)  : Kn P w K mg base (k + 1) "are_even" ["web", "numbers"] C_are_even.s := by
  obtain ⟨f, fd, F, gm, bd⟩ := O.ex
  obtain ⟨f_related, fd_related, ok_related, mg_related, kp_related, bd_related⟩ := G_related.ex
  refine ⟨f, fd, pfn_ok F sc_are_even ln_are_even ?_, gm, F.kp, bd⟩
  intro cdv A outer s H E hr
  exact ⟨_, rd_are_even, dss_cons (ds_for rfl (di_list (de_callT ok_related hr mg_related kp_related bd_related (da_cons (de_var 0) (da_nil)))) (dg_name 2 sc_are_even.nd) (dss_one (ds_if (dt_ne hr (de_sum rfl B.h_sum (da_cons (de_lcU (fin := finT) (own := [("k", 3)]) fin_T rfl sc_are_even.nd (di_range1 B.h_range (da_cons (de_len B.h_len (da_cons (de_var 1) (da_nil))) (da_nil))) (blkOk_by (own := [("k", 3)]) (N := ["web", "numbers", "relation", "k"]) (sc := defScope s_are_even) (by decide +kernel)) (fun _ _ _ _ _ => ⟨_, cg_name 3 sc_are_even.nd⟩) (fun _ _ _ _ _ => ⟨_, dts_nil⟩) (fun _ _ _ _ _ => ⟨_, de_mul (de_ix (de_var 2) (de_var 3)) (de_ix (de_var 1) (de_var 3))⟩) s) (da_nil))) (de_int)) (dss_one (ds_ret (de_bl))) (dss_nil))))
  (dss_one (ds_ret (de_bl))), rp_are_even⟩

abbrev s_hang_on : Stmt := topS 20
theorem sc_hang_on : FnScope ["web", "part", "numbers", "some", "found", "many", "k"] ["web", "part", "numbers"] (defScope s_hang_on) := ⟨rfl, rfl, rfl, by decide +kernel, rfl, by decide +kernel, by decide +kernel⟩
theorem kn_hang_on {P : Program} {w : World} {K : PySem.W.Frag} {mg : Str → Option Value} {base : Heap} {k : Nat} (B : Bi mg) (M : Mi mg) (O : Ow K mg "hang_on" s_hang_on ["web", "part", "numbers"]) (G_rows_of : Kn P w K mg base k "rows_of" ["web", "part"] C_rows_of.s)  : Kn P w K mg base (k + 1) "hang_on" ["web", "part", "numbers"] C_hang_on.s := by
  obtain ⟨f, fd, F, gm, bd⟩ := O.ex
  obtain ⟨f_rows_of, fd_rows_of, ok_rows_of, mg_rows_of, kp_rows_of, bd_rows_of⟩ := G_rows_of.ex
  refine ⟨f, fd, pfn_ok F sc_hang_on ln_hang_on ?_, gm, F.kp, bd⟩
  intro cdv A outer s H E hr
  exact ⟨_, rd_hang_on, dss_cons (ds_setLcU 3 (fin := finT) (own := [("k", 6)]) fin_T rfl sc_hang_on.nd (di_list (de_callT ok_rows_of hr mg_rows_of kp_rows_of bd_rows_of (da_cons (de_var 0) (da_cons (de_var 1) (da_nil))))) (blkOk_by (own := [("k", 6)]) (N := ["web", "part", "numbers", "some", "found", "many", "k"]) (sc := defScope s_hang_on) (by decide +kernel)) (fun _ _ _ _ _ => ⟨_, cg_name 6 sc_hang_on.nd⟩) (fun _ _ _ _ _ => ⟨_, dts_one (dt_gt (de_ix (de_var 2) (de_var 6)) (de_int))⟩) (fun _ _ _ _ _ => ⟨_, de_var 6⟩) s)
  (dss_cons (ds_set 4 sc_hang_on.nd (de_disp (dp_cons (de_int) (de_bl) (dp_nil)) (by rfl) (by rfl) (fun z => by cases z) (by decide)))
  (dss_cons (ds_set 5 sc_hang_on.nd (de_int))
  (dss_cons (ds_while (dt_lt (de_var 5) (de_len B.h_len (da_cons (de_var 4) (da_nil)))) (dss_cons (ds_set 5 sc_hang_on.nd (de_len B.h_len (da_cons (de_var 4) (da_nil))))
  (dss_one (ds_for rfl (di_list (de_var 3)) (dg_name 6 sc_hang_on.nd) (dss_one (ds_if (dt_din hr (de_ix (de_ix (de_ix (de_var 0) (de_int)) (de_var 6)) (de_int)) (de_var 4)) (dss_one (ds_dput hr (de_var 4) (de_ix (de_ix (de_ix (de_var 0) (de_int)) (de_var 6)) (de_int)) (de_bl))) (dss_nil)))))))
  (dss_one (ds_ret (de_eq hr (de_len B.h_len (da_cons (de_lcU (fin := finT) (own := [("k", 6)]) fin_T rfl sc_hang_on.nd (di_list (de_var 3)) (blkOk_by (own := [("k", 6)]) (N := ["web", "part", "numbers", "some", "found", "many", "k"]) (sc := defScope s_hang_on) (by decide +kernel)) (fun _ _ _ _ _ => ⟨_, cg_name 6 sc_hang_on.nd⟩) (fun _ _ _ _ _ => ⟨_, dts_one (dt_dnotin hr (de_ix (de_ix (de_ix (de_var 0) (de_int)) (de_var 6)) (de_int)) (de_var 4))⟩) (fun _ _ _ _ _ => ⟨_, de_var 6⟩) s) (da_nil))) (de_int))))))), rp_hang_on⟩

abbrev s_right_counts : Stmt := topS 21
theorem sc_right_counts : FnScope ["web", "numbers", "part", "begun", "k"] ["web", "numbers"] (defScope s_right_counts) := ⟨rfl, rfl, rfl, by decide +kernel, rfl, by decide +kernel, by decide +kernel⟩
theorem kn_right_counts {P : Program} {w : World} {K : PySem.W.Frag} {mg : Str → Option Value} {base : Heap} {k : Nat} (B : Bi mg) (M : Mi mg) (O : Ow K mg "right_counts" s_right_counts ["web", "numbers"]) (G_are_even : Kn P w K mg base k "are_even" ["web", "numbers"] C_are_even.s) (G_rows_of : Kn P w K mg base k "rows_of" ["web", "part"] C_rows_of.s) (G_hang_on : Kn P w K mg base k "hang_on" ["web", "part", "numbers"] C_hang_on.s)  : Kn P w K mg base (k + 1) "right_counts" ["web", "numbers"] C_right_counts.s := by
  obtain ⟨f, fd, F, gm, bd⟩ := O.ex
  obtain ⟨f_are_even, fd_are_even, ok_are_even, mg_are_even, kp_are_even, bd_are_even⟩ := G_are_even.ex
  obtain ⟨f_rows_of, fd_rows_of, ok_rows_of, mg_rows_of, kp_rows_of, bd_rows_of⟩ := G_rows_of.ex
  obtain ⟨f_hang_on, fd_hang_on, ok_hang_on, mg_hang_on, kp_hang_on, bd_hang_on⟩ := G_hang_on.ex
  refine ⟨f, fd, pfn_ok F sc_right_counts ln_right_counts ?_, gm, F.kp, bd⟩
  intro cdv A outer s H E hr
  exact ⟨_, rd_right_counts, dss_cons (ds_if (dt_w (dw_or (dt_ne hr (de_len B.h_len (da_cons (de_var 1) (da_nil))) (de_add (de_len B.h_len (da_cons (de_ix (de_var 0) (de_int)) (da_nil))) (de_len B.h_len (da_cons (de_ix (de_var 0) (de_int)) (da_nil))))) (dw_or (dt_lt (de_min rfl B.h_min (da_cons (de_var 1) (da_nil))) (de_int)) (dw_or1 (dt_not (dt_val (de_callT ok_are_even hr mg_are_even kp_are_even bd_are_even (da_cons (de_var 0) (da_cons (de_var 1) (da_nil)))))))))) (dss_one (ds_ret (de_bl))) (dss_nil))
  (dss_cons (ds_for rfl (di_range1 B.h_range (da_cons (de_len B.h_len (da_cons (de_ix (de_var 0) (de_int)) (da_nil))) (da_nil))) (dg_name 2 sc_right_counts.nd) (dss_cons (ds_set 3 sc_right_counts.nd (de_ix (de_var 1) (de_add (de_len B.h_len (da_cons (de_ix (de_var 0) (de_int)) (da_nil))) (de_var 2))))
  (dss_one (ds_if (dt_w (dw_or (dt_w (dw_and (dt_eq hr (de_var 3) (de_int)) (dw_and1 (dt_gt (de_max rfl B.h_max (da_cons (de_lcU (fin := finT) (own := [("k", 4)]) fin_T rfl sc_right_counts.nd (di_list (de_callT ok_rows_of hr mg_rows_of kp_rows_of bd_rows_of (da_cons (de_var 0) (da_cons (de_var 2) (da_nil))))) (blkOk_by (own := [("k", 4)]) (N := ["web", "numbers", "part", "begun", "k"]) (sc := defScope s_right_counts) (by decide +kernel)) (fun _ _ _ _ _ => ⟨_, cg_name 4 sc_right_counts.nd⟩) (fun _ _ _ _ _ => ⟨_, dts_nil⟩) (fun _ _ _ _ _ => ⟨_, de_ix (de_var 1) (de_var 4)⟩) s) (da_nil))) (de_int))))) (dw_or1 (dt_not (dt_val (de_callT ok_hang_on hr mg_hang_on kp_hang_on bd_hang_on (da_cons (de_var 0) (da_cons (de_var 2) (da_cons (de_var 1) (da_nil)))))))))) (dss_one (ds_ret (de_bl))) (dss_nil)))))
  (dss_one (ds_ret (de_bl)))), rp_right_counts⟩

abbrev s_are_counts : Stmt := topS 22
theorem sc_are_counts : FnScope ["web", "numbers"] ["web", "numbers"] (defScope s_are_counts) := ⟨rfl, rfl, rfl, by decide +kernel, rfl, by decide +kernel, by decide +kernel⟩
theorem kn_are_counts {P : Program} {w : World} {K : PySem.W.Frag} {mg : Str → Option Value} {base : Heap} {k : Nat} (B : Bi mg) (M : Mi mg) (O : Ow K mg "are_counts" s_are_counts ["web", "numbers"]) (G_must_be_web : Kn P w K mg base k "must_be_web" ["web"] C_must_be_web.s) (G_right_counts : Kn P w K mg base k "right_counts" ["web", "numbers"] C_right_counts.s)  : Kn P w K mg base (k + 1) "are_counts" ["web", "numbers"] C_are_counts.s := by
  obtain ⟨f, fd, F, gm, bd⟩ := O.ex
  obtain ⟨f_must_be_web, fd_must_be_web, ok_must_be_web, mg_must_be_web, kp_must_be_web, bd_must_be_web⟩ := G_must_be_web.ex
  obtain ⟨f_right_counts, fd_right_counts, ok_right_counts, mg_right_counts, kp_right_counts, bd_right_counts⟩ := G_right_counts.ex
  refine ⟨f, fd, pfn_ok F sc_are_counts ln_are_counts ?_, gm, F.kp, bd⟩
  intro cdv A outer s H E hr
  exact ⟨_, rd_are_counts, dss_cons (ds_expr (de_callT ok_must_be_web hr mg_must_be_web kp_must_be_web bd_must_be_web (da_cons (de_var 0) (da_nil))))
  (dss_one (ds_ret (de_callH ok_right_counts hr mg_right_counts kp_right_counts bd_right_counts (da_cons (de_var 0) (da_cons (de_var 1) (da_nil)))))), rp_are_counts⟩

abbrev s_round_from : Stmt := topS 23
theorem sc_round_from : FnScope ["web", "place", "left", "found", "here", "some", "k"] ["web", "place", "left"] (defScope s_round_from) := ⟨rfl, rfl, rfl, by decide +kernel, rfl, by decide +kernel, by decide +kernel⟩
theorem kn_round_from {P : Program} {w : World} {K : PySem.W.Frag} {mg : Str → Option Value} {base : Heap} {k : Nat} (B : Bi mg) (M : Mi mg) (O : Ow K mg "round_from" s_round_from ["web", "place", "left"])   : Kn P w K mg base (k + 1) "round_from" ["web", "place", "left"] C_round_from := by
  obtain ⟨f, fd, F, gm, bd⟩ := O.ex
  refine ⟨f, fd, dfn_ok F sc_round_from ln_round_from ?_, gm, F.kp, bd⟩
  intro cdv A outer s H E hr
  exact ⟨_, rd_round_from, dss_cons (ds_set 3 sc_round_from.nd (de_lstH (da_nil)))
  (dss_cons (ds_set 4 sc_round_from.nd (de_var 1))
  (dss_cons (ds_setLcU 5 (fin := finT) (own := [("k", 6)]) fin_T rfl sc_round_from.nd (di_list (de_sortD rfl B.h_sorted (da_cons (de_var 2) (da_nil)))) (blkOk_by (own := [("k", 6)]) (N := ["web", "place", "left", "found", "here", "some", "k"]) (sc := defScope s_round_from) (by decide +kernel)) (fun _ _ _ _ _ => ⟨_, cg_name 6 sc_round_from.nd⟩) (fun _ _ _ _ _ => ⟨_, dts_one (dt_w (dw_and (dt_gt (de_get hr (de_var 2) (de_var 6)) (de_int)) (dw_and1 (dt_eq hr (de_ix (de_ix (de_ix (de_var 0) (de_int)) (de_var 6)) (de_int)) (de_var 4)))))⟩) (fun _ _ _ _ _ => ⟨_, de_var 6⟩) s)
  (dss_cons (ds_while (dt_gt (de_len B.h_len (da_cons (de_var 5) (da_nil))) (de_int)) (dss_cons (ds_daug (rd := fun _ _ _ _ => True) hr in_sub (de_var 2) (de_ix (de_var 5) (de_int)) (de_int))
  (dss_cons (ds_expr (de_append (de_var 3) (da_cons (de_ix (de_var 5) (de_int)) (da_nil))))
  (dss_cons (ds_set 4 sc_round_from.nd (de_ix (de_ix (de_ix (de_var 0) (de_int)) (de_ix (de_var 5) (de_int))) (de_int)))
  (dss_one (ds_setLcU 5 (fin := finT) (own := [("k", 6)]) fin_T rfl sc_round_from.nd (di_list (de_sortD rfl B.h_sorted (da_cons (de_var 2) (da_nil)))) (blkOk_by (own := [("k", 6)]) (N := ["web", "place", "left", "found", "here", "some", "k"]) (sc := defScope s_round_from) (by decide +kernel)) (fun _ _ _ _ _ => ⟨_, cg_name 6 sc_round_from.nd⟩) (fun _ _ _ _ _ => ⟨_, dts_one (dt_w (dw_and (dt_gt (de_get hr (de_var 2) (de_var 6)) (de_int)) (dw_and1 (dt_eq hr (de_ix (de_ix (de_ix (de_var 0) (de_int)) (de_var 6)) (de_int)) (de_var 4)))))⟩) (fun _ _ _ _ _ => ⟨_, de_var 6⟩) s))))))
  (dss_one (ds_ret (de_frz 3)))))), rp_round_from⟩

abbrev s_own_runs : Stmt := topS 24
theorem sc_own_runs : FnScope ["web", "part", "numbers", "left", "k", "found", "turn", "at", "run"] ["web", "part", "numbers"] (defScope s_own_runs) := ⟨rfl, rfl, rfl, by decide +kernel, rfl, by decide +kernel, by decide +kernel⟩
theorem kn_own_runs {P : Program} {w : World} {K : PySem.W.Frag} {mg : Str → Option Value} {base : Heap} {k : Nat} (B : Bi mg) (M : Mi mg) (O : Ow K mg "own_runs" s_own_runs ["web", "part", "numbers"]) (G_rows_of : Kn P w K mg base k "rows_of" ["web", "part"] C_rows_of.s) (G_round_from : Kn P w K mg base k "round_from" ["web", "place", "left"] C_round_from)  : Kn P w K mg base (k + 1) "own_runs" ["web", "part", "numbers"] C_own_runs.s := by
  obtain ⟨f, fd, F, gm, bd⟩ := O.ex
  obtain ⟨f_rows_of, fd_rows_of, ok_rows_of, mg_rows_of, kp_rows_of, bd_rows_of⟩ := G_rows_of.ex
  obtain ⟨f_round_from, fd_round_from, ok_round_from, mg_round_from, kp_round_from, bd_round_from⟩ := G_round_from.ex
  refine ⟨f, fd, pfn_ok F sc_own_runs ln_own_runs ?_, gm, F.kp, bd⟩
  intro cdv A outer s H E hr
  exact ⟨_, rd_own_runs, dss_cons (ds_set 3 sc_own_runs.nd (de_newD))
  (dss_cons (ds_for rfl (di_list (de_callT ok_rows_of hr mg_rows_of kp_rows_of bd_rows_of (da_cons (de_var 0) (da_cons (de_var 1) (da_nil))))) (dg_name 4 sc_own_runs.nd) (dss_one (ds_dput hr (de_var 3) (de_var 4) (de_ix (de_var 2) (de_var 4)))))
  (dss_cons (ds_set 5 sc_own_runs.nd (de_lstH (da_nil)))
  (dss_cons (ds_for rfl (di_range1 B.h_range (da_cons (de_ix (de_var 2) (de_add (de_len B.h_len (da_cons (de_ix (de_var 0) (de_int)) (da_nil))) (de_var 1))) (da_nil))) (dg_name 6 sc_own_runs.nd) (dss_one (ds_expr (de_append (de_var 5) (da_cons (de_callS ok_round_from hr mg_round_from kp_round_from bd_round_from (da_cons (de_var 0) (da_cons (de_int) (da_cons (de_var 3) (da_nil))))) (da_nil))))))
  (dss_cons (ds_for rfl (di_range1 B.h_range (da_cons (de_len B.h_len (da_cons (de_var 5) (da_nil))) (da_nil))) (dg_name 6 sc_own_runs.nd) (dss_cons (ds_set 7 sc_own_runs.nd (de_int))
  (dss_one (ds_while (dt_lt (de_var 7) (de_len B.h_len (da_cons (de_ix (de_var 5) (de_var 6)) (da_nil)))) (dss_cons (ds_set 8 sc_own_runs.nd (de_ix (de_var 5) (de_var 6)))
  (dss_cons (ds_asg (de_add (de_add (de_sl (de_var 8) (do_none) (do_some (de_var 7))) (de_callS ok_round_from hr mg_round_from kp_round_from bd_round_from (da_cons (de_var 0) (da_cons (de_ix (de_ix (de_ix (de_var 0) (de_int)) (de_ix (de_var 8) (de_var 7))) (de_int)) (da_cons (de_var 3) (da_nil)))))) (de_sl (de_var 8) (do_some (de_var 7)) (do_none))) (dg_sub (de_var 5) (de_var 6)))
  (dss_one (ds_aug 7 ip_add sc_own_runs.nd (de_int)))))))))
  (dss_one (ds_ret (de_var 5))))))), rp_own_runs⟩

abbrev s_called_in : Stmt := topS 25
theorem sc_called_in : FnScope ["web", "run", "waiting", "found", "k"] ["web", "run", "waiting"] (defScope s_called_in) := ⟨rfl, rfl, rfl, by decide +kernel, rfl, by decide +kernel, by decide +kernel⟩
theorem kn_called_in {P : Program} {w : World} {K : PySem.W.Frag} {mg : Str → Option Value} {base : Heap} {k : Nat} (B : Bi mg) (M : Mi mg) (O : Ow K mg "called_in" s_called_in ["web", "run", "waiting"])   : Kn P w K mg base (k + 1) "called_in" ["web", "run", "waiting"] C_called_in := by
  obtain ⟨f, fd, F, gm, bd⟩ := O.ex
  refine ⟨f, fd, dfn_ok F sc_called_in ln_called_in ?_, gm, F.kp, bd⟩
  intro cdv A outer s H E hr
  exact ⟨_, rd_called_in, dss_cons (ds_set 3 sc_called_in.nd (de_lstH (da_nil)))
  (dss_cons (ds_for rfl (di_list (de_var 1)) (dg_name 4 sc_called_in.nd) (dss_cons (ds_expr (de_append (de_var 3) (da_cons (de_var 4) (da_nil))))
  (dss_one (ds_if (dt_ge (de_ix (de_ix (de_ix (de_var 0) (de_int)) (de_var 4)) (de_int)) (de_int)) (dss_one (ds_set 3 sc_called_in.nd (de_addH (de_var 3) (de_pop (de_get hr (de_var 2) (de_ix (de_ix (de_ix (de_var 0) (de_int)) (de_var 4)) (de_int))))))) (dss_nil)))))
  (dss_one (ds_ret (de_var 3)))), rp_called_in⟩

abbrev s_made_heap : Stmt := topS 26
theorem sc_made_heap : FnScope ["web", "numbers", "waiting", "part", "found", "run"] ["web", "numbers"] (defScope s_made_heap) := ⟨rfl, rfl, rfl, by decide +kernel, rfl, by decide +kernel, by decide +kernel⟩
theorem kn_made_heap {P : Program} {w : World} {K : PySem.W.Frag} {mg : Str → Option Value} {base : Heap} {k : Nat} (B : Bi mg) (M : Mi mg) (O : Ow K mg "made_heap" s_made_heap ["web", "numbers"]) (G_own_runs : Kn P w K mg base k "own_runs" ["web", "part", "numbers"] C_own_runs.s) (G_called_in : Kn P w K mg base k "called_in" ["web", "run", "waiting"] C_called_in)  : Kn P w K mg base (k + 1) "made_heap" ["web", "numbers"] C_made_heap := by
  obtain ⟨f, fd, F, gm, bd⟩ := O.ex
  obtain ⟨f_own_runs, fd_own_runs, ok_own_runs, mg_own_runs, kp_own_runs, bd_own_runs⟩ := G_own_runs.ex
  obtain ⟨f_called_in, fd_called_in, ok_called_in, mg_called_in, kp_called_in, bd_called_in⟩ := G_called_in.ex
  refine ⟨f, fd, dfn_ok F sc_made_heap ln_made_heap ?_, gm, F.kp, bd⟩
  intro cdv A outer s H E hr
  exact ⟨_, rd_made_heap, dss_cons (ds_set 2 sc_made_heap.nd (de_newDw))
  (dss_cons (ds_for rfl (di_range3 B.h_range (da_cons (de_sub (de_len B.h_len (da_cons (de_ix (de_var 0) (de_int)) (da_nil))) (de_int)) (da_cons (de_neg (de_int)) (da_cons (de_neg (de_int)) (da_nil))))) (dg_name 3 sc_made_heap.nd) (dss_cons (ds_set 4 sc_made_heap.nd (de_lstW (da_nil)))
  (dss_cons (ds_for rfl (di_list (de_callT ok_own_runs hr mg_own_runs kp_own_runs bd_own_runs (da_cons (de_var 0) (da_cons (de_var 3) (da_cons (de_var 1) (da_nil)))))) (dg_name 5 sc_made_heap.nd) (dss_one (ds_expr (de_append (de_var 4) (da_cons (de_callS ok_called_in hr mg_called_in kp_called_in bd_called_in (da_cons (de_var 0) (da_cons (de_var 5) (da_cons (de_var 2) (da_nil))))) (da_nil))))))
  (dss_one (ds_dput hr (de_var 2) (de_var 3) (de_var 4))))))
  (dss_one (ds_ret (de_get hr (de_var 2) (de_int))))), rp_made_heap⟩

abbrev s_heap_of : Stmt := topS 27
theorem sc_heap_of : FnScope ["web", "numbers"] ["web", "numbers"] (defScope s_heap_of) := ⟨rfl, rfl, rfl, by decide +kernel, rfl, by decide +kernel, by decide +kernel⟩
theorem kn_heap_of {P : Program} {w : World} {K : PySem.W.Frag} {mg : Str → Option Value} {base : Heap} {k : Nat} (B : Bi mg) (M : Mi mg) (O : Ow K mg "heap_of" s_heap_of ["web", "numbers"]) (G_must_be_web : Kn P w K mg base k "must_be_web" ["web"] C_must_be_web.s) (G_right_counts : Kn P w K mg base k "right_counts" ["web", "numbers"] C_right_counts.s) (G_made_heap : Kn P w K mg base k "made_heap" ["web", "numbers"] C_made_heap)  : Kn P w K mg base (k + 1) "heap_of" ["web", "numbers"] C_heap_of := by
  obtain ⟨f, fd, F, gm, bd⟩ := O.ex
  obtain ⟨f_must_be_web, fd_must_be_web, ok_must_be_web, mg_must_be_web, kp_must_be_web, bd_must_be_web⟩ := G_must_be_web.ex
  obtain ⟨f_right_counts, fd_right_counts, ok_right_counts, mg_right_counts, kp_right_counts, bd_right_counts⟩ := G_right_counts.ex
  obtain ⟨f_made_heap, fd_made_heap, ok_made_heap, mg_made_heap, kp_made_heap, bd_made_heap⟩ := G_made_heap.ex
  refine ⟨f, fd, dfn_ok F sc_heap_of ln_heap_of ?_, gm, F.kp, bd⟩
  intro cdv A outer s H E hr
  exact ⟨_, rd_heap_of, dss_cons (ds_expr (de_callT ok_must_be_web hr mg_must_be_web kp_must_be_web bd_must_be_web (da_cons (de_var 0) (da_nil))))
  (dss_cons (ds_if (dt_not (dt_val (de_callT ok_right_counts hr mg_right_counts kp_right_counts bd_right_counts (da_cons (de_var 0) (da_cons (de_var 1) (da_nil)))))) (dss_one (ds_never)) (dss_nil))
  (dss_one (ds_ret (de_callS ok_made_heap hr mg_made_heap kp_made_heap bd_made_heap (da_cons (de_var 0) (da_cons (de_var 1) (da_nil))))))), rp_heap_of⟩

theorem kx_heap_of {P : Program} {w : World} {K : PySem.W.Frag} {mg : Str → Option Value} {base : Heap} {k : Nat} (B : Bi mg) (M : Mi mg) (XH : XF K mg RL ML) (O : Ow K mg "heap_of" s_heap_of ["web", "numbers"]) (G_must_be_web : Kn P w K mg base k "must_be_web" ["web"] C_must_be_web.s) (G_right_counts : Kn P w K mg base k "right_counts" ["web", "numbers"] C_right_counts.s) (G_made_heap : Kn P w K mg base k "made_heap" ["web", "numbers"] C_made_heap)  : KnX P w K mg base (k + 1) "heap_of" ["web", "numbers"] R_heap_of := by
  obtain ⟨f, fd, F, gm, bd⟩ := O.ex
  obtain ⟨f_must_be_web, fd_must_be_web, ok_must_be_web, mg_must_be_web, kp_must_be_web, bd_must_be_web⟩ := G_must_be_web.ex
  obtain ⟨f_right_counts, fd_right_counts, ok_right_counts, mg_right_counts, kp_right_counts, bd_right_counts⟩ := G_right_counts.ex
  obtain ⟨f_made_heap, fd_made_heap, ok_made_heap, mg_made_heap, kp_made_heap, bd_made_heap⟩ := G_made_heap.ex
  obtain ⟨c_NoCounts, x_NoCounts⟩ := XH.nm "NoCounts" (by decide)
  refine ⟨f, fd, xfn_ok F sc_heap_of lnx_heap_of ?_, gm, F.kp, bd, fun ts n h => (XH.nm n (hnx_heap_of ts n h)).elim fun C q => ⟨C, q.ns⟩⟩
  intro cdv A outer s H E hr tk
  exact ⟨_, rx_heap_of, dxs_cons (dx_plain (ds_expr (de_callT ok_must_be_web hr mg_must_be_web kp_must_be_web bd_must_be_web (da_cons (de_var 0) (da_nil)))))
  (dxs_cons (dx_if (dt_not (dt_val (de_callT ok_right_counts hr mg_right_counts kp_right_counts bd_right_counts (da_cons (de_var 0) (da_cons (de_var 1) (da_nil)))))) (dxs_one (dx_raise rfl tk x_NoCounts)) (dxs_nil))
  (dxs_one (dx_plain (ds_ret (de_callS ok_made_heap hr mg_made_heap kp_made_heap bd_made_heap (da_cons (de_var 0) (da_cons (de_var 1) (da_nil)))))))), rpx_heap_of⟩

abbrev s__law_refused : Stmt := topS 48
theorem sc__law_refused : FnScope ["_law_web_here", "_law_numbers", "_law_caught", "e"] ["_law_web_here", "_law_numbers"] (defScope s__law_refused) := ⟨rfl, rfl, rfl, by decide +kernel, rfl, by decide +kernel, by decide +kernel⟩
theorem kn__law_refused {P : Program} {w : World} {K : PySem.W.Frag} {mg : Str → Option Value} {base : Heap} {k : Nat} (B : Bi mg) (M : Mi mg) (XH : XF K mg RL ML) (O : Ow K mg "_law_refused" s__law_refused ["_law_web_here", "_law_numbers"])  (GX_heap_of : KnX P w K mg base k "heap_of" ["web", "numbers"] R_heap_of) : Kn P w K mg base (k + 1) "_law_refused" ["_law_web_here", "_law_numbers"] C__law_refused.s := by
  obtain ⟨f, fd, F, gm, bd⟩ := O.ex
  obtain ⟨fx_heap_of, fdx_heap_of, okx_heap_of, mgx_heap_of, kpx_heap_of, bdx_heap_of, hnx_heap_of⟩ := GX_heap_of.ex
  refine ⟨f, fd, pfn_ok F sc__law_refused ln__law_refused ?_, gm, F.kp, bd⟩
  intro cdv A outer s H E hr
  exact ⟨_, rd__law_refused, dss_cons (ds_set 2 sc__law_refused.nd (de_non))
  (dss_cons ((ds_try 3 2 (by decide) XH.xi sc__law_refused.nd (fun W pn xe tk => ⟨_, dxs_one (dx_expr (dex_call tk okx_heap_of hr mgx_heap_of kpx_heap_of bdx_heap_of hnx_heap_of (da_cons (de_var 0) (da_cons (de_var 1) (da_nil)))))⟩)).choose_spec)
  (dss_cons (ds_if (dt_val ((de_isXT 2 (ms := ["NoRun", "NoWay", "NoWeb"]) XH.xi B.h_isinstance (dcs_cons (dc_cls XH.xi) (dcs_cons (dc_cls XH.xi) (dcs_cons (dc_cls XH.xi) dcs_nil)))).choose_spec)) (dss_one (ds_ret (de_bl))) (dss_nil))
  (dss_one (ds_ret (de_and ((de_isX1 2 (m := "NoCounts") XH.xi B.h_isinstance (dc_cls XH.xi)).choose_spec) (de_one ((de_isX1 2 (m := "ValueError") XH.xi B.h_isinstance (dc_val XH.xi)).choose_spec))))))), rp__law_refused⟩

abbrev s_law : Stmt := topS 49
theorem sc_law : FnScope ["_law_script", "_law_parts", "_law_most", "_law_web_here", "_law_tally_here", "_law_listed", "_law_numbers", "_law_handed", "_law_due", "_law_right", "_law_turn", "_law_heap_here", "_law_run_here", "_law_k"] ["_law_script"] (defScope s_law) := ⟨rfl, rfl, rfl, by decide +kernel, rfl, by decide +kernel, by decide +kernel⟩
theorem kl_law {P : Program} {w : World} {K : PySem.W.Frag} {mg : Str → Option Value} {base : Heap} {k : Nat} {f : Addr} {fd : FuncData} (B : Bi mg) (M : Mi mg) (F : Fun K "law" "law" s_law f fd) (G__law_draw : Kn P w K mg base k "_law_draw" ["_law_left_here", "_law_base"] C__law_draw) (G__law_left : Kn P w K mg base k "_law_left" ["_law_script", "_law_k"] C__law_left.s) (G__law_web : Kn P w K mg base k "_law_web" ["_law_script", "_law_parts_most", "_law_most"] C__law_web) (G__law_tally : Kn P w K mg base k "_law_tally" ["_law_web_here", "_law_heap_here"] C__law_tally.s) (G__law_heap : Kn P w K mg base k "_law_heap" ["_law_script", "_law_at", "_law_web_here", "_law_most_runs", "_law_most"] C__law_heap.s) (G__law_changed : Kn P w K mg base k "_law_changed" ["_law_web_here", "_law_tally_here", "_law_left_here"] C__law_changed) (G__law_copy : Kn P w K mg base k "_law_copy" ["_law_web_here"] C__law_copy.s) (G__law_are_counts : Kn P w K mg base k "_law_are_counts" ["_law_web_here", "_law_numbers"] C__law_are_counts.s) (G_are_counts : Kn P w K mg base k "are_counts" ["web", "numbers"] C_are_counts.s) (G_heap_of : Kn P w K mg base k "heap_of" ["web", "numbers"] C_heap_of) (G__law_refused : Kn P w K mg base k "_law_refused" ["_law_web_here", "_law_numbers"] C__law_refused.s)  : FnOk P w K mg base CX0 (k + 1) f fd ["_law_script"] (sps K C_law) := by
  obtain ⟨f__law_draw, fd__law_draw, ok__law_draw, mg__law_draw, kp__law_draw, bd__law_draw⟩ := G__law_draw.ex
  obtain ⟨f__law_left, fd__law_left, ok__law_left, mg__law_left, kp__law_left, bd__law_left⟩ := G__law_left.ex
  obtain ⟨f__law_web, fd__law_web, ok__law_web, mg__law_web, kp__law_web, bd__law_web⟩ := G__law_web.ex
  obtain ⟨f__law_tally, fd__law_tally, ok__law_tally, mg__law_tally, kp__law_tally, bd__law_tally⟩ := G__law_tally.ex
  obtain ⟨f__law_heap, fd__law_heap, ok__law_heap, mg__law_heap, kp__law_heap, bd__law_heap⟩ := G__law_heap.ex
  obtain ⟨f__law_changed, fd__law_changed, ok__law_changed, mg__law_changed, kp__law_changed, bd__law_changed⟩ := G__law_changed.ex
  obtain ⟨f__law_copy, fd__law_copy, ok__law_copy, mg__law_copy, kp__law_copy, bd__law_copy⟩ := G__law_copy.ex
  obtain ⟨f__law_are_counts, fd__law_are_counts, ok__law_are_counts, mg__law_are_counts, kp__law_are_counts, bd__law_are_counts⟩ := G__law_are_counts.ex
  obtain ⟨f_are_counts, fd_are_counts, ok_are_counts, mg_are_counts, kp_are_counts, bd_are_counts⟩ := G_are_counts.ex
  obtain ⟨f_heap_of, fd_heap_of, ok_heap_of, mg_heap_of, kp_heap_of, bd_heap_of⟩ := G_heap_of.ex
  obtain ⟨f__law_refused, fd__law_refused, ok__law_refused, mg__law_refused, kp__law_refused, bd__law_refused⟩ := G__law_refused.ex
  refine dfn_ok F sc_law ln_law ?_
  intro cdv A outer s H E hr
  exact ⟨_, rd_law, dss_cons (ds_asg (de_ix (de_lst (da_cons (de_tup (da_cons (de_int) (da_cons (de_int) (da_nil)))) (da_cons (de_tup (da_cons (de_int) (da_cons (de_int) (da_nil)))) (da_nil)))) (de_callS ok__law_draw hr mg__law_draw kp__law_draw bd__law_draw (da_cons (de_callH ok__law_left hr mg__law_left kp__law_left bd__law_left (da_cons (de_var 0) (da_cons (de_int) (da_nil)))) (da_cons (de_int) (da_nil))))) (dg_tup rfl (dgs_cons (dg_name 1 sc_law.nd) (dgs_cons (dg_name 2 sc_law.nd) (dgs_nil)))))
  (dss_cons (ds_set 3 sc_law.nd (de_callS ok__law_web hr mg__law_web kp__law_web bd__law_web (da_cons (de_var 0) (da_cons (de_var 1) (da_cons (de_var 2) (da_nil))))))
  (dss_cons (ds_set 4 sc_law.nd (de_callT ok__law_tally hr mg__law_tally kp__law_tally bd__law_tally (da_cons (de_var 3) (da_cons (de_callT ok__law_heap hr mg__law_heap kp__law_heap bd__law_heap (da_cons (de_var 0) (da_cons (de_int) (da_cons (de_var 3) (da_cons (de_int) (da_cons (de_int) (da_nil))))))) (da_nil)))))
  (dss_cons (ds_set 5 sc_law.nd (de_add (de_lst (da_cons (de_var 4) (da_nil))) (de_lcU (fin := finT) (own := [("_law_k", 13)]) fin_T rfl sc_law.nd (di_range2 B.h_range (da_cons (de_int) (da_cons (de_int) (da_nil)))) (blkOk_by (own := [("_law_k", 13)]) (N := ["_law_script", "_law_parts", "_law_most", "_law_web_here", "_law_tally_here", "_law_listed", "_law_numbers", "_law_handed", "_law_due", "_law_right", "_law_turn", "_law_heap_here", "_law_run_here", "_law_k"]) (sc := defScope s_law) (by decide +kernel)) (fun _ _ _ _ _ => ⟨_, cg_name 13 sc_law.nd⟩) (fun _ _ _ _ _ => ⟨_, dts_nil⟩) (fun _ _ _ _ _ => ⟨_, de_callS ok__law_changed hr mg__law_changed kp__law_changed bd__law_changed (da_cons (de_var 3) (da_cons (de_var 4) (da_cons (de_callH ok__law_left hr mg__law_left kp__law_left bd__law_left (da_cons (de_var 0) (da_cons (de_var 13) (da_nil)))) (da_nil))))⟩) s)))
  (dss_cons (ds_for rfl (di_list (de_var 5)) (dg_name 6 sc_law.nd) (dss_cons (ds_set 7 sc_law.nd (de_lst (da_cons (de_callT ok__law_copy hr mg__law_copy kp__law_copy bd__law_copy (da_cons (de_var 3) (da_nil))) (da_cons (de_listOf B.h_list (da_cons (de_var 6) (da_nil))) (da_nil)))))
  (dss_cons (ds_set 8 sc_law.nd (de_callT ok__law_are_counts hr mg__law_are_counts kp__law_are_counts bd__law_are_counts (da_cons (de_var 3) (da_cons (de_var 6) (da_nil)))))
  (dss_cons (ds_set 9 sc_law.nd (de_callT ok_are_counts hr mg_are_counts kp_are_counts bd_are_counts (da_cons (de_ix (de_var 7) (de_int)) (da_cons (de_ix (de_var 7) (de_int)) (da_nil)))))
  (dss_cons (ds_if (dt_w (dw_or (dt_not (dt_val (de_isi B.h_isinstance (da_cons (de_var 9) (da_cons (de_bltn (by rfl) B.h_bool (by decide +kernel)) (da_nil)))))) (dw_or1 (dt_ne hr (de_var 9) (de_var 8))))) (dss_one (ds_ret (de_bl))) (dss_nil))
  (dss_cons (ds_if (dt_val (de_var 8)) (dss_one (ds_for rfl (di_range1 B.h_range (da_cons (de_int) (da_nil))) (dg_name 10 sc_law.nd) (dss_cons (ds_set 11 sc_law.nd (de_callS ok_heap_of hr mg_heap_of kp_heap_of bd_heap_of (da_cons (de_ix (de_var 7) (de_int)) (da_cons (de_ix (de_var 7) (de_int)) (da_nil)))))
  (dss_cons (ds_if (dt_w (dw_or (dt_not (dt_val (de_isi B.h_isinstance (da_cons (de_var 11) (da_cons (de_bltn (by rfl) B.h_list (by decide +kernel)) (da_nil)))))) (dw_or1 (dt_ne hr (de_callF ok__law_tally hr mg__law_tally kp__law_tally bd__law_tally (da_cons (de_var 3) (da_cons (de_var 11) (da_nil)))) (de_var 6))))) (dss_one (ds_ret (de_bl))) (dss_nil))
  (dss_cons (ds_for rfl (di_list (de_var 11)) (dg_name 12 sc_law.nd) (dss_one (ds_expr (de_append (de_var 12) (da_cons (de_neg (de_int)) (da_nil))))))
  (dss_one (ds_expr (de_append (de_var 11) (da_cons (de_lst (da_nil)) (da_nil)))))))))) (dss_one (ds_if (dt_not (dt_val (de_callT ok__law_refused hr mg__law_refused kp__law_refused bd__law_refused (da_cons (de_ix (de_var 7) (de_int)) (da_cons (de_ix (de_var 7) (de_int)) (da_nil)))))) (dss_one (ds_ret (de_bl))) (dss_nil))))
  (dss_one (ds_if (dt_ne hr (de_var 7) (de_lst (da_cons (de_var 3) (da_cons (de_var 6) (da_nil))))) (dss_one (ds_ret (de_bl))) (dss_nil)))))))))
  (dss_one (ds_ret (de_bl))))))), rp_law⟩

/-! the law's promise -/
def spLaw (K : PySem.W.Frag) : L2.Sp := fun vs H Q _ => ∃ (a : Addr) (ns : List Int), vs = [.ref a] ∧ SqL K H a (ns.map V.int) ∧ ns.length ≤ 63 ∧ (∀ z ∈ ns, Builtin.Int.intBits z ≤ 1048576) ∧ ∀ H', Q (.bl true) H'
theorem spLaw_of {K : PySem.W.Frag} : ∀ vs H Q E, spLaw K vs H Q E → sps K C_law vs H Q E := by
  rintro vs H Q E ⟨a, ns, rfl, hS, hl, hb, q⟩
  refine ⟨[], H, fun _ => none, [], [.t (.sq (ns.map T.int))], fun w m cs => w = .t (.bl true), ⟨fun _ _ e => e, (fun _ _ e => by cases e), fun _ _ _ => rfl, rfl, (fun n c e => by simp at e), (fun n k c d a e => by simp at e)⟩, .cons ?_ .nil, ⟨ns, rfl, rfl, hl, hb, rfl⟩, fun al2 S' H' m1 cs v w R' _ _ d e => ?_⟩
  · unfold DenW Den
    exact ⟨a, ns.map V.int, rfl, hS, Dens.iff.mpr (den_ints ns)⟩
  · subst e
    unfold DenW Den at d
    subst d
    exact q H'

theorem all_mk {l : PySem.W.OpenLaw} {w : World} {K : PySem.W.Frag} {h : Heap} {mg : Str → Option Value} {fa f1 f2 f3 f4 f5 f6 f7 f8 f9 f10 f11 f12 f13 f14 f15 f16 f17 f18 f19 f20 f21 f22 f23 f24 f25 f26 f27 f28 f29 f30 f31 f32 f33 f34 f35 f36 f37 f38 : Addr} (X : K.In h) (G : h.Ns mainGlobals mg) (hfa : mg "law" = some (.ref fa))
    {od1 an1 od2 an2 od3 an3 od4 an4 od5 an5 od6 an6 od7 an7 od8 an8 od9 an9 od10 an10 od11 an11 od12 an12 od13 an13 od14 an14 od15 an15 od16 an16 od17 an17 od18 an18 od19 an19 od20 an20 od21 an21 od22 an22 od23 an23 od24 an24 od25 an25 od26 an26 od27 an27 od28 an28 od29 an29 od30 an30 od31 an31 od32 an32 od33 an33 od34 an34 od35 an35 od36 an36 od37 an37 od38 an38 : Option Addr} {sl1 sl2 sl3 sl4 sl5 sl6 sl7 sl8 sl9 sl10 sl11 sl12 sl13 sl14 sl15 sl16 sl17 sl18 sl19 sl20 sl21 sl22 sl23 sl24 sl25 sl26 sl27 sl28 sl29 sl30 sl31 sl32 sl33 sl34 sl35 sl36 sl37 sl38 : Array (Option Value)} {oc1 kV1 dc1 pm1 cd1 ct1 oc2 kV2 dc2 pm2 cd2 ct2 oc3 kV3 dc3 pm3 cd3 ct3 oc4 kV4 dc4 pm4 cd4 ct4 oc5 kV5 dc5 pm5 cd5 ct5 oc6 kV6 dc6 pm6 cd6 ct6 oc7 kV7 dc7 pm7 cd7 ct7 oc8 kV8 dc8 pm8 cd8 ct8 oc9 kV9 dc9 pm9 cd9 ct9 oc10 kV10 dc10 pm10 cd10 ct10 oc11 kV11 dc11 pm11 cd11 ct11 oc12 kV12 dc12 pm12 cd12 ct12 oc13 kV13 dc13 pm13 cd13 ct13 oc14 kV14 dc14 pm14 cd14 ct14 oc15 kV15 dc15 pm15 cd15 ct15 oc16 kV16 dc16 pm16 cd16 ct16 oc17 kV17 dc17 pm17 cd17 ct17 oc18 kV18 dc18 pm18 cd18 ct18 oc19 kV19 dc19 pm19 cd19 ct19 oc20 kV20 dc20 pm20 cd20 ct20 oc21 kV21 dc21 pm21 cd21 ct21 oc22 kV22 dc22 pm22 cd22 ct22 oc23 kV23 dc23 pm23 cd23 ct23 oc24 kV24 dc24 pm24 cd24 ct24 oc25 kV25 dc25 pm25 cd25 ct25 oc26 kV26 dc26 pm26 cd26 ct26 oc27 kV27 dc27 pm27 cd27 ct27 oc28 kV28 dc28 pm28 cd28 ct28 oc29 kV29 dc29 pm29 cd29 ct29 oc30 kV30 dc30 pm30 cd30 ct30 oc31 kV31 dc31 pm31 cd31 ct31 oc32 kV32 dc32 pm32 cd32 ct32 oc33 kV33 dc33 pm33 cd33 ct33 oc34 kV34 dc34 pm34 cd34 ct34 oc35 kV35 dc35 pm35 cd35 ct35 oc36 kV36 dc36 pm36 cd36 ct36 oc37 kV37 dc37 pm37 cd37 ct37 oc38 kV38 dc38 pm38 cd38 ct38 : Value} {tk_MOST_PLACES : Tok} {tk_MOST_PARTS : Tok} {tk_MOST_ROWS : Tok}
    (a1 : PySem.W.nsIn K mainGlobals "_law_mix" = some (some (.ref f1))) (l1 : K.lookup f1 = some ⟨oc1, od1, .func (PySem.W.fnOf "_law_mix" "_law_mix" (defArgs s__law_mix) (defBody s__law_mix) (defScope s__law_mix) .none kV1 dc1 pm1 an1 cd1 ct1), sl1⟩) (c1 : PySem.W.codeIn K cd1 "_law_mix" = true) (k1 : PySem.W.keepIn K (.ref f1) = true)
    (a2 : PySem.W.nsIn K mainGlobals "_law_draw" = some (some (.ref f2))) (l2 : K.lookup f2 = some ⟨oc2, od2, .func (PySem.W.fnOf "_law_draw" "_law_draw" (defArgs s__law_draw) (defBody s__law_draw) (defScope s__law_draw) .none kV2 dc2 pm2 an2 cd2 ct2), sl2⟩) (c2 : PySem.W.codeIn K cd2 "_law_draw" = true) (k2 : PySem.W.keepIn K (.ref f2) = true)
    (a3 : PySem.W.nsIn K mainGlobals "_law_cell_at" = some (some (.ref f3))) (l3 : K.lookup f3 = some ⟨oc3, od3, .func (PySem.W.fnOf "_law_cell_at" "_law_cell_at" (defArgs s__law_cell_at) (defBody s__law_cell_at) (defScope s__law_cell_at) .none kV3 dc3 pm3 an3 cd3 ct3), sl3⟩) (c3 : PySem.W.codeIn K cd3 "_law_cell_at" = true) (k3 : PySem.W.keepIn K (.ref f3) = true)
    (a4 : PySem.W.nsIn K mainGlobals "_law_left" = some (some (.ref f4))) (l4 : K.lookup f4 = some ⟨oc4, od4, .func (PySem.W.fnOf "_law_left" "_law_left" (defArgs s__law_left) (defBody s__law_left) (defScope s__law_left) .none kV4 dc4 pm4 an4 cd4 ct4), sl4⟩) (c4 : PySem.W.codeIn K cd4 "_law_left" = true) (k4 : PySem.W.keepIn K (.ref f4) = true)
    (a5 : PySem.W.nsIn K mainGlobals "_law_part" = some (some (.ref f5))) (l5 : K.lookup f5 = some ⟨oc5, od5, .func (PySem.W.fnOf "_law_part" "_law_part" (defArgs s__law_part) (defBody s__law_part) (defScope s__law_part) .none kV5 dc5 pm5 an5 cd5 ct5), sl5⟩) (c5 : PySem.W.codeIn K cd5 "_law_part" = true) (k5 : PySem.W.keepIn K (.ref f5) = true)
    (a6 : PySem.W.nsIn K mainGlobals "_law_web" = some (some (.ref f6))) (l6 : K.lookup f6 = some ⟨oc6, od6, .func (PySem.W.fnOf "_law_web" "_law_web" (defArgs s__law_web) (defBody s__law_web) (defScope s__law_web) .none kV6 dc6 pm6 an6 cd6 ct6), sl6⟩) (c6 : PySem.W.codeIn K cd6 "_law_web" = true) (k6 : PySem.W.keepIn K (.ref f6) = true)
    (a7 : PySem.W.nsIn K mainGlobals "_law_stack" = some (some (.ref f7))) (l7 : K.lookup f7 = some ⟨oc7, od7, .func (PySem.W.fnOf "_law_stack" "_law_stack" (defArgs s__law_stack) (defBody s__law_stack) (defScope s__law_stack) .none kV7 dc7 pm7 an7 cd7 ct7), sl7⟩) (c7 : PySem.W.codeIn K cd7 "_law_stack" = true) (k7 : PySem.W.keepIn K (.ref f7) = true)
    (a8 : PySem.W.nsIn K mainGlobals "_law_tally" = some (some (.ref f8))) (l8 : K.lookup f8 = some ⟨oc8, od8, .func (PySem.W.fnOf "_law_tally" "_law_tally" (defArgs s__law_tally) (defBody s__law_tally) (defScope s__law_tally) .none kV8 dc8 pm8 an8 cd8 ct8), sl8⟩) (c8 : PySem.W.codeIn K cd8 "_law_tally" = true) (k8 : PySem.W.keepIn K (.ref f8) = true)
    (a9 : PySem.W.nsIn K mainGlobals "_law_far" = some (some (.ref f9))) (l9 : K.lookup f9 = some ⟨oc9, od9, .func (PySem.W.fnOf "_law_far" "_law_far" (defArgs s__law_far) (defBody s__law_far) (defScope s__law_far) .none kV9 dc9 pm9 an9 cd9 ct9), sl9⟩) (c9 : PySem.W.codeIn K cd9 "_law_far" = true) (k9 : PySem.W.keepIn K (.ref f9) = true)
    (a10 : PySem.W.nsIn K mainGlobals "_law_leaving" = some (some (.ref f10))) (l10 : K.lookup f10 = some ⟨oc10, od10, .func (PySem.W.fnOf "_law_leaving" "_law_leaving" (defArgs s__law_leaving) (defBody s__law_leaving) (defScope s__law_leaving) .none kV10 dc10 pm10 an10 cd10 ct10), sl10⟩) (c10 : PySem.W.codeIn K cd10 "_law_leaving" = true) (k10 : PySem.W.keepIn K (.ref f10) = true)
    (a11 : PySem.W.nsIn K mainGlobals "_law_behind" = some (some (.ref f11))) (l11 : K.lookup f11 = some ⟨oc11, od11, .func (PySem.W.fnOf "_law_behind" "_law_behind" (defArgs s__law_behind) (defBody s__law_behind) (defScope s__law_behind) .none kV11 dc11 pm11 an11 cd11 ct11), sl11⟩) (c11 : PySem.W.codeIn K cd11 "_law_behind" = true) (k11 : PySem.W.keepIn K (.ref f11) = true)
    (a12 : PySem.W.nsIn K mainGlobals "_law_run" = some (some (.ref f12))) (l12 : K.lookup f12 = some ⟨oc12, od12, .func (PySem.W.fnOf "_law_run" "_law_run" (defArgs s__law_run) (defBody s__law_run) (defScope s__law_run) .none kV12 dc12 pm12 an12 cd12 ct12), sl12⟩) (c12 : PySem.W.codeIn K cd12 "_law_run" = true) (k12 : PySem.W.keepIn K (.ref f12) = true)
    (a13 : PySem.W.nsIn K mainGlobals "_law_heap" = some (some (.ref f13))) (l13 : K.lookup f13 = some ⟨oc13, od13, .func (PySem.W.fnOf "_law_heap" "_law_heap" (defArgs s__law_heap) (defBody s__law_heap) (defScope s__law_heap) .none kV13 dc13 pm13 an13 cd13 ct13), sl13⟩) (c13 : PySem.W.codeIn K cd13 "_law_heap" = true) (k13 : PySem.W.keepIn K (.ref f13) = true)
    (a14 : PySem.W.nsIn K mainGlobals "_law_round" = some (some (.ref f14))) (l14 : K.lookup f14 = some ⟨oc14, od14, .func (PySem.W.fnOf "_law_round" "_law_round" (defArgs s__law_round) (defBody s__law_round) (defScope s__law_round) .none kV14 dc14 pm14 an14 cd14 ct14), sl14⟩) (c14 : PySem.W.codeIn K cd14 "_law_round" = true) (k14 : PySem.W.keepIn K (.ref f14) = true)
    (a15 : PySem.W.nsIn K mainGlobals "_law_changed" = some (some (.ref f15))) (l15 : K.lookup f15 = some ⟨oc15, od15, .func (PySem.W.fnOf "_law_changed" "_law_changed" (defArgs s__law_changed) (defBody s__law_changed) (defScope s__law_changed) .none kV15 dc15 pm15 an15 cd15 ct15), sl15⟩) (c15 : PySem.W.codeIn K cd15 "_law_changed" = true) (k15 : PySem.W.keepIn K (.ref f15) = true)
    (a16 : PySem.W.nsIn K mainGlobals "_law_copy" = some (some (.ref f16))) (l16 : K.lookup f16 = some ⟨oc16, od16, .func (PySem.W.fnOf "_law_copy" "_law_copy" (defArgs s__law_copy) (defBody s__law_copy) (defScope s__law_copy) .none kV16 dc16 pm16 an16 cd16 ct16), sl16⟩) (c16 : PySem.W.codeIn K cd16 "_law_copy" = true) (k16 : PySem.W.keepIn K (.ref f16) = true)
    (a17 : PySem.W.nsIn K mainGlobals "_law_every" = some (some (.ref f17))) (l17 : K.lookup f17 = some ⟨oc17, od17, .func (PySem.W.fnOf "_law_every" "_law_every" (defArgs s__law_every) (defBody s__law_every) (defScope s__law_every) .none kV17 dc17 pm17 an17 cd17 ct17), sl17⟩) (c17 : PySem.W.codeIn K cd17 "_law_every" = true) (k17 : PySem.W.keepIn K (.ref f17) = true)
    (a18 : PySem.W.nsIn K mainGlobals "_law_hangs" = some (some (.ref f18))) (l18 : K.lookup f18 = some ⟨oc18, od18, .func (PySem.W.fnOf "_law_hangs" "_law_hangs" (defArgs s__law_hangs) (defBody s__law_hangs) (defScope s__law_hangs) .none kV18 dc18 pm18 an18 cd18 ct18), sl18⟩) (c18 : PySem.W.codeIn K cd18 "_law_hangs" = true) (k18 : PySem.W.keepIn K (.ref f18) = true)
    (a19 : PySem.W.nsIn K mainGlobals "_law_are_counts" = some (some (.ref f19))) (l19 : K.lookup f19 = some ⟨oc19, od19, .func (PySem.W.fnOf "_law_are_counts" "_law_are_counts" (defArgs s__law_are_counts) (defBody s__law_are_counts) (defScope s__law_are_counts) .none kV19 dc19 pm19 an19 cd19 ct19), sl19⟩) (c19 : PySem.W.codeIn K cd19 "_law_are_counts" = true) (k19 : PySem.W.keepIn K (.ref f19) = true)
    (a20 : PySem.W.nsIn K mainGlobals "fits_row" = some (some (.ref f20))) (l20 : K.lookup f20 = some ⟨oc20, od20, .func (PySem.W.fnOf "fits_row" "fits_row" (defArgs s_fits_row) (defBody s_fits_row) (defScope s_fits_row) .none kV20 dc20 pm20 an20 cd20 ct20), sl20⟩) (c20 : PySem.W.codeIn K cd20 "fits_row" = true) (k20 : PySem.W.keepIn K (.ref f20) = true)
    (a21 : PySem.W.nsIn K mainGlobals "rows_of" = some (some (.ref f21))) (l21 : K.lookup f21 = some ⟨oc21, od21, .func (PySem.W.fnOf "rows_of" "rows_of" (defArgs s_rows_of) (defBody s_rows_of) (defScope s_rows_of) .none kV21 dc21 pm21 an21 cd21 ct21), sl21⟩) (c21 : PySem.W.codeIn K cd21 "rows_of" = true) (k21 : PySem.W.keepIn K (.ref f21) = true)
    (a22 : PySem.W.nsIn K mainGlobals "reached" = some (some (.ref f22))) (l22 : K.lookup f22 = some ⟨oc22, od22, .func (PySem.W.fnOf "reached" "reached" (defArgs s_reached) (defBody s_reached) (defScope s_reached) .none kV22 dc22 pm22 an22 cd22 ct22), sl22⟩) (c22 : PySem.W.codeIn K cd22 "reached" = true) (k22 : PySem.W.keepIn K (.ref f22) = true)
    (a23 : PySem.W.nsIn K mainGlobals "is_web" = some (some (.ref f23))) (l23 : K.lookup f23 = some ⟨oc23, od23, .func (PySem.W.fnOf "is_web" "is_web" (defArgs s_is_web) (defBody s_is_web) (defScope s_is_web) .none kV23 dc23 pm23 an23 cd23 ct23), sl23⟩) (c23 : PySem.W.codeIn K cd23 "is_web" = true) (k23 : PySem.W.keepIn K (.ref f23) = true)
    (a24 : PySem.W.nsIn K mainGlobals "must_be_web" = some (some (.ref f24))) (l24 : K.lookup f24 = some ⟨oc24, od24, .func (PySem.W.fnOf "must_be_web" "must_be_web" (defArgs s_must_be_web) (defBody s_must_be_web) (defScope s_must_be_web) .none kV24 dc24 pm24 an24 cd24 ct24), sl24⟩) (c24 : PySem.W.codeIn K cd24 "must_be_web" = true) (k24 : PySem.W.keepIn K (.ref f24) = true)
    (a25 : PySem.W.nsIn K mainGlobals "relation_at" = some (some (.ref f25))) (l25 : K.lookup f25 = some ⟨oc25, od25, .func (PySem.W.fnOf "relation_at" "relation_at" (defArgs s_relation_at) (defBody s_relation_at) (defScope s_relation_at) .none kV25 dc25 pm25 an25 cd25 ct25), sl25⟩) (c25 : PySem.W.codeIn K cd25 "relation_at" = true) (k25 : PySem.W.keepIn K (.ref f25) = true)
    (a26 : PySem.W.nsIn K mainGlobals "relation_of_calls" = some (some (.ref f26))) (l26 : K.lookup f26 = some ⟨oc26, od26, .func (PySem.W.fnOf "relation_of_calls" "relation_of_calls" (defArgs s_relation_of_calls) (defBody s_relation_of_calls) (defScope s_relation_of_calls) .none kV26 dc26 pm26 an26 cd26 ct26), sl26⟩) (c26 : PySem.W.codeIn K cd26 "relation_of_calls" = true) (k26 : PySem.W.keepIn K (.ref f26) = true)
    (a27 : PySem.W.nsIn K mainGlobals "related" = some (some (.ref f27))) (l27 : K.lookup f27 = some ⟨oc27, od27, .func (PySem.W.fnOf "related" "related" (defArgs s_related) (defBody s_related) (defScope s_related) .none kV27 dc27 pm27 an27 cd27 ct27), sl27⟩) (c27 : PySem.W.codeIn K cd27 "related" = true) (k27 : PySem.W.keepIn K (.ref f27) = true)
    (a28 : PySem.W.nsIn K mainGlobals "are_even" = some (some (.ref f28))) (l28 : K.lookup f28 = some ⟨oc28, od28, .func (PySem.W.fnOf "are_even" "are_even" (defArgs s_are_even) (defBody s_are_even) (defScope s_are_even) .none kV28 dc28 pm28 an28 cd28 ct28), sl28⟩) (c28 : PySem.W.codeIn K cd28 "are_even" = true) (k28 : PySem.W.keepIn K (.ref f28) = true)
    (a29 : PySem.W.nsIn K mainGlobals "hang_on" = some (some (.ref f29))) (l29 : K.lookup f29 = some ⟨oc29, od29, .func (PySem.W.fnOf "hang_on" "hang_on" (defArgs s_hang_on) (defBody s_hang_on) (defScope s_hang_on) .none kV29 dc29 pm29 an29 cd29 ct29), sl29⟩) (c29 : PySem.W.codeIn K cd29 "hang_on" = true) (k29 : PySem.W.keepIn K (.ref f29) = true)
    (a30 : PySem.W.nsIn K mainGlobals "right_counts" = some (some (.ref f30))) (l30 : K.lookup f30 = some ⟨oc30, od30, .func (PySem.W.fnOf "right_counts" "right_counts" (defArgs s_right_counts) (defBody s_right_counts) (defScope s_right_counts) .none kV30 dc30 pm30 an30 cd30 ct30), sl30⟩) (c30 : PySem.W.codeIn K cd30 "right_counts" = true) (k30 : PySem.W.keepIn K (.ref f30) = true)
    (a31 : PySem.W.nsIn K mainGlobals "are_counts" = some (some (.ref f31))) (l31 : K.lookup f31 = some ⟨oc31, od31, .func (PySem.W.fnOf "are_counts" "are_counts" (defArgs s_are_counts) (defBody s_are_counts) (defScope s_are_counts) .none kV31 dc31 pm31 an31 cd31 ct31), sl31⟩) (c31 : PySem.W.codeIn K cd31 "are_counts" = true) (k31 : PySem.W.keepIn K (.ref f31) = true)
    (a32 : PySem.W.nsIn K mainGlobals "round_from" = some (some (.ref f32))) (l32 : K.lookup f32 = some ⟨oc32, od32, .func (PySem.W.fnOf "round_from" "round_from" (defArgs s_round_from) (defBody s_round_from) (defScope s_round_from) .none kV32 dc32 pm32 an32 cd32 ct32), sl32⟩) (c32 : PySem.W.codeIn K cd32 "round_from" = true) (k32 : PySem.W.keepIn K (.ref f32) = true)
    (a33 : PySem.W.nsIn K mainGlobals "own_runs" = some (some (.ref f33))) (l33 : K.lookup f33 = some ⟨oc33, od33, .func (PySem.W.fnOf "own_runs" "own_runs" (defArgs s_own_runs) (defBody s_own_runs) (defScope s_own_runs) .none kV33 dc33 pm33 an33 cd33 ct33), sl33⟩) (c33 : PySem.W.codeIn K cd33 "own_runs" = true) (k33 : PySem.W.keepIn K (.ref f33) = true)
    (a34 : PySem.W.nsIn K mainGlobals "called_in" = some (some (.ref f34))) (l34 : K.lookup f34 = some ⟨oc34, od34, .func (PySem.W.fnOf "called_in" "called_in" (defArgs s_called_in) (defBody s_called_in) (defScope s_called_in) .none kV34 dc34 pm34 an34 cd34 ct34), sl34⟩) (c34 : PySem.W.codeIn K cd34 "called_in" = true) (k34 : PySem.W.keepIn K (.ref f34) = true)
    (a35 : PySem.W.nsIn K mainGlobals "made_heap" = some (some (.ref f35))) (l35 : K.lookup f35 = some ⟨oc35, od35, .func (PySem.W.fnOf "made_heap" "made_heap" (defArgs s_made_heap) (defBody s_made_heap) (defScope s_made_heap) .none kV35 dc35 pm35 an35 cd35 ct35), sl35⟩) (c35 : PySem.W.codeIn K cd35 "made_heap" = true) (k35 : PySem.W.keepIn K (.ref f35) = true)
    (a36 : PySem.W.nsIn K mainGlobals "heap_of" = some (some (.ref f36))) (l36 : K.lookup f36 = some ⟨oc36, od36, .func (PySem.W.fnOf "heap_of" "heap_of" (defArgs s_heap_of) (defBody s_heap_of) (defScope s_heap_of) .none kV36 dc36 pm36 an36 cd36 ct36), sl36⟩) (c36 : PySem.W.codeIn K cd36 "heap_of" = true) (k36 : PySem.W.keepIn K (.ref f36) = true)
    (a37 : PySem.W.nsIn K mainGlobals "_law_refused" = some (some (.ref f37))) (l37 : K.lookup f37 = some ⟨oc37, od37, .func (PySem.W.fnOf "_law_refused" "_law_refused" (defArgs s__law_refused) (defBody s__law_refused) (defScope s__law_refused) .none kV37 dc37 pm37 an37 cd37 ct37), sl37⟩) (c37 : PySem.W.codeIn K cd37 "_law_refused" = true) (k37 : PySem.W.keepIn K (.ref f37) = true)
    (a38 : PySem.W.nsIn K mainGlobals "law" = some (some (.ref f38))) (l38 : K.lookup f38 = some ⟨oc38, od38, .func (PySem.W.fnOf "law" "law" (defArgs s_law) (defBody s_law) (defScope s_law) .none kV38 dc38 pm38 an38 cd38 ct38), sl38⟩) (c38 : PySem.W.codeIn K cd38 "law" = true) (k38 : PySem.W.keepIn K (.ref f38) = true)
    (z_len : PySem.W.nsIn K mainGlobals "len" = some none)
    (z_range : PySem.W.nsIn K mainGlobals "range" = some none)
    (z_sum : PySem.W.nsIn K mainGlobals "sum" = some none)
    (z_min : PySem.W.nsIn K mainGlobals "min" = some none)
    (z_max : PySem.W.nsIn K mainGlobals "max" = some none)
    (z_all : PySem.W.nsIn K mainGlobals "all" = some none)
    (z_any : PySem.W.nsIn K mainGlobals "any" = some none)
    (z_abs : PySem.W.nsIn K mainGlobals "abs" = some none)
    (z_isinstance : PySem.W.nsIn K mainGlobals "isinstance" = some none)
    (z_int : PySem.W.nsIn K mainGlobals "int" = some none)
    (z_bool : PySem.W.nsIn K mainGlobals "bool" = some none)
    (z_list : PySem.W.nsIn K mainGlobals "list" = some none)
    (z_tuple : PySem.W.nsIn K mainGlobals "tuple" = some none)
    (z_str : PySem.W.nsIn K mainGlobals "str" = some none)
    (z_dict : PySem.W.nsIn K mainGlobals "dict" = some none)
    (z_sorted : PySem.W.nsIn K mainGlobals "sorted" = some none)
    (z_zip : PySem.W.nsIn K mainGlobals "zip" = some none)
    (z_enumerate : PySem.W.nsIn K mainGlobals "enumerate" = some none)
    (z_set : PySem.W.nsIn K mainGlobals "set" = some none)
    {c_CountError c_NoCounts c_NoRun c_NoWay c_NoWeb : Addr}
    (b_CountError : PySem.W.nsIn K mainGlobals "CountError" = some (some (.ref c_CountError)))
    (b_NoCounts : PySem.W.nsIn K mainGlobals "NoCounts" = some (some (.ref c_NoCounts)))
    (b_NoRun : PySem.W.nsIn K mainGlobals "NoRun" = some (some (.ref c_NoRun)))
    (b_NoWay : PySem.W.nsIn K mainGlobals "NoWay" = some (some (.ref c_NoWay)))
    (b_NoWeb : PySem.W.nsIn K mainGlobals "NoWeb" = some (some (.ref c_NoWeb)))
    (h0_NoCounts : PySem.W.keepIn K (.ref c_NoCounts) = true)
    (h1_NoCounts : PySem.W.subIn K (.ref c_NoCounts) (.type "BaseException") = some true)
    (h2_NoCounts : PySem.W.typeIn K (.ref c_NoCounts) = some (.type "type"))
    (h3_NoCounts : PySem.W.excIn K c_NoCounts [.type "ValueError", .type "Exception", .type "BaseException", .type "object"] "ValueError.__new__" = true)
    (h4_NoCounts : PySem.W.findIn K (.ref c_NoCounts) "__getattribute__" = some (some (.builtin "BaseException.__getattribute__")))
    (h5_NoCounts : PySem.W.findIn K (.ref c_NoCounts) "__getattr__" = some none)
    (h6_NoCounts : PySem.W.hasDictIn K c_NoCounts = true)
    (h7_NoCounts : PySem.W.findIn K (.ref c_NoCounts) "__class__" = some (some (.builtin "object.__class__")))
    (h8_NoCounts : PySem.W.mroIn K c_NoCounts (.type "object") = some true)
    (h9_NoCounts : PySem.W.subIn K (.ref c_NoCounts) (.type "ValueError") = some true)
    (h10_NoCounts : PySem.W.subIn K (.ref c_NoCounts) (.ref c_CountError) = some true)
    (n_NoCounts_NoRun : c_NoCounts ≠ c_NoRun)
    (q_NoCounts_NoRun : PySem.W.subIn K (.ref c_NoCounts) (.ref c_NoRun) = some false)
    (n_NoCounts_NoWay : c_NoCounts ≠ c_NoWay)
    (q_NoCounts_NoWay : PySem.W.subIn K (.ref c_NoCounts) (.ref c_NoWay) = some false)
    (n_NoCounts_NoWeb : c_NoCounts ≠ c_NoWeb)
    (q_NoCounts_NoWeb : PySem.W.subIn K (.ref c_NoCounts) (.ref c_NoWeb) = some false)
    (i_CountError : PySem.W.isClsIn K c_CountError = true)
    (j_CountError : PySem.W.typeIn K (.ref c_CountError) = some (.type "type"))
    (i_NoCounts : PySem.W.isClsIn K c_NoCounts = true)
    (j_NoCounts : PySem.W.typeIn K (.ref c_NoCounts) = some (.type "type"))
    (i_NoRun : PySem.W.isClsIn K c_NoRun = true)
    (j_NoRun : PySem.W.typeIn K (.ref c_NoRun) = some (.type "type"))
    (i_NoWay : PySem.W.isClsIn K c_NoWay = true)
    (j_NoWay : PySem.W.typeIn K (.ref c_NoWay) = some (.type "type"))
    (i_NoWeb : PySem.W.isClsIn K c_NoWeb = true)
    (j_NoWeb : PySem.W.typeIn K (.ref c_NoWeb) = some (.type "type"))
    (y3 : PySem.W.subIn K (.ref c_CountError) (.type "BaseException") = some true)
    (y4 : PySem.W.hasDictIn K c_CountError = true)
    (y1 : PySem.W.specialIn K (.builtin "object.__class__") "__get__" = some (some (.builtin "getset_descriptor.__get__")))
    (y2 : PySem.W.takesIn K (.builtin "object.__class__") = some true)
    (z_ValueError : PySem.W.nsIn K mainGlobals "ValueError" = some none)
    (t_MOST_PLACES : PySem.W.nsIn K mainGlobals "MOST_PLACES" = some (some (.int 16 tk_MOST_PLACES)))
    (t_MOST_PARTS : PySem.W.nsIn K mainGlobals "MOST_PARTS" = some (some (.int 4 tk_MOST_PARTS)))
    (t_MOST_ROWS : PySem.W.nsIn K mainGlobals "MOST_ROWS" = some (some (.int 60 tk_MOST_ROWS)))
    : ∃ fd : FuncData, (∀ (s : Shared) (v : Value), BindsTo s fd ⟨[v], []⟩ [("_law_script", v)]) ∧ ∀ base : Heap, K.In base → base.Ns mainGlobals mg → FnOk l.prog w K mg base CX0 7 fa fd ["_law_script"] (spLaw K) := by
  have e := hfa.symm.trans (PySem.W.mg_of X G a38)
  cases e
  refine ⟨PySem.W.fnOf "law" "law" (defArgs s_law) (defBody s_law) (defScope s_law) .none kV38 dc38 pm38 an38 cd38 ct38, fun s v => .of_eq rfl, fun base _ _ => ?_⟩
  have B : Bi mg := ⟨PySem.W.mg_none_of X G z_len, PySem.W.mg_none_of X G z_range, PySem.W.mg_none_of X G z_sum, PySem.W.mg_none_of X G z_min, PySem.W.mg_none_of X G z_max, PySem.W.mg_none_of X G z_all, PySem.W.mg_none_of X G z_any, PySem.W.mg_none_of X G z_abs, PySem.W.mg_none_of X G z_isinstance, PySem.W.mg_none_of X G z_int, PySem.W.mg_none_of X G z_bool, PySem.W.mg_none_of X G z_list, PySem.W.mg_none_of X G z_tuple, PySem.W.mg_none_of X G z_str, PySem.W.mg_none_of X G z_dict, PySem.W.mg_none_of X G z_sorted, PySem.W.mg_none_of X G z_zip, PySem.W.mg_none_of X G z_enumerate⟩
  have M : Mi mg := ⟨PySem.W.mg_none_of X G z_set, ⟨_, PySem.W.mg_of X G t_MOST_PLACES⟩, ⟨_, PySem.W.mg_of X G t_MOST_PARTS⟩, ⟨_, PySem.W.mg_of X G t_MOST_ROWS⟩⟩
  have XH : XF K mg RL ML := ⟨⟨(List.forall_mem_cons.mpr ⟨fun C hC => (only b_NoCounts hC) ▸ (⟨h4_NoCounts, h5_NoCounts, h1_NoCounts, h6_NoCounts, h7_NoCounts, y1, y2, h8_NoCounts⟩ : ExcC K c_NoCounts), (List.forall_mem_nil _)⟩),
    (List.forall_mem_cons.mpr ⟨⟨c_NoCounts, PySem.W.mg_of X G b_NoCounts, (List.forall_mem_cons.mpr ⟨fun C hC => (only b_NoCounts hC) ▸ (kit_self.trans (congrArg some (show true = subX "NoCounts" "NoCounts" by decide +kernel))), (List.forall_mem_nil _)⟩)⟩, (List.forall_mem_cons.mpr ⟨⟨c_NoRun, PySem.W.mg_of X G b_NoRun, (List.forall_mem_cons.mpr ⟨fun C hC => (only b_NoCounts hC) ▸ ((kit_own n_NoCounts_NoRun i_NoRun j_NoRun q_NoCounts_NoRun).trans (congrArg some (show false = subX "NoCounts" "NoRun" by decide +kernel))), (List.forall_mem_nil _)⟩)⟩, (List.forall_mem_cons.mpr ⟨⟨c_NoWay, PySem.W.mg_of X G b_NoWay, (List.forall_mem_cons.mpr ⟨fun C hC => (only b_NoCounts hC) ▸ ((kit_own n_NoCounts_NoWay i_NoWay j_NoWay q_NoCounts_NoWay).trans (congrArg some (show false = subX "NoCounts" "NoWay" by decide +kernel))), (List.forall_mem_nil _)⟩)⟩, (List.forall_mem_cons.mpr ⟨⟨c_NoWeb, PySem.W.mg_of X G b_NoWeb, (List.forall_mem_cons.mpr ⟨fun C hC => (only b_NoCounts hC) ▸ ((kit_own n_NoCounts_NoWeb i_NoWeb j_NoWeb q_NoCounts_NoWeb).trans (congrArg some (show false = subX "NoCounts" "NoWeb" by decide +kernel))), (List.forall_mem_nil _)⟩)⟩, (List.forall_mem_nil _)⟩)⟩)⟩)⟩),
    ⟨PySem.W.mg_none_of X G z_ValueError, (List.forall_mem_cons.mpr ⟨fun C hC => (only b_NoCounts hC) ▸ (kit_val h9_NoCounts), (List.forall_mem_nil _)⟩)⟩,
    ⟨c_CountError, PySem.W.mg_of X G b_CountError, (List.forall_mem_cons.mpr ⟨fun C hC => (only b_NoCounts hC) ▸ (PySem.W.exm_ref y3 y4 j_CountError h10_NoCounts), (List.forall_mem_nil _)⟩)⟩⟩,
    (List.forall_mem_cons.mpr ⟨⟨c_NoCounts, ⟨b_NoCounts, PySem.W.mg_of X G b_NoCounts, h0_NoCounts, h1_NoCounts, h2_NoCounts⟩, h3_NoCounts⟩, (List.forall_mem_nil _)⟩)⟩
  have O1 : Ow K mg "_law_mix" s__law_mix ["_law_number", "_law_k"] := ⟨_, _, fun_mk (st := s__law_mix) l1 c1 k1, PySem.W.mg_of X G a1, (fun_mk (st := s__law_mix) l1 c1 k1).binds (ps := ["_law_number", "_law_k"]) fun _ _ _ _ _ _ us hl => match us, hl with | [_, _], _ => rfl⟩
  have O2 : Ow K mg "_law_draw" s__law_draw ["_law_left_here", "_law_base"] := ⟨_, _, fun_mk (st := s__law_draw) l2 c2 k2, PySem.W.mg_of X G a2, (fun_mk (st := s__law_draw) l2 c2 k2).binds (ps := ["_law_left_here", "_law_base"]) fun _ _ _ _ _ _ us hl => match us, hl with | [_, _], _ => rfl⟩
  have O3 : Ow K mg "_law_cell_at" s__law_cell_at ["_law_script", "_law_k"] := ⟨_, _, fun_mk (st := s__law_cell_at) l3 c3 k3, PySem.W.mg_of X G a3, (fun_mk (st := s__law_cell_at) l3 c3 k3).binds (ps := ["_law_script", "_law_k"]) fun _ _ _ _ _ _ us hl => match us, hl with | [_, _], _ => rfl⟩
  have O4 : Ow K mg "_law_left" s__law_left ["_law_script", "_law_k"] := ⟨_, _, fun_mk (st := s__law_left) l4 c4 k4, PySem.W.mg_of X G a4, (fun_mk (st := s__law_left) l4 c4 k4).binds (ps := ["_law_script", "_law_k"]) fun _ _ _ _ _ _ us hl => match us, hl with | [_, _], _ => rfl⟩
  have O5 : Ow K mg "_law_part" s__law_part ["_law_left_here", "_law_most"] := ⟨_, _, fun_mk (st := s__law_part) l5 c5 k5, PySem.W.mg_of X G a5, (fun_mk (st := s__law_part) l5 c5 k5).binds (ps := ["_law_left_here", "_law_most"]) fun _ _ _ _ _ _ us hl => match us, hl with | [_, _], _ => rfl⟩
  have O6 : Ow K mg "_law_web" s__law_web ["_law_script", "_law_parts_most", "_law_most"] := ⟨_, _, fun_mk (st := s__law_web) l6 c6 k6, PySem.W.mg_of X G a6, (fun_mk (st := s__law_web) l6 c6 k6).binds (ps := ["_law_script", "_law_parts_most", "_law_most"]) fun _ _ _ _ _ _ us hl => match us, hl with | [_, _, _], _ => rfl⟩
  have O7 : Ow K mg "_law_stack" s__law_stack ["_law_web_here", "_law_rows"] := ⟨_, _, fun_mk (st := s__law_stack) l7 c7 k7, PySem.W.mg_of X G a7, (fun_mk (st := s__law_stack) l7 c7 k7).binds (ps := ["_law_web_here", "_law_rows"]) fun _ _ _ _ _ _ us hl => match us, hl with | [_, _], _ => rfl⟩
  have O8 : Ow K mg "_law_tally" s__law_tally ["_law_web_here", "_law_heap_here"] := ⟨_, _, fun_mk (st := s__law_tally) l8 c8 k8, PySem.W.mg_of X G a8, (fun_mk (st := s__law_tally) l8 c8 k8).binds (ps := ["_law_web_here", "_law_heap_here"]) fun _ _ _ _ _ _ us hl => match us, hl with | [_, _], _ => rfl⟩
  have O9 : Ow K mg "_law_far" s__law_far ["_law_web_here", "_law_part_here"] := ⟨_, _, fun_mk (st := s__law_far) l9 c9 k9, PySem.W.mg_of X G a9, (fun_mk (st := s__law_far) l9 c9 k9).binds (ps := ["_law_web_here", "_law_part_here"]) fun _ _ _ _ _ _ us hl => match us, hl with | [_, _], _ => rfl⟩
  have O10 : Ow K mg "_law_leaving" s__law_leaving ["_law_web_here", "_law_stack_here", "_law_short", "_law_fars"] := ⟨_, _, fun_mk (st := s__law_leaving) l10 c10 k10, PySem.W.mg_of X G a10, (fun_mk (st := s__law_leaving) l10 c10 k10).binds (ps := ["_law_web_here", "_law_stack_here", "_law_short", "_law_fars"]) fun _ _ _ _ _ _ us hl => match us, hl with | [_, _, _, _], _ => rfl⟩
  have O11 : Ow K mg "_law_behind" s__law_behind ["_law_web_here", "_law_stack_here", "_law_k"] := ⟨_, _, fun_mk (st := s__law_behind) l11 c11 k11, PySem.W.mg_of X G a11, (fun_mk (st := s__law_behind) l11 c11 k11).binds (ps := ["_law_web_here", "_law_stack_here", "_law_k"]) fun _ _ _ _ _ _ us hl => match us, hl with | [_, _, _], _ => rfl⟩
  have O12 : Ow K mg "_law_run" s__law_run ["_law_web_here", "_law_left_here", "_law_most"] := ⟨_, _, fun_mk (st := s__law_run) l12 c12 k12, PySem.W.mg_of X G a12, (fun_mk (st := s__law_run) l12 c12 k12).binds (ps := ["_law_web_here", "_law_left_here", "_law_most"]) fun _ _ _ _ _ _ us hl => match us, hl with | [_, _, _], _ => rfl⟩
  have O13 : Ow K mg "_law_heap" s__law_heap ["_law_script", "_law_at", "_law_web_here", "_law_most_runs", "_law_most"] := ⟨_, _, fun_mk (st := s__law_heap) l13 c13 k13, PySem.W.mg_of X G a13, (fun_mk (st := s__law_heap) l13 c13 k13).binds (ps := ["_law_script", "_law_at", "_law_web_here", "_law_most_runs", "_law_most"]) fun _ _ _ _ _ _ us hl => match us, hl with | [_, _, _, _, _], _ => rfl⟩
  have O14 : Ow K mg "_law_round" s__law_round ["_law_web_here", "_law_left_here"] := ⟨_, _, fun_mk (st := s__law_round) l14 c14 k14, PySem.W.mg_of X G a14, (fun_mk (st := s__law_round) l14 c14 k14).binds (ps := ["_law_web_here", "_law_left_here"]) fun _ _ _ _ _ _ us hl => match us, hl with | [_, _], _ => rfl⟩
  have O15 : Ow K mg "_law_changed" s__law_changed ["_law_web_here", "_law_tally_here", "_law_left_here"] := ⟨_, _, fun_mk (st := s__law_changed) l15 c15 k15, PySem.W.mg_of X G a15, (fun_mk (st := s__law_changed) l15 c15 k15).binds (ps := ["_law_web_here", "_law_tally_here", "_law_left_here"]) fun _ _ _ _ _ _ us hl => match us, hl with | [_, _, _], _ => rfl⟩
  have O16 : Ow K mg "_law_copy" s__law_copy ["_law_web_here"] := ⟨_, _, fun_mk (st := s__law_copy) l16 c16 k16, PySem.W.mg_of X G a16, (fun_mk (st := s__law_copy) l16 c16 k16).binds (ps := ["_law_web_here"]) fun _ _ _ _ _ _ us hl => match us, hl with | [_], _ => rfl⟩
  have O17 : Ow K mg "_law_every" s__law_every ["_law_web_here"] := ⟨_, _, fun_mk (st := s__law_every) l17 c17 k17, PySem.W.mg_of X G a17, (fun_mk (st := s__law_every) l17 c17 k17).binds (ps := ["_law_web_here"]) fun _ _ _ _ _ _ us hl => match us, hl with | [_], _ => rfl⟩
  have O18 : Ow K mg "_law_hangs" s__law_hangs ["_law_web_here", "_law_part_here", "_law_numbers"] := ⟨_, _, fun_mk (st := s__law_hangs) l18 c18 k18, PySem.W.mg_of X G a18, (fun_mk (st := s__law_hangs) l18 c18 k18).binds (ps := ["_law_web_here", "_law_part_here", "_law_numbers"]) fun _ _ _ _ _ _ us hl => match us, hl with | [_, _, _], _ => rfl⟩
  have O19 : Ow K mg "_law_are_counts" s__law_are_counts ["_law_web_here", "_law_numbers"] := ⟨_, _, fun_mk (st := s__law_are_counts) l19 c19 k19, PySem.W.mg_of X G a19, (fun_mk (st := s__law_are_counts) l19 c19 k19).binds (ps := ["_law_web_here", "_law_numbers"]) fun _ _ _ _ _ _ us hl => match us, hl with | [_, _], _ => rfl⟩
  have O20 : Ow K mg "fits_row" s_fits_row ["web", "row"] := ⟨_, _, fun_mk (st := s_fits_row) l20 c20 k20, PySem.W.mg_of X G a20, (fun_mk (st := s_fits_row) l20 c20 k20).binds (ps := ["web", "row"]) fun _ _ _ _ _ _ us hl => match us, hl with | [_, _], _ => rfl⟩
  have O21 : Ow K mg "rows_of" s_rows_of ["web", "part"] := ⟨_, _, fun_mk (st := s_rows_of) l21 c21 k21, PySem.W.mg_of X G a21, (fun_mk (st := s_rows_of) l21 c21 k21).binds (ps := ["web", "part"]) fun _ _ _ _ _ _ us hl => match us, hl with | [_, _], _ => rfl⟩
  have O22 : Ow K mg "reached" s_reached ["web", "part", "start", "turned"] := ⟨_, _, fun_mk (st := s_reached) l22 c22 k22, PySem.W.mg_of X G a22, (fun_mk (st := s_reached) l22 c22 k22).binds (ps := ["web", "part", "start", "turned"]) fun _ _ _ _ _ _ us hl => match us, hl with | [_, _, _, _], _ => rfl⟩
  have O23 : Ow K mg "is_web" s_is_web ["web"] := ⟨_, _, fun_mk (st := s_is_web) l23 c23 k23, PySem.W.mg_of X G a23, (fun_mk (st := s_is_web) l23 c23 k23).binds (ps := ["web"]) fun _ _ _ _ _ _ us hl => match us, hl with | [_], _ => rfl⟩
  have O24 : Ow K mg "must_be_web" s_must_be_web ["web"] := ⟨_, _, fun_mk (st := s_must_be_web) l24 c24 k24, PySem.W.mg_of X G a24, (fun_mk (st := s_must_be_web) l24 c24 k24).binds (ps := ["web"]) fun _ _ _ _ _ _ us hl => match us, hl with | [_], _ => rfl⟩
  have O25 : Ow K mg "relation_at" s_relation_at ["web", "part", "place"] := ⟨_, _, fun_mk (st := s_relation_at) l25 c25 k25, PySem.W.mg_of X G a25, (fun_mk (st := s_relation_at) l25 c25 k25).binds (ps := ["web", "part", "place"]) fun _ _ _ _ _ _ us hl => match us, hl with | [_, _, _], _ => rfl⟩
  have O26 : Ow K mg "relation_of_calls" s_relation_of_calls ["web", "part"] := ⟨_, _, fun_mk (st := s_relation_of_calls) l26 c26 k26, PySem.W.mg_of X G a26, (fun_mk (st := s_relation_of_calls) l26 c26 k26).binds (ps := ["web", "part"]) fun _ _ _ _ _ _ us hl => match us, hl with | [_, _], _ => rfl⟩
  have O27 : Ow K mg "related" s_related ["web"] := ⟨_, _, fun_mk (st := s_related) l27 c27 k27, PySem.W.mg_of X G a27, (fun_mk (st := s_related) l27 c27 k27).binds (ps := ["web"]) fun _ _ _ _ _ _ us hl => match us, hl with | [_], _ => rfl⟩
  have O28 : Ow K mg "are_even" s_are_even ["web", "numbers"] := ⟨_, _, fun_mk (st := s_are_even) l28 c28 k28, PySem.W.mg_of X G a28, (fun_mk (st := s_are_even) l28 c28 k28).binds (ps := ["web", "numbers"]) fun _ _ _ _ _ _ us hl => match us, hl with | [_, _], _ => rfl⟩
  have O29 : Ow K mg "hang_on" s_hang_on ["web", "part", "numbers"] := ⟨_, _, fun_mk (st := s_hang_on) l29 c29 k29, PySem.W.mg_of X G a29, (fun_mk (st := s_hang_on) l29 c29 k29).binds (ps := ["web", "part", "numbers"]) fun _ _ _ _ _ _ us hl => match us, hl with | [_, _, _], _ => rfl⟩
  have O30 : Ow K mg "right_counts" s_right_counts ["web", "numbers"] := ⟨_, _, fun_mk (st := s_right_counts) l30 c30 k30, PySem.W.mg_of X G a30, (fun_mk (st := s_right_counts) l30 c30 k30).binds (ps := ["web", "numbers"]) fun _ _ _ _ _ _ us hl => match us, hl with | [_, _], _ => rfl⟩
  have O31 : Ow K mg "are_counts" s_are_counts ["web", "numbers"] := ⟨_, _, fun_mk (st := s_are_counts) l31 c31 k31, PySem.W.mg_of X G a31, (fun_mk (st := s_are_counts) l31 c31 k31).binds (ps := ["web", "numbers"]) fun _ _ _ _ _ _ us hl => match us, hl with | [_, _], _ => rfl⟩
  have O32 : Ow K mg "round_from" s_round_from ["web", "place", "left"] := ⟨_, _, fun_mk (st := s_round_from) l32 c32 k32, PySem.W.mg_of X G a32, (fun_mk (st := s_round_from) l32 c32 k32).binds (ps := ["web", "place", "left"]) fun _ _ _ _ _ _ us hl => match us, hl with | [_, _, _], _ => rfl⟩
  have O33 : Ow K mg "own_runs" s_own_runs ["web", "part", "numbers"] := ⟨_, _, fun_mk (st := s_own_runs) l33 c33 k33, PySem.W.mg_of X G a33, (fun_mk (st := s_own_runs) l33 c33 k33).binds (ps := ["web", "part", "numbers"]) fun _ _ _ _ _ _ us hl => match us, hl with | [_, _, _], _ => rfl⟩
  have O34 : Ow K mg "called_in" s_called_in ["web", "run", "waiting"] := ⟨_, _, fun_mk (st := s_called_in) l34 c34 k34, PySem.W.mg_of X G a34, (fun_mk (st := s_called_in) l34 c34 k34).binds (ps := ["web", "run", "waiting"]) fun _ _ _ _ _ _ us hl => match us, hl with | [_, _, _], _ => rfl⟩
  have O35 : Ow K mg "made_heap" s_made_heap ["web", "numbers"] := ⟨_, _, fun_mk (st := s_made_heap) l35 c35 k35, PySem.W.mg_of X G a35, (fun_mk (st := s_made_heap) l35 c35 k35).binds (ps := ["web", "numbers"]) fun _ _ _ _ _ _ us hl => match us, hl with | [_, _], _ => rfl⟩
  have O36 : Ow K mg "heap_of" s_heap_of ["web", "numbers"] := ⟨_, _, fun_mk (st := s_heap_of) l36 c36 k36, PySem.W.mg_of X G a36, (fun_mk (st := s_heap_of) l36 c36 k36).binds (ps := ["web", "numbers"]) fun _ _ _ _ _ _ us hl => match us, hl with | [_, _], _ => rfl⟩
  have O37 : Ow K mg "_law_refused" s__law_refused ["_law_web_here", "_law_numbers"] := ⟨_, _, fun_mk (st := s__law_refused) l37 c37 k37, PySem.W.mg_of X G a37, (fun_mk (st := s__law_refused) l37 c37 k37).binds (ps := ["_law_web_here", "_law_numbers"]) fun _ _ _ _ _ _ us hl => match us, hl with | [_, _], _ => rfl⟩
  have K1 := kn__law_mix (P := l.prog) (w := w) (base := base) (k := 0) B M O1
  have K2 := kn__law_draw (P := l.prog) (w := w) (base := base) (k := 1) B M O2 (K1.mono (by decide))
  have K3 := kn__law_cell_at (P := l.prog) (w := w) (base := base) (k := 0) B M O3
  have K4 := kn__law_left (P := l.prog) (w := w) (base := base) (k := 1) B M O4 (K3.mono (by decide))
  have K5 := kn__law_part (P := l.prog) (w := w) (base := base) (k := 2) B M O5 (K2.mono (by decide))
  have K6 := kn__law_web (P := l.prog) (w := w) (base := base) (k := 3) B M O6 (K4.mono (by decide)) (K2.mono (by decide)) (K5.mono (by decide))
  have K7 := kn__law_stack (P := l.prog) (w := w) (base := base) (k := 0) B M O7
  have K8 := kn__law_tally (P := l.prog) (w := w) (base := base) (k := 1) B M O8 (K7.mono (by decide))
  have K9 := kn__law_far (P := l.prog) (w := w) (base := base) (k := 0) B M O9
  have K10 := kn__law_leaving (P := l.prog) (w := w) (base := base) (k := 0) B M O10
  have K11 := kn__law_behind (P := l.prog) (w := w) (base := base) (k := 0) B M O11
  have K12 := kn__law_run (P := l.prog) (w := w) (base := base) (k := 2) B M O12 (K9.mono (by decide)) (K10.mono (by decide)) (K2.mono (by decide)) (K11.mono (by decide))
  have K13 := kn__law_heap (P := l.prog) (w := w) (base := base) (k := 3) B M O13 (K4.mono (by decide)) (K2.mono (by decide)) (K12.mono (by decide))
  have K14 := kn__law_round (P := l.prog) (w := w) (base := base) (k := 2) B M O14 (K2.mono (by decide))
  have K15 := kn__law_changed (P := l.prog) (w := w) (base := base) (k := 3) B M O15 (K2.mono (by decide)) (K14.mono (by decide))
  have K16 := kn__law_copy (P := l.prog) (w := w) (base := base) (k := 0) B M O16
  have K17 := kn__law_every (P := l.prog) (w := w) (base := base) (k := 0) B M O17
  have K18 := kn__law_hangs (P := l.prog) (w := w) (base := base) (k := 0) B M O18
  have K19 := kn__law_are_counts (P := l.prog) (w := w) (base := base) (k := 1) B M O19 (K17.mono (by decide)) (K18.mono (by decide))
  have K20 := kn_fits_row (P := l.prog) (w := w) (base := base) (k := 0) B M O20
  have K21 := kn_rows_of (P := l.prog) (w := w) (base := base) (k := 0) B M O21
  have K22 := kn_reached (P := l.prog) (w := w) (base := base) (k := 1) B M O22 (K21.mono (by decide))
  have K23 := kn_is_web (P := l.prog) (w := w) (base := base) (k := 2) B M O23 (K20.mono (by decide)) (K22.mono (by decide))
  have K24 := kn_must_be_web (P := l.prog) (w := w) (base := base) (k := 3) B M O24 (K23.mono (by decide))
  have K25 := kn_relation_at (P := l.prog) (w := w) (base := base) (k := 0) B M O25
  have K26 := kn_relation_of_calls (P := l.prog) (w := w) (base := base) (k := 0) B M O26
  have K27 := kn_related (P := l.prog) (w := w) (base := base) (k := 1) B M O27 (K25.mono (by decide)) (K26.mono (by decide))
  have K28 := kn_are_even (P := l.prog) (w := w) (base := base) (k := 2) B M O28 (K27.mono (by decide))
  have K29 := kn_hang_on (P := l.prog) (w := w) (base := base) (k := 1) B M O29 (K21.mono (by decide))
  have K30 := kn_right_counts (P := l.prog) (w := w) (base := base) (k := 3) B M O30 (K28.mono (by decide)) (K21.mono (by decide)) (K29.mono (by decide))
  have K31 := kn_are_counts (P := l.prog) (w := w) (base := base) (k := 4) B M O31 (K24.mono (by decide)) (K30.mono (by decide))
  have K32 := kn_round_from (P := l.prog) (w := w) (base := base) (k := 0) B M O32
  have K33 := kn_own_runs (P := l.prog) (w := w) (base := base) (k := 1) B M O33 (K21.mono (by decide)) (K32.mono (by decide))
  have K34 := kn_called_in (P := l.prog) (w := w) (base := base) (k := 0) B M O34
  have K35 := kn_made_heap (P := l.prog) (w := w) (base := base) (k := 2) B M O35 (K33.mono (by decide)) (K34.mono (by decide))
  have K36 := kn_heap_of (P := l.prog) (w := w) (base := base) (k := 4) B M O36 (K24.mono (by decide)) (K30.mono (by decide)) (K35.mono (by decide))
  have KX36 := kx_heap_of (P := l.prog) (w := w) (base := base) (k := 4) B M XH O36 (K24.mono (by decide)) (K30.mono (by decide)) (K35.mono (by decide))
  have K37 := kn__law_refused (P := l.prog) (w := w) (base := base) (k := 5) B M XH O37 (KX36.mono (by decide))
  exact (kl_law (k := 6) B M (fun_mk (st := s_law) l38 c38 k38) (K2.mono (by decide)) (K4.mono (by decide)) (K6.mono (by decide)) (K8.mono (by decide)) (K13.mono (by decide)) (K15.mono (by decide)) (K16.mono (by decide)) (K19.mono (by decide)) (K31.mono (by decide)) (K36.mono (by decide)) (K37.mono (by decide))).imp spLaw_of
end DL
open PySem PySem.W PyProof.Rows
set_option maxHeartbeats 0 in
theorem PySem.Challenge.cw_fewcounters_k06_whole_heaps_of_counts_holds : PySem.Challenge.rw_fewcounters_k06_whole_heaps_of_counts.Holds := by
  w_on; o_law; k_head; (case hw => w_witness2)
  k_fill
  refine L2.walk_ofB (l := PySem.Challenge.rw_fewcounters_k06_whole_heaps_of_counts) (n := 63) (k := 7) (x := "_law_script") (CX := fun _ => L2.CX0) (sp := fun w => DL.spLaw _) rfl (by decide) rfl ⟨rfl, by decide, by decide⟩ (fun w h Y => by first | exact PySem.W.kIn_of Y | exact PySem.W.km_in_of Y) ?F (fun _ _ a ns hl hb _ hS => ⟨a, ns, rfl, hS, hl, hb, fun _ => rfl⟩) (fun _ _ _ _ _ h => h)
  case F =>
    intro w mg fa h KX G hmg
    refine' DL.all_mk KX G hmg ?a1 ?l1 ?c1 ?k1 ?a2 ?l2 ?c2 ?k2 ?a3 ?l3 ?c3 ?k3 ?a4 ?l4 ?c4 ?k4 ?a5 ?l5 ?c5 ?k5 ?a6 ?l6 ?c6 ?k6 ?a7 ?l7 ?c7 ?k7 ?a8 ?l8 ?c8 ?k8 ?a9 ?l9 ?c9 ?k9 ?a10 ?l10 ?c10 ?k10 ?a11 ?l11 ?c11 ?k11 ?a12 ?l12 ?c12 ?k12 ?a13 ?l13 ?c13 ?k13 ?a14 ?l14 ?c14 ?k14 ?a15 ?l15 ?c15 ?k15 ?a16 ?l16 ?c16 ?k16 ?a17 ?l17 ?c17 ?k17 ?a18 ?l18 ?c18 ?k18 ?a19 ?l19 ?c19 ?k19 ?a20 ?l20 ?c20 ?k20 ?a21 ?l21 ?c21 ?k21 ?a22 ?l22 ?c22 ?k22 ?a23 ?l23 ?c23 ?k23 ?a24 ?l24 ?c24 ?k24 ?a25 ?l25 ?c25 ?k25 ?a26 ?l26 ?c26 ?k26 ?a27 ?l27 ?c27 ?k27 ?a28 ?l28 ?c28 ?k28 ?a29 ?l29 ?c29 ?k29 ?a30 ?l30 ?c30 ?k30 ?a31 ?l31 ?c31 ?k31 ?a32 ?l32 ?c32 ?k32 ?a33 ?l33 ?c33 ?k33 ?a34 ?l34 ?c34 ?k34 ?a35 ?l35 ?c35 ?k35 ?a36 ?l36 ?c36 ?k36 ?a37 ?l37 ?c37 ?k37 ?a38 ?l38 ?c38 ?k38 ?z_len ?z_range ?z_sum ?z_min ?z_max ?z_all ?z_any ?z_abs ?z_isinstance ?z_int ?z_bool ?z_list ?z_tuple ?z_str ?z_dict ?z_sorted ?z_zip ?z_enumerate ?z_set ?b_CountError ?b_NoCounts ?b_NoRun ?b_NoWay ?b_NoWeb ?h0_NoCounts ?h1_NoCounts ?h2_NoCounts ?h3_NoCounts ?h4_NoCounts ?h5_NoCounts ?h6_NoCounts ?h7_NoCounts ?h8_NoCounts ?h9_NoCounts ?h10_NoCounts ?n_NoCounts_NoRun ?q_NoCounts_NoRun ?n_NoCounts_NoWay ?q_NoCounts_NoWay ?n_NoCounts_NoWeb ?q_NoCounts_NoWeb ?i_CountError ?j_CountError ?i_NoCounts ?j_NoCounts ?i_NoRun ?j_NoRun ?i_NoWay ?j_NoWay ?i_NoWeb ?j_NoWeb ?y3 ?y4 ?y1 ?y2 ?z_ValueError ?t_MOST_PLACES ?t_MOST_PARTS ?t_MOST_ROWS
    (case a1 => k_is); (case l1 => k_is); (case c1 => k_is); (case k1 => k_is); (case a2 => k_is); (case l2 => k_is); (case c2 => k_is); (case k2 => k_is); (case a3 => k_is); (case l3 => k_is); (case c3 => k_is); (case k3 => k_is); (case a4 => k_is); (case l4 => k_is); (case c4 => k_is); (case k4 => k_is); (case a5 => k_is); (case l5 => k_is); (case c5 => k_is); (case k5 => k_is); (case a6 => k_is); (case l6 => k_is); (case c6 => k_is); (case k6 => k_is); (case a7 => k_is); (case l7 => k_is); (case c7 => k_is); (case k7 => k_is); (case a8 => k_is); (case l8 => k_is); (case c8 => k_is); (case k8 => k_is); (case a9 => k_is); (case l9 => k_is); (case c9 => k_is); (case k9 => k_is); (case a10 => k_is); (case l10 => k_is); (case c10 => k_is); (case k10 => k_is); (case a11 => k_is); (case l11 => k_is); (case c11 => k_is); (case k11 => k_is); (case a12 => k_is); (case l12 => k_is); (case c12 => k_is); (case k12 => k_is); (case a13 => k_is); (case l13 => k_is); (case c13 => k_is); (case k13 => k_is); (case a14 => k_is); (case l14 => k_is); (case c14 => k_is); (case k14 => k_is); (case a15 => k_is); (case l15 => k_is); (case c15 => k_is); (case k15 => k_is); (case a16 => k_is); (case l16 => k_is); (case c16 => k_is); (case k16 => k_is); (case a17 => k_is); (case l17 => k_is); (case c17 => k_is); (case k17 => k_is); (case a18 => k_is); (case l18 => k_is); (case c18 => k_is); (case k18 => k_is); (case a19 => k_is); (case l19 => k_is); (case c19 => k_is); (case k19 => k_is); (case a20 => k_is); (case l20 => k_is); (case c20 => k_is); (case k20 => k_is); (case a21 => k_is); (case l21 => k_is); (case c21 => k_is); (case k21 => k_is); (case a22 => k_is); (case l22 => k_is); (case c22 => k_is); (case k22 => k_is); (case a23 => k_is); (case l23 => k_is); (case c23 => k_is); (case k23 => k_is); (case a24 => k_is); (case l24 => k_is); (case c24 => k_is); (case k24 => k_is); (case a25 => k_is); (case l25 => k_is); (case c25 => k_is); (case k25 => k_is); (case a26 => k_is); (case l26 => k_is); (case c26 => k_is); (case k26 => k_is); (case a27 => k_is); (case l27 => k_is); (case c27 => k_is); (case k27 => k_is); (case a28 => k_is); (case l28 => k_is); (case c28 => k_is); (case k28 => k_is); (case a29 => k_is); (case l29 => k_is); (case c29 => k_is); (case k29 => k_is); (case a30 => k_is); (case l30 => k_is); (case c30 => k_is); (case k30 => k_is); (case a31 => k_is); (case l31 => k_is); (case c31 => k_is); (case k31 => k_is); (case a32 => k_is); (case l32 => k_is); (case c32 => k_is); (case k32 => k_is); (case a33 => k_is); (case l33 => k_is); (case c33 => k_is); (case k33 => k_is); (case a34 => k_is); (case l34 => k_is); (case c34 => k_is); (case k34 => k_is); (case a35 => k_is); (case l35 => k_is); (case c35 => k_is); (case k35 => k_is); (case a36 => k_is); (case l36 => k_is); (case c36 => k_is); (case k36 => k_is); (case a37 => k_is); (case l37 => k_is); (case c37 => k_is); (case k37 => k_is); (case a38 => k_is); (case l38 => k_is); (case c38 => k_is); (case k38 => k_is); (case z_len => k_is); (case z_range => k_is); (case z_sum => k_is); (case z_min => k_is); (case z_max => k_is); (case z_all => k_is); (case z_any => k_is); (case z_abs => k_is); (case z_isinstance => k_is); (case z_int => k_is); (case z_bool => k_is); (case z_list => k_is); (case z_tuple => k_is); (case z_str => k_is); (case z_dict => k_is); (case z_sorted => k_is); (case z_zip => k_is); (case z_enumerate => k_is); (case z_set => k_is); (case b_CountError => k_is); (case b_NoCounts => k_is); (case b_NoRun => k_is); (case b_NoWay => k_is); (case b_NoWeb => k_is); (case h0_NoCounts => k_is); (case h1_NoCounts => k_is); (case h2_NoCounts => k_is); (case h3_NoCounts => k_exc); (case h4_NoCounts => k_is); (case h5_NoCounts => k_is); (case h6_NoCounts => k_is); (case h7_NoCounts => k_is); (case h8_NoCounts => k_is); (case h9_NoCounts => k_is); (case h10_NoCounts => first | rfl | k_is); (case n_NoCounts_NoRun => decide); (case q_NoCounts_NoRun => first | rfl | k_is); (case n_NoCounts_NoWay => decide); (case q_NoCounts_NoWay => first | rfl | k_is); (case n_NoCounts_NoWeb => decide); (case q_NoCounts_NoWeb => first | rfl | k_is); (case i_CountError => k_is); (case j_CountError => k_is); (case i_NoCounts => k_is); (case j_NoCounts => k_is); (case i_NoRun => k_is); (case j_NoRun => k_is); (case i_NoWay => k_is); (case j_NoWay => k_is); (case i_NoWeb => k_is); (case j_NoWeb => k_is); (case y3 => k_is); (case y4 => k_is); (case y1 => k_is); (case y2 => k_is); (case z_ValueError => k_is); (case t_MOST_PLACES => k_is); (case t_MOST_PARTS => k_is); (case t_MOST_ROWS => k_is)


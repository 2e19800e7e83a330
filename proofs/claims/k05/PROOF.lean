import PyProof.Rows.All
import HandS.ForMost
import HandS.ForExc
import HandS.SortInts
import HandS.SetFor
import HandS.IsInst
import HandS.Conv
import HandS.More
import HandS.NoneIn
import HandS.Style
import HandS.Wide
import HandS.Deep
import HandS.TupLe
import KE.DataCmp
import PySem.Challenge.RW_fewcounters_k05_whole_relations
import HandS.EndBits
import KE.IntBitsLaws
set_option Elab.async false
set_option linter.all false
set_option maxRecDepth 100000
set_option maxHeartbeats 4000000
namespace DL
open PySem PySem.Spec L2

/-! data trees, slots, the store of mutable cells -/
inductive T where
  | non | bl (b : Bool) | int (i : Int) | str (s : Str) | lst (xs : List T) | tup (xs : List T)
  | dk (ks : List Key) (xs : List T) | sq (xs : List T) | raw (x : V)
  | exc (n : Str) | ob (n : Str) (fs : List Str) (xs : List T) | exf (n f : Str) (x : T)
inductive W where
  | t (x : T) | h (n : Nat)
inductive Cell where
  | lt (xs : List T) | lw (xs : List W) | dt (ks : List Key) (xs : List T) | dw (ks : List Key) (xs : List W) | tw (xs : List W) | ob (n : Str) (fs : List Str) (ws : List W) | dp (ks : List (List Key)) (xs : List T)
abbrev Sto := List (Option Cell)
structure G where
  sl : List (Option W)
  mem : Sto
def G.set (g : G) (i : Nat) (w : W) : G := ⟨g.sl.set i (some w), g.mem⟩
def G.put (g : G) (n : Nat) (c : Cell) : G := ⟨g.sl, g.mem.set n (some c)⟩
def G.push (g : G) (c : Cell) : G := ⟨g.sl, g.mem ++ [some c]⟩
def wipeW (sl : List (Option W)) : List Nat → List (Option W)
  | [] => sl
  | v :: vs => (wipeW sl vs).set v none
def G.wipe (g : G) (vs : List Nat) : G := ⟨wipeW g.sl vs, g.mem⟩
def frzW (n : Nat) (t : T) : Option W → Option W
  | some (.h m) => if m = n then some (.t t) else some (.h m)
  | o => o
def G.frz (g : G) (n : Nat) (t : T) : G := ⟨g.sl.map (frzW n t), g.mem.set n none⟩

/-- a caught exception of an own class, as a thing of the store -/
def ExI (C a : Addr) : HO := .ext fun h => ∃ (oe : Obj) (vs : Array Value), h.get? a = some oe ∧ Zc (.ref C) none oe ∧ oe.data = .fields vs
/-- .. that keeps a value in its own dict at d -/
def ExI2 (C d a : Addr) : HO := .ext fun h => ∃ (oe : Obj) (vs : Array Value), h.get? a = some oe ∧ Zc (.ref C) (some d) oe ∧ oe.data = .fields vs
mutual
def Den (K : PySem.W.Frag) (S : Hp) : T → V → Prop
  | .non, v => v = .non
  | .bl b, v => v = .bl b
  | .int i, v => v = .int i
  | .str x, v => v = .str x
  | .lst ts, v => ∃ a vs, v = .ref a ∧ S a = some (.lst vs) ∧ Dens K S ts vs
  | .sq ts, v => ∃ a vs, v = .ref a ∧ SqL K S a vs ∧ Dens K S ts vs
  | .tup ts, v => ∃ a vs, v = .ref a ∧ SqT K S a vs ∧ Dens K S ts vs
  | .dk ks ts, v => ∃ a vs, v = .ref a ∧ S a = some (.dK (ks.zip vs)) ∧ ks.length = ts.length ∧ Dens K S ts vs
  | .raw x, v => v = x
  | .exc n, v => ∃ a C, v = .ref a ∧ PySem.W.nsIn K mainGlobals n = some (some (.ref C)) ∧ S a = some (ExI C a)
  | .ob n fs ts, v => ∃ a C dx vs, v = .ref a ∧ PySem.W.nsIn K mainGlobals n = some (some (.ref C)) ∧ S a = some (.ins C dx (fs.zip vs)) ∧ fs.length = ts.length ∧ Dens K S ts vs
  | .exf n f t, v => ∃ a C d u, v = .ref a ∧ PySem.W.nsIn K mainGlobals n = some (some (.ref C)) ∧ S a = some (ExI2 C d a) ∧ S d = some (.xd [(f, u)]) ∧ Den K S t u
def Dens (K : PySem.W.Frag) (S : Hp) : List T → List V → Prop
  | [], vs => vs = []
  | t :: ts, vs => ∃ v r, vs = v :: r ∧ Den K S t v ∧ Dens K S ts r
end
section
variable {K : PySem.W.Frag} {S S' : Hp}
theorem seqT {a : Addr} {xs : List V} (e : Same S S') (h : SqT K S a xs) : SqT K S' a xs := by
  rcases h with (h | ⟨o, h⟩) | h
  · exact .inl (.inl (e _ _ h))
  · exact .inl (.inr ⟨o, e _ _ h⟩)
  · exact .inr h
mutual
theorem Den.mono (e : Same S S') : ∀ (t : T) (v : V), Den K S t v → Den K S' t v
  | .non, _, h => h
  | .bl _, _, h => h
  | .int _, _, h => h
  | .str _, _, h => h
  | .raw _, _, h => h
  | .exc _, _, h => by
    unfold Den at h ⊢
    obtain ⟨a, C, h1, h2, h3⟩ := h
    exact ⟨a, C, h1, h2, e _ _ h3⟩
  | .ob _ _ ts, v, h => by
    unfold Den at h ⊢
    obtain ⟨a, C, dx, vs, h1, h2, h3, h4, h5⟩ := h
    exact ⟨a, C, dx, vs, h1, h2, e _ _ h3, h4, Dens.mono e ts vs h5⟩
  | .exf _ _ t, v, h => by
    unfold Den at h ⊢
    obtain ⟨a, C, d, u, h1, h2, h3, h4, h5⟩ := h
    exact ⟨a, C, d, u, h1, h2, e _ _ h3, e _ _ h4, Den.mono e t u h5⟩
  | .lst ts, v, h => by
    unfold Den at h ⊢
    obtain ⟨a, vs, h1, h2, h3⟩ := h
    exact ⟨a, vs, h1, e _ _ h2, Dens.mono e ts vs h3⟩
  | .sq ts, v, h => by
    unfold Den at h ⊢
    obtain ⟨a, vs, h1, h2, h3⟩ := h
    exact ⟨a, vs, h1, e.seq h2, Dens.mono e ts vs h3⟩
  | .tup ts, v, h => by
    unfold Den at h ⊢
    obtain ⟨a, vs, h1, h2, h3⟩ := h
    exact ⟨a, vs, h1, seqT e h2, Dens.mono e ts vs h3⟩
  | .dk ks ts, v, h => by
    unfold Den at h ⊢
    obtain ⟨a, vs, h1, h2, h3, h4⟩ := h
    exact ⟨a, vs, h1, e _ _ h2, h3, Dens.mono e ts vs h4⟩
theorem Dens.mono (e : Same S S') : ∀ (ts : List T) (vs : List V), Dens K S ts vs → Dens K S' ts vs
  | [], _, h => h
  | t :: ts, vs, h => by
    unfold Dens at h ⊢
    obtain ⟨v, r, h1, h2, h3⟩ := h
    exact ⟨v, r, h1, Den.mono e t v h2, Dens.mono e ts r h3⟩
end
theorem Dens.iff : ∀ {ts : List T} {vs : List V}, Dens K S ts vs ↔ Paired (Den K S) ts vs
  | [], vs => by
    unfold Dens
    constructor
    · rintro rfl; exact .nil
    · intro h; cases h; rfl
  | t :: ts, vs => by
    unfold Dens
    constructor
    · rintro ⟨v, r, rfl, h1, h2⟩; exact .cons h1 (Dens.iff.mp h2)
    · intro h; cases h with
      | cons h1 h2 => exact ⟨_, _, rfl, h1, Dens.iff.mpr h2⟩
end
/-! general facts of Paired -/
section
variable {α β : Type} {F : α → β → Prop}
theorem pget : ∀ {xs : List α} {ys : List β} {i : Nat} {x : α}, Paired F xs ys → xs[i]? = some x → ∃ y, ys[i]? = some y ∧ F x y
  | _, _, _, _, .nil, e => by simp at e
  | _, _, 0, _, .cons r _, e => by simp at e; subst e; exact ⟨_, rfl, r⟩
  | _, _, i + 1, x, .cons _ t, e => by
    obtain ⟨u, h1, h2⟩ := pget (i := i) (x := x) t (by simpa using e)
    exact ⟨u, by simpa using h1, h2⟩
theorem pgetR : ∀ {xs : List α} {ys : List β} {i : Nat} {y : β}, Paired F xs ys → ys[i]? = some y → ∃ x, xs[i]? = some x ∧ F x y
  | _, _, _, _, .nil, e => by simp at e
  | _, _, 0, _, .cons r _, e => by simp at e; subst e; exact ⟨_, rfl, r⟩
  | _, _, i + 1, x, .cons _ t, e => by
    obtain ⟨u, h1, h2⟩ := pgetR (i := i) (y := x) t (by simpa using e)
    exact ⟨u, by simpa using h1, h2⟩
theorem pset {x : α} {y : β} (r : F x y) : ∀ {xs : List α} {ys : List β} (i : Nat), Paired F xs ys → Paired F (xs.set i x) (ys.set i y)
  | _, _, _, .nil => .nil
  | _, _, 0, .cons _ t => .cons r t
  | _, _, i + 1, .cons q t => .cons q (pset r i t)
theorem papp : ∀ {xs us : List α} {ys vs : List β}, Paired F xs ys → Paired F us vs → Paired F (xs ++ us) (ys ++ vs)
  | _, _, _, _, .nil, s => s
  | _, _, _, _, .cons r t, s => .cons r (papp t s)
theorem ptake : ∀ {xs : List α} {ys : List β} (n : Nat), Paired F xs ys → Paired F (xs.take n) (ys.take n)
  | _, _, 0, _ => .nil
  | _, _, _ + 1, .nil => .nil
  | _, _, n + 1, .cons r t => .cons r (ptake n t)
theorem pdrop : ∀ {xs : List α} {ys : List β} (n : Nat), Paired F xs ys → Paired F (xs.drop n) (ys.drop n)
  | _, _, 0, r => r
  | _, _, _ + 1, .nil => .nil
  | _, _, n + 1, .cons _ t => pdrop n t
theorem prev : ∀ {xs : List α} {ys : List β}, Paired F xs ys → Paired F xs.reverse ys.reverse
  | _, _, .nil => .nil
  | _, _, .cons r t => by
    rw [List.reverse_cons, List.reverse_cons]
    exact papp (prev t) (.cons r .nil)
theorem pmapL {γ : Type} (f : γ → α) : ∀ {xs : List γ} {ys : List β}, Paired F (xs.map f) ys ↔ Paired (fun x y => F (f x) y) xs ys
  | [], ys => by
    constructor
    · intro h; cases h; exact .nil
    · intro h; cases h; exact .nil
  | x :: xs, ys => by
    constructor
    · intro h
      rw [List.map_cons] at h
      cases h with
      | cons h1 h2 => exact .cons h1 ((pmapL f).mp h2)
    · intro h
      cases h with
      | cons h1 h2 => exact .cons h1 ((pmapL f).mpr h2)
theorem perase : ∀ {xs : List α} {ys : List β} (n : Nat), Paired F xs ys → Paired F (xs.eraseIdx n) (ys.eraseIdx n)
  | _, _, _, .nil => .nil
  | _, _, 0, .cons _ t => t
  | _, _, n + 1, .cons q t => .cons q (perase n t)
end

def DenW (K : PySem.W.Frag) (al : List Addr) (S : Hp) : W → V → Prop
  | .t x, v => Den K S x v
  | .h n, v => ∃ a, al[n]? = some a ∧ v = .ref a
def CellOk (K : PySem.W.Frag) (al : List Addr) (S : Hp) : Cell → HO → Prop
  | .lt ts, o => ∃ vs, o = .lst vs ∧ Paired (Den K S) ts vs
  | .lw ws, o => ∃ vs, o = .lst vs ∧ Paired (DenW K al S) ws vs
  | .dt ks ts, o => ∃ vs, o = .dK (ks.zip vs) ∧ ks.length = ts.length ∧ Paired (Den K S) ts vs
  | .dw ks ws, o => ∃ vs, o = .dK (ks.zip vs) ∧ ks.length = ws.length ∧ Paired (DenW K al S) ws vs
  | .tw ws, o => ∃ vs, o = .tup vs ∧ Paired (DenW K al S) ws vs
  | .ob n fs ws, o => ∃ C dx vs, PySem.W.nsIn K mainGlobals n = some (some (.ref C)) ∧ o = .ins C dx (fs.zip vs) ∧ fs.length = ws.length ∧ Paired (DenW K al S) ws vs
  | .dp ks ts, o => ∃ vs, o = .dT (ks.zip vs) ∧ ks.length = ts.length ∧ Paired (Den K S) ts vs
structure Grow (al : List Addr) (S : Hp) (al' : List Addr) (S' : Hp) : Prop where
  al : ∃ more, al' = al ++ more
  s : Same S S'
theorem Grow.refl (al : List Addr) (S : Hp) : Grow al S al S := ⟨⟨[], by simp⟩, Same.refl S⟩
theorem Grow.trans {a b c : List Addr} {S S' S'' : Hp} (x : Grow a S b S') (y : Grow b S' c S'') : Grow a S c S'' := by
  obtain ⟨⟨m, e⟩, s⟩ := x
  obtain ⟨⟨m', e'⟩, s'⟩ := y
  exact ⟨⟨m ++ m', by rw [e', e, List.append_assoc]⟩, s.trans s'⟩
theorem Grow.get {a b : List Addr} {S S' : Hp} (g : Grow a S b S') {n : Nat} {x : Addr} (h : a[n]? = some x) : b[n]? = some x := by
  obtain ⟨⟨m, rfl⟩, _⟩ := g
  rw [List.getElem?_append_left (by
    rcases Nat.lt_or_ge n a.length with q | q
    · exact q
    · rw [List.getElem?_eq_none q] at h; cases h)]
  exact h
section
variable {K : PySem.W.Frag} {al al' : List Addr} {S S' F H H' : Hp}
theorem DenW.grow (g : Grow al S al' S') : ∀ {w : W} {v : V}, DenW K al S w v → DenW K al' S' w v
  | .t x, v, h => Den.mono g.s x v h
  | .h n, v, ⟨a, h1, h2⟩ => ⟨a, g.get h1, h2⟩
theorem DenWs.grow (g : Grow al S al' S') {ws : List W} {vs : List V} (h : Paired (DenW K al S) ws vs) : Paired (DenW K al' S') ws vs := Paired.mono (fun _ _ => DenW.grow g) h
theorem Denp.grow (g : Same S S') {ws : List T} {vs : List V} (h : Paired (Den K S) ws vs) : Paired (Den K S') ws vs := Paired.mono (fun t v => Den.mono g t v) h
theorem CellOk.grow (g : Grow al S al' S') : ∀ {c : Cell} {o : HO}, CellOk K al S c o → CellOk K al' S' c o
  | .lt _, _, ⟨vs, h, r⟩ => ⟨vs, h, Denp.grow g.s r⟩
  | .lw _, _, ⟨vs, h, r⟩ => ⟨vs, h, DenWs.grow g r⟩
  | .dt _ _, _, ⟨vs, h, l, r⟩ => ⟨vs, h, l, Denp.grow g.s r⟩
  | .dw _ _, _, ⟨vs, h, l, r⟩ => ⟨vs, h, l, DenWs.grow g r⟩
  | .tw _, _, ⟨vs, h, r⟩ => ⟨vs, h, DenWs.grow g r⟩
  | .ob _ _ _, _, ⟨C, dx, vs, n, h, l, r⟩ => ⟨C, dx, vs, n, h, l, DenWs.grow g r⟩
  | .dp _ _, _, ⟨vs, h, l, r⟩ => ⟨vs, h, l, Denp.grow g.s r⟩
structure RepM (K : PySem.W.Frag) (al : List Addr) (S F H : Hp) (m : Sto) : Prop where
  same : Same S H
  fr : Same F H
  dis : ∀ a o, S a = some o → F a = none
  len : al.length = m.length
  cell : ∀ (n : Nat) (c : Cell), m[n]? = some (some c) → ∃ a o, al[n]? = some a ∧ S a = none ∧ F a = none ∧ H a = some o ∧ CellOk K al S c o
  inj : ∀ (n k : Nat) (c d : Cell) (a : Addr), m[n]? = some (some c) → m[k]? = some (some d) → al[n]? = some a → al[k]? = some a → n = k
structure Rep (K : PySem.W.Frag) (al : List Addr) (S F H : Hp) (σ : St) (g : G) : Prop extends RepM K al S F H g.mem where
  slen : g.sl.length = σ.length
  slot : ∀ (i : Nat) (w : W), g.sl[i]? = some (some w) → ∃ v, σ[i]? = some (some v) ∧ DenW K al S w v
variable {σ σ' : St} {g : G} {m : Sto}
/-- a new thing at p, taken as stable -/
theorem RepM.lay (R : RepM K al S F H m) {p : Addr} {o : HO} (np : H p = none) : RepM K al (upd S p o) F (upd H p o) m ∧ Grow al S al (upd S p o) := by
  have nS : S p = none := R.same.free np
  have nF : F p = none := R.fr.free np
  have gr : Grow al S al (upd S p o) := ⟨⟨[], by simp⟩, fun b u e => by rw [upd_ne (ne_of_none e nS)]; exact e⟩
  refine ⟨⟨fun b u e => ?_, fun b u e => ?_, fun b u e => ?_, R.len, fun n c e => ?_, R.inj⟩, gr⟩
  · by_cases hb : b = p
    · subst hb; rw [upd_same] at e ⊢; exact e
    · rw [upd_ne hb] at e ⊢; exact R.same b u e
  · rw [upd_ne (ne_of_none e nF)]; exact R.fr b u e
  · by_cases hb : b = p
    · subst hb; exact nF
    · rw [upd_ne hb] at e; exact R.dis b u e
  · obtain ⟨a, o', h1, h2, h3, h4, h5⟩ := R.cell n c e
    have na : a ≠ p := ne_of_none h4 np
    exact ⟨a, o', h1, by rw [upd_ne na]; exact h2, h3, by rw [upd_ne na]; exact h4, h5.grow gr⟩
/-- a new thing at p that nobody looks at -/
theorem RepM.skip (R : RepM K al S F H m) {p : Addr} {o : HO} (np : H p = none) : RepM K al S F (upd H p o) m := by
  refine ⟨fun b u e => ?_, fun b u e => ?_, R.dis, R.len, fun n c e => ?_, R.inj⟩
  · rw [upd_ne (ne_of_none (R.same _ _ e) np)]; exact R.same b u e
  · rw [upd_ne (ne_of_none (R.fr _ _ e) np)]; exact R.fr b u e
  · obtain ⟨a, o', h1, h2, h3, h4, h5⟩ := R.cell n c e
    exact ⟨a, o', h1, h2, h3, by rw [upd_ne (ne_of_none h4 np)]; exact h4, h5⟩
/-- a new cell -/
theorem RepM.push (R : RepM K al S F H m) {p : Addr} {o : HO} {c : Cell} (np : H p = none) (ok : CellOk K (al ++ [p]) S c o) : RepM K (al ++ [p]) S F (upd H p o) (m ++ [some c]) ∧ Grow al S (al ++ [p]) S := by
  have gr : Grow al S (al ++ [p]) S := ⟨⟨[p], rfl⟩, Same.refl S⟩
  have hold : ∀ (n : Nat) (c' : Cell), (m ++ [some c])[n]? = some (some c') → (n < m.length ∧ m[n]? = some (some c')) ∨ (n = m.length ∧ c' = c) := fun n c' e => by
    rcases Nat.lt_or_ge n m.length with q | q
    · rw [List.getElem?_append_left q] at e; exact .inl ⟨q, e⟩
    · rw [List.getElem?_append_right q] at e
      rcases Nat.eq_or_lt_of_le q with q' | q'
      · subst q'; simp at e; exact .inr ⟨rfl, e.symm⟩
      · rw [List.getElem?_eq_none (by simp; omega)] at e; cases e
  have atE : (al ++ [p])[m.length]? = some p := by rw [List.getElem?_append_right (by rw [R.len]; exact Nat.le_refl _), R.len]; simp
  have atN : ∀ (n : Nat), n < m.length → (al ++ [p])[n]? = al[n]? := fun n hn => List.getElem?_append_left (by rw [R.len]; exact hn)
  refine ⟨⟨fun b u e => ?_, fun b u e => ?_, R.dis, by simp [R.len], fun n c' e => ?_, fun n k c1 c2 a e1 e2 e3 e4 => ?_⟩, gr⟩
  · rw [upd_ne (ne_of_none (R.same _ _ e) np)]; exact R.same b u e
  · rw [upd_ne (ne_of_none (R.fr _ _ e) np)]; exact R.fr b u e
  · rcases hold n c' e with ⟨hn, e'⟩ | ⟨rfl, rfl⟩
    · obtain ⟨a, o', h1, h2, h3, h4, h5⟩ := R.cell n c' e'
      exact ⟨a, o', by rw [atN n hn]; exact h1, h2, h3, by rw [upd_ne (ne_of_none h4 np)]; exact h4, h5.grow gr⟩
    · exact ⟨p, o, atE, R.same.free np, R.fr.free np, upd_same, ok⟩
  · rcases hold n c1 e1 with ⟨hn, e1'⟩ | ⟨rfl, rfl⟩
    · rcases hold k c2 e2 with ⟨hk, e2'⟩ | ⟨rfl, rfl⟩
      · rw [atN n hn] at e3; rw [atN k hk] at e4
        exact R.inj n k c1 c2 a e1' e2' e3 e4
      · rw [atN n hn] at e3
        rw [atE] at e4
        cases e4
        obtain ⟨a, o', h1, h2, h3, h4, h5⟩ := R.cell n c1 e1'
        rw [e3] at h1; cases h1
        rw [np] at h4; cases h4
    · rcases hold k c2 e2 with ⟨hk, e2'⟩ | ⟨rfl, rfl⟩
      · rw [atN k hk] at e4
        rw [atE] at e3
        cases e3
        obtain ⟨a, o', h1, h2, h3, h4, h5⟩ := R.cell k c2 e2'
        rw [e4] at h1; cases h1
        rw [np] at h4; cases h4
      · rfl
/-- a cell written -/
theorem RepM.put (R : RepM K al S F H m) {n : Nat} {c0 c : Cell} {a : Addr} {o : HO} (e : m[n]? = some (some c0)) (ea : al[n]? = some a) (ok : CellOk K al S c o) : RepM K al S F (upd H a o) (m.set n (some c)) := by
  have nn : n < m.length := by
    rcases Nat.lt_or_ge n m.length with q | q
    · exact q
    · rw [List.getElem?_eq_none q] at e; cases e
  obtain ⟨a', o', g1, g2, g3, g4, g5⟩ := R.cell n c0 e
  rw [ea] at g1; cases g1
  have hset : ∀ (k : Nat) (c' : Cell), (m.set n (some c))[k]? = some (some c') → (k = n ∧ c' = c) ∨ (k ≠ n ∧ m[k]? = some (some c')) := fun k c' q => by
    by_cases hk : k = n
    · subst hk; rw [List.getElem?_set_self nn] at q; cases q; exact .inl ⟨rfl, rfl⟩
    · rw [List.getElem?_set_ne (Ne.symm hk)] at q; exact .inr ⟨hk, q⟩
  have some_of : ∀ (k : Nat) (c' : Cell), (m.set n (some c))[k]? = some (some c') → ∃ d, m[k]? = some (some d) := fun k c' q => by
    rcases hset k c' q with ⟨rfl, _⟩ | ⟨_, q'⟩
    · exact ⟨c0, e⟩
    · exact ⟨c', q'⟩
  refine ⟨fun b u q => ?_, fun b u q => ?_, R.dis, by simp [R.len], fun k c' q => ?_, fun k l c1 c2 b e1 e2 e3 e4 => ?_⟩
  · rw [upd_ne (ne_of_none q g2)]; exact R.same b u q
  · rw [upd_ne (ne_of_none q g3)]; exact R.fr b u q
  · rcases hset k c' q with ⟨rfl, rfl⟩ | ⟨hk, q'⟩
    · exact ⟨a, o, ea, g2, g3, upd_same, ok⟩
    · obtain ⟨b, o', h1, h2, h3, h4, h5⟩ := R.cell k c' q'
      have hb : b ≠ a := fun z => by subst z; exact hk (R.inj k n c' c0 b q' e h1 ea)
      exact ⟨b, o', h1, h2, h3, by rw [upd_ne hb]; exact h4, h5⟩
  · obtain ⟨d1, q1⟩ := some_of k c1 e1
    obtain ⟨d2, q2⟩ := some_of l c2 e2
    exact R.inj k l d1 d2 b q1 q2 e3 e4
/-- cells forgotten -/
theorem RepM.forget (R : RepM K al S F H m) {m' : Sto} (hl : m'.length = m.length) (h : ∀ (n : Nat) (c : Cell), m'[n]? = some (some c) → m[n]? = some (some c)) : RepM K al S F H m' :=
  ⟨R.same, R.fr, R.dis, by rw [hl]; exact R.len, fun n c e => R.cell n c (h n c e), fun n k c d a e1 e2 => R.inj n k c d a (h n c e1) (h k d e2)⟩
/-- a cell becomes stable -/
theorem RepM.frz (R : RepM K al S F H m) {n : Nat} {c : Cell} (e : m[n]? = some (some c)) : ∃ a o S', al[n]? = some a ∧ S' = upd S a o ∧ CellOk K al S c o ∧ RepM K al S' F H (m.set n none) ∧ Grow al S al S' ∧ S' a = some o := by
  have nn : n < m.length := by
    rcases Nat.lt_or_ge n m.length with q | q
    · exact q
    · rw [List.getElem?_eq_none q] at e; cases e
  obtain ⟨a, o, g1, g2, g3, g4, g5⟩ := R.cell n c e
  have gr : Grow al S al (upd S a o) := ⟨⟨[], by simp⟩, fun b u q => by rw [upd_ne (ne_of_none q g2)]; exact q⟩
  have hset : ∀ (k : Nat) (c' : Cell), (m.set n none)[k]? = some (some c') → k ≠ n ∧ m[k]? = some (some c') := fun k c' q => by
    by_cases hk : k = n
    · subst hk; rw [List.getElem?_set_self nn] at q; cases q
    · rw [List.getElem?_set_ne (Ne.symm hk)] at q; exact ⟨hk, q⟩
  refine ⟨a, o, _, g1, rfl, g5, ⟨fun b u q => ?_, R.fr, fun b u q => ?_, by simp [R.len], fun k c' q => ?_, fun k l c1 c2 b e1 e2 e3 e4 => ?_⟩, gr, upd_same⟩
  · by_cases hb : b = a
    · subst hb; rw [upd_same] at q; cases q; exact g4
    · rw [upd_ne hb] at q; exact R.same b u q
  · by_cases hb : b = a
    · subst hb; exact g3
    · rw [upd_ne hb] at q; exact R.dis b u q
  · obtain ⟨hk, q'⟩ := hset k c' q
    obtain ⟨b, o', h1, h2, h3, h4, h5⟩ := R.cell k c' q'
    have hb : b ≠ a := fun z => by subst z; exact hk (R.inj k n c' c b q' e h1 g1)
    exact ⟨b, o', h1, by rw [upd_ne hb]; exact h2, h3, h4, h5.grow gr⟩
  · exact R.inj k l c1 c2 b (hset k c1 e1).2 (hset l c2 e2).2 e3 e4
/-- the slots stay described -/
theorem Rep.withM (R : Rep K al S F H σ g) {m' : Sto} (gr : Grow al S al' S') (M : RepM K al' S' F H' m') : Rep K al' S' F H' σ ⟨g.sl, m'⟩ :=
  ⟨M, R.slen, fun i w e => let ⟨v, h1, h2⟩ := R.slot i w e; ⟨v, h1, h2.grow gr⟩⟩
theorem Rep.setSlot (R : Rep K al S F H σ g) {i : Nat} {w : W} {v : V} (d : DenW K al S w v) : Rep K al S F H (σ.set i (some v)) (g.set i w) := by
  refine ⟨R.toRepM, by simp [G.set, R.slen], fun j u e => ?_⟩
  unfold G.set at e
  dsimp only at e
  by_cases hj : i = j
  · subst hj
    by_cases hl : i < g.sl.length
    · rw [List.getElem?_set_self hl] at e
      cases e
      exact ⟨v, List.getElem?_set_self (by rw [← R.slen]; exact hl), d⟩
    · rw [List.getElem?_eq_none (by simp; omega)] at e; cases e
  · rw [List.getElem?_set_ne hj] at e
    obtain ⟨v', h1, h2⟩ := R.slot j u e
    exact ⟨v', by rw [List.getElem?_set_ne hj]; exact h1, h2⟩
end
end DL

namespace DL
open PySem PySem.Spec L2

abbrev Dt := G → (W → G → Prop) → Prop
abbrev DTt := G → (Bool → G → Prop) → Prop
abbrev DAt := G → (List W → G → Prop) → Prop
def Ct (K : PySem.W.Frag) (al : List Addr) (S F : Hp) (σ : L2.St) (Q : W → G → Prop) (QV : VK) : Prop :=
  ∀ al' S' H' g' v w, Rep K al' S' F H' σ g' → Grow al S al' S' → DenW K al' S' w v → Q w g' → QV v H'
theorem Ct.grow {K : PySem.W.Frag} {al al1 : List Addr} {S S1 F : Hp} {σ : L2.St} {Q : W → G → Prop} {QV : VK} (k : Ct K al S F σ Q QV) (gr : Grow al S al1 S1) : Ct K al1 S1 F σ Q QV :=
  fun al' S' H' g' v w R g2 d q => k al' S' H' g' v w R (gr.trans g2) d q
theorem Ct.val {K : PySem.W.Frag} {al : List Addr} {S F H : Hp} {σ : L2.St} {Q : W → G → Prop} {QV : VK} (k : Ct K al S F σ Q QV) {g : G} {v : V} {w : W} (R : Rep K al S F H σ g) (d : DenW K al S w v) (q : Q w g) : QV v H :=
  k al S H g v w R (Grow.refl _ _) d q
theorem Ct.tr {K : PySem.W.Frag} {al : List Addr} {S F H : Hp} {σ : L2.St} {Q : W → G → Prop} {QV : VK} (k : Ct K al S F σ Q QV) {g : G} {v : V} {t : T} (R : Rep K al S F H σ g) (d : Den K S t v) (q : Q (.t t) g) : QV v H :=
  k al S H g v (.t t) R (Grow.refl _ _) d q
def DEr (K : PySem.W.Frag) (τ : TE) (t : Dt) : Prop := ∀ (al : List Addr) (S F H : Hp) (σ : L2.St) (g : G) (Q : W → G → Prop) (QV : VK), Rep K al S F H σ g → t g Q → Ct K al S F σ Q QV → τ σ H QV
def DTr (K : PySem.W.Frag) (τ : TT) (t : DTt) : Prop := ∀ (al : List Addr) (S F H : Hp) (σ : L2.St) (g : G) (Q : Bool → G → Prop) (QV : Bool → Hp → Prop), Rep K al S F H σ g → t g Q →
  (∀ al' S' H' g' b, Rep K al' S' F H' σ g' → Grow al S al' S' → Q b g' → QV b H') → τ σ H QV
def DAr (K : PySem.W.Frag) (τ : TA) (t : DAt) : Prop := ∀ (al : List Addr) (S F H : Hp) (σ : L2.St) (g : G) (Q : List W → G → Prop) (QV : List V → Hp → Prop), Rep K al S F H σ g → t g Q →
  (∀ al' S' H' g' vs ws, Rep K al' S' F H' σ g' → Grow al S al' S' → Paired (DenW K al' S') ws vs → Q ws g' → QV vs H') → τ σ H QV
structure DE (X : Cx) (e : Expr) (τ : TE) (t : Dt) : Prop where
  pe : PE X e τ
  r : DEr X.K τ t
structure DT (X : Cx) (e : Expr) (τ : TT) (t : DTt) : Prop where
  pe : PT X e τ
  r : DTr X.K τ t
structure DW (X : Cx) (e : Expr) (τ : TT) (t : DTt) : Prop where
  pe : PW X e τ
  r : DTr X.K τ t
structure DA (X : Cx) (es : List Expr) (τ : TA) (t : DAt) : Prop where
  pe : PA X es τ
  r : DAr X.K τ t

/-! views -/
def Cell.tree : Cell → Option T
  | .lt ts => some (.lst ts)
  | .dt ks ts => some (.dk ks ts)
  | _ => none
def G.cell? (g : G) : W → Option Cell
  | .h n => match g.mem[n]? with | some (some c) => some c | _ => none
  | .t (.lst ts) => some (.lt ts)
  | .t (.dk ks ts) => some (.dt ks ts)
  | _ => none
def G.seqL? (g : G) (w : W) : Option (List T) := match g.cell? w with | some (.lt ts) => some ts | _ => none
def G.wseq? (g : G) (w : W) : Option (List W) := match g.cell? w with | some (.lw ts) => some ts | _ => none
def G.seq? (g : G) : W → Option (List T)
  | .t (.tup ts) => some ts
  | .t (.sq ts) => some ts
  | w => g.seqL? w
def G.tree? (g : G) : W → Option T
  | .t t => some t
  | .h n => match g.mem[n]? with | some (some c) => c.tree | _ => none
section
variable {K : PySem.W.Frag} {al al' : List Addr} {S S' F H H' : Hp} {σ : L2.St} {g : G}
theorem Rep.view (R : Rep K al S F H σ g) {w : W} {v : V} {c : Cell} (d : DenW K al S w v) (e : g.cell? w = some c) : ∃ a o, v = .ref a ∧ H a = some o ∧ CellOk K al S c o := by
  cases w with
  | h n =>
    obtain ⟨a, ea, rfl⟩ := d
    unfold G.cell? at e
    dsimp only at e
    split at e
    · rename_i c' q
      cases e
      obtain ⟨a', o, h1, h2, h3, h4, h5⟩ := R.cell n c q
      rw [ea] at h1; cases h1
      exact ⟨a, o, rfl, h4, h5⟩
    · cases e
  | t x =>
    cases x with
    | lst ts =>
      cases e
      unfold DenW Den at d
      obtain ⟨a, vs, rfl, h1, h2⟩ := d
      exact ⟨a, _, rfl, R.same _ _ h1, vs, rfl, Dens.iff.mp h2⟩
    | dk ks ts =>
      cases e
      unfold DenW Den at d
      obtain ⟨a, vs, rfl, h1, h2, h3⟩ := d
      exact ⟨a, _, rfl, R.same _ _ h1, vs, rfl, h2, Dens.iff.mp h3⟩
    | _ => cases e
theorem Rep.viewL (R : Rep K al S F H σ g) {w : W} {v : V} {ts : List T} (d : DenW K al S w v) (e : g.seqL? w = some ts) : ∃ a vs, v = .ref a ∧ H a = some (.lst vs) ∧ Paired (Den K S) ts vs := by
  unfold G.seqL? at e
  split at e
  · rename_i ts' q
    cases e
    obtain ⟨a, o, h1, h2, vs, rfl, h3⟩ := R.view d q
    exact ⟨a, vs, h1, h2, h3⟩
  · cases e
theorem Rep.viewW (R : Rep K al S F H σ g) {w : W} {v : V} {ts : List W} (d : DenW K al S w v) (e : g.wseq? w = some ts) : ∃ a vs, v = .ref a ∧ H a = some (.lst vs) ∧ Paired (DenW K al S) ts vs := by
  unfold G.wseq? at e
  split at e
  · rename_i ts' q
    cases e
    obtain ⟨a, o, h1, h2, vs, rfl, h3⟩ := R.view d q
    exact ⟨a, vs, h1, h2, h3⟩
  · cases e
theorem Rep.viewS (R : Rep K al S F H σ g) {w : W} {v : V} {ts : List T} (d : DenW K al S w v) (e : g.seq? w = some ts) : ∃ a vs, v = .ref a ∧ (SqL K H a vs ∨ SqT K H a vs) ∧ Paired (Den K S) ts vs := by
  have go : ∀ ts', g.seqL? w = some ts' → ∃ a vs, v = .ref a ∧ (SqL K H a vs ∨ SqT K H a vs) ∧ Paired (Den K S) ts' vs := fun ts' q => by
    obtain ⟨a, vs, h1, h2, h3⟩ := R.viewL d q
    exact ⟨a, vs, h1, .inl (.inl (.inl h2)), h3⟩
  unfold G.seq? at e
  split at e
  · cases e
    unfold DenW Den at d
    obtain ⟨a, vs, rfl, h1, h2⟩ := d
    exact ⟨a, vs, rfl, .inr (seqT R.same h1), Dens.iff.mp h2⟩
  · cases e
    unfold DenW Den at d
    obtain ⟨a, vs, rfl, h1, h2⟩ := d
    exact ⟨a, vs, rfl, .inl (R.same.seq h1), Dens.iff.mp h2⟩
  · exact go _ e
/-- as a tree in the heap as it stands -/
theorem Rep.viewT (R : Rep K al S F H σ g) {w : W} {v : V} {t : T} (d : DenW K al S w v) (e : g.tree? w = some t) : Den K H t v := by
  cases w with
  | t x => cases e; exact Den.mono R.same _ v d
  | h n =>
    unfold G.tree? at e
    dsimp only at e
    split at e
    · rename_i c q
      have q2 : g.cell? (.h n) = some c := by unfold G.cell?; dsimp only; rw [q]
      obtain ⟨a, o, h1, h2, h3⟩ := R.view d q2
      cases c with
      | lt ts =>
        cases e
        obtain ⟨vs, rfl, h4⟩ := h3
        unfold Den
        exact ⟨a, vs, h1, h2, Dens.iff.mpr (Denp.grow R.same h4)⟩
      | dt ks ts =>
        cases e
        obtain ⟨vs, rfl, h4, h5⟩ := h3
        unfold Den
        exact ⟨a, vs, h1, h2, h4, Dens.iff.mpr (Denp.grow R.same h5)⟩
      | _ => cases e
    · cases e
theorem Rep.layT (R : Rep K al S F H σ g) {p : Addr} {o : HO} (np : H p = none) : Rep K al (upd S p o) F (upd H p o) σ g ∧ Grow al S al (upd S p o) :=
  let ⟨M, gr⟩ := R.toRepM.lay (o := o) np
  ⟨R.withM gr M, gr⟩
/-- a new list of trees, stable -/
theorem Rep.layL (R : Rep K al S F H σ g) {p : Addr} {ts : List T} {vs : List V} (np : H p = none) (d : Paired (Den K S) ts vs) :
    Rep K al (upd S p (.lst vs)) F (upd H p (.lst vs)) σ g ∧ Grow al S al (upd S p (.lst vs)) ∧ DenW K al (upd S p (.lst vs)) (.t (.lst ts)) (.ref p) := by
  obtain ⟨R1, gr⟩ := R.layT (o := .lst vs) np
  refine ⟨R1, gr, ?_⟩
  unfold DenW Den
  exact ⟨p, vs, rfl, upd_same, Dens.iff.mpr (Denp.grow gr.s d)⟩
theorem Rep.layTup (R : Rep K al S F H σ g) {p : Addr} {ts : List T} {vs : List V} (np : H p = none) (d : Paired (Den K S) ts vs) :
    Rep K al (upd S p (.tup vs)) F (upd H p (.tup vs)) σ g ∧ Grow al S al (upd S p (.tup vs)) ∧ DenW K al (upd S p (.tup vs)) (.t (.tup ts)) (.ref p) := by
  obtain ⟨R1, gr⟩ := R.layT (o := .tup vs) np
  refine ⟨R1, gr, ?_⟩
  unfold DenW Den
  exact ⟨p, vs, rfl, .inl (.inl upd_same), Dens.iff.mpr (Denp.grow gr.s d)⟩
theorem Rep.pushC (R : Rep K al S F H σ g) {p : Addr} {o : HO} {c : Cell} (np : H p = none) (ok : CellOk K (al ++ [p]) S c o) :
    Rep K (al ++ [p]) S F (upd H p o) σ (g.push c) ∧ Grow al S (al ++ [p]) S ∧ DenW K (al ++ [p]) S (.h g.mem.length) (.ref p) := by
  obtain ⟨M, gr⟩ := R.toRepM.push np ok
  refine ⟨R.withM gr M, gr, p, ?_, rfl⟩
  rw [List.getElem?_append_right (by rw [R.len]; exact Nat.le_refl _), R.len]; simp
end
theorem patI {F : T → V → Prop} {xs : List T} {ys : List V} {i : Int} {x : T} (p : Paired F xs ys) (h : atI xs i = some x) : ∃ y, atI ys i = some y ∧ F x y := by
  unfold atI at h ⊢
  rw [← p.length]
  cases e : ixN xs.length i with
  | none => rw [e] at h; cases h
  | some j =>
    rw [e] at h
    exact pget p h
theorem patW {F : W → V → Prop} {xs : List W} {ys : List V} {i : Int} {x : W} (p : Paired F xs ys) (h : atI xs i = some x) : ∃ y, atI ys i = some y ∧ F x y := by
  unfold atI at h ⊢
  rw [← p.length]
  cases e : ixN xs.length i with
  | none => rw [e] at h; cases h
  | some j =>
    rw [e] at h
    exact pget p h

section
variable {X : Cx}
/-! names, constants -/
def dVar (i : Nat) : Dt := fun g Q => match g.sl[i]? with | some (some w) => Q w g | _ => False
theorem der_var {K : PySem.W.Frag} (i : Nat) : DEr K (tVar i) (dVar i) := by
  intro al S F H σ g Q QV R q k
  unfold dVar at q
  split at q
  · rename_i w e
    obtain ⟨v, h1, h2⟩ := R.slot i w e
    exact ⟨v, h1, k.val R h2 q⟩
  · exact q.elim
theorem de_var (i : Nat) {x : Str} {pos : Pos} (hN : X.N[i]? = some x := by rfl) (hv : Vis X.env.scope x := by first | exact Or.inl rfl | exact Or.inr (Or.inl rfl) | exact Or.inr (Or.inr rfl)) (hd : (x == ("__debug__" : Str)) = false := by decide)
    (hcd : (x == ("__classdict__" : Str)) = false := by decide) : DE X (.Name x pos) (tVar i) (dVar i) := ⟨pe_var hN hv hd hcd, der_var i⟩
/-- the cell that a slot holds becomes a tree -/
def dFrz (i : Nat) : Dt := fun g Q => match g.sl[i]? with
  | some (some (.t t)) => Q (.t t) g
  | some (some (.h n)) => (match g.mem[n]? with
    | some (some c) => (match c.tree with | some t => Q (.t t) (g.frz n t) | none => False)
    | _ => False)
  | _ => False
theorem Rep.frzT {K : PySem.W.Frag} {al : List Addr} {S F H : Hp} {σ : L2.St} {g : G} {n : Nat} {c : Cell} {t : T} (R : Rep K al S F H σ g) (e : g.mem[n]? = some (some c)) (et : c.tree = some t) :
    ∃ S' a, al[n]? = some a ∧ Rep K al S' F H σ (g.frz n t) ∧ Grow al S al S' ∧ Den K S' t (.ref a) := by
  obtain ⟨a, o, S', h1, rfl, h3, M, gr, h4⟩ := R.toRepM.frz e
  have dt : Den K (upd S a o) t (.ref a) := by
    cases c with
    | lt ts =>
      cases et
      obtain ⟨vs, rfl, h5⟩ := h3
      unfold Den
      exact ⟨a, vs, rfl, h4, Dens.iff.mpr (Denp.grow gr.s h5)⟩
    | dt ks ts =>
      cases et
      obtain ⟨vs, rfl, h5, h6⟩ := h3
      unfold Den
      exact ⟨a, vs, rfl, h4, h5, Dens.iff.mpr (Denp.grow gr.s h6)⟩
    | _ => cases et
  refine ⟨_, a, h1, ⟨M, by simp [G.frz, R.slen], fun i w q => ?_⟩, gr, dt⟩
  unfold G.frz at q
  dsimp only at q
  rw [List.getElem?_map] at q
  cases e2 : g.sl[i]? with
  | none => rw [e2] at q; cases q
  | some o2 =>
    rw [e2] at q
    cases o2 with
    | none => cases q
    | some w0 =>
      obtain ⟨v, hv, dv⟩ := R.slot i w0 e2
      refine ⟨v, hv, ?_⟩
      cases w0 with
      | t x => cases q; exact dv.grow gr
      | h m =>
        simp only [Option.map_some, frzW] at q
        split at q
        · rename_i hm
          subst hm
          cases q
          obtain ⟨b, hb, rfl⟩ := dv
          rw [h1] at hb; cases hb
          exact dt
        · cases q
          exact dv.grow gr
theorem der_frz {K : PySem.W.Frag} (i : Nat) : DEr K (tVar i) (dFrz i) := by
  intro al S F H σ g Q QV R q k
  unfold dFrz at q
  split at q
  · rename_i t e
    obtain ⟨v, h1, h2⟩ := R.slot i _ e
    exact ⟨v, h1, k.val R h2 q⟩
  · rename_i n e
    split at q
    · rename_i c ec
      split at q
      · rename_i t et
        obtain ⟨v, h1, a, h2, rfl⟩ := R.slot i _ e
        obtain ⟨S', a', h3, R', gr, d⟩ := R.frzT ec et
        rw [h2] at h3; cases h3
        exact ⟨_, h1, k _ _ _ _ _ (.t t) R' gr d q⟩
      · exact q.elim
    · exact q.elim
  · exact q.elim
theorem de_frz (i : Nat) {x : Str} {pos : Pos} (hN : X.N[i]? = some x := by rfl) (hv : Vis X.env.scope x := by first | exact Or.inl rfl | exact Or.inr (Or.inl rfl) | exact Or.inr (Or.inr rfl)) (hd : (x == ("__debug__" : Str)) = false := by decide)
    (hcd : (x == ("__classdict__" : Str)) = false := by decide) : DE X (.Name x pos) (tVar i) (dFrz i) := ⟨pe_var hN hv hd hcd, der_frz i⟩
def dC (t : T) : Dt := fun g Q => Q (.t t) g
theorem der_c {K : PySem.W.Frag} {t : T} {v : V} (h : ∀ S, Den K S t v) : DEr K (tC v) (dC t) := by
  intro al S F H σ g Q QV R q k
  exact k.tr R (h S) q
theorem de_int {i : Int} {j pos} : DE X (.Constant (.int i) j pos) (tC (.int i)) (dC (.int i)) := ⟨pe_int, der_c fun _ => by unfold Den; rfl⟩
theorem de_bl {b : Bool} {j pos} : DE X (.Constant (.bool b) j pos) (tC (.bl b)) (dC (.bl b)) := ⟨pe_bl, der_c fun _ => by unfold Den; rfl⟩
theorem de_non {j pos} : DE X (.Constant .none j pos) (tC .non) (dC .non) := ⟨pe_non, der_c fun _ => by unfold Den; rfl⟩
theorem de_str {x : Str} {j pos} : DE X (.Constant (.str x) j pos) (tC (.str x)) (dC (.str x)) := ⟨pe_str, der_c fun _ => by unfold Den; rfl⟩
/-- a module's int -/
theorem de_globI {x : Str} {i : Int} {tk : Tok} {pos : Pos} (hg : Gl X x) (hm : X.mg x = some (.int i tk)) (hd : (x == ("__debug__" : Str)) = false := by decide) : DE X (.Name x pos) (tC (.int i)) (dC (.int i)) :=
  ⟨pe_glob hg hm ⟨_, rfl⟩ hd, der_c fun _ => by unfold Den; rfl⟩
/-- a built-in's name as a value -/
theorem de_bltn {x : Str} {n : String} {pos : Pos} (hg : Gl X x) (hm : X.mg x = none) (hv : bootBuiltins x = some (.type n)) (hn : x ≠ "__name__" := by decide) (hd : (x == ("__debug__" : Str)) = false := by decide) : DE X (.Name x pos) (tC (.ty n)) (dC (.raw (.ty n))) :=
  ⟨pe_bltn hg hm hv rfl hn hd, der_c fun _ => by unfold Den; rfl⟩

/-! operators -/
abbrev F2 := G → W → W → (W → G → Prop) → Prop
abbrev F1 := G → W → (W → G → Prop) → Prop
abbrev FN := G → List W → (W → G → Prop) → Prop
def Op2 (K : PySem.W.Frag) (r : R2) (f : F2) : Prop := ∀ (al : List Addr) (S F H : Hp) (σ : L2.St) (g : G) (x y : V) (wx wy : W) (Q : W → G → Prop) (QV : VK), Rep K al S F H σ g → DenW K al S wx x → DenW K al S wy y → f g wx wy Q → Ct K al S F σ Q QV → r x y H QV
def Op1 (K : PySem.W.Frag) (r : V → Hp → VK → Prop) (f : F1) : Prop := ∀ (al : List Addr) (S F H : Hp) (σ : L2.St) (g : G) (x : V) (wx : W) (Q : W → G → Prop) (QV : VK), Rep K al S F H σ g → DenW K al S wx x → f g wx Q → Ct K al S F σ Q QV → r x H QV
def OpN (K : PySem.W.Frag) (r : List V → Hp → VK → Prop) (f : FN) : Prop := ∀ (al : List Addr) (S F H : Hp) (σ : L2.St) (g : G) (xs : List V) (ws : List W) (Q : W → G → Prop) (QV : VK), Rep K al S F H σ g → Paired (DenW K al S) ws xs → f g ws Q → Ct K al S F σ Q QV → r xs H QV
def d2 (f : F2) (ta tb : Dt) : Dt := fun g Q => ta g fun x g1 => tb g1 fun y g2 => f g2 x y Q
def d1 (f : F1) (ta : Dt) : Dt := fun g Q => ta g fun x g1 => f g1 x Q
def dN (f : FN) (ta : DAt) : Dt := fun g Q => ta g fun xs g1 => f g1 xs Q
variable {a b : Expr} {τa τb : TE} {ta tb : Dt} {pos : Pos}
theorem der_op2 {K : PySem.W.Frag} {r : R2} {f : F2} (h : Op2 K r f) (ra : DEr K τa ta) (rb : DEr K τb tb) : DEr K (tOp r τa τb) (d2 f ta tb) := by
  intro al S F H σ g Q QV R q k
  refine ra al S F H σ g _ _ R q fun al1 S1 H1 g1 v1 w1 R1 gr1 e1 q1 => ?_
  refine rb al1 S1 F H1 σ g1 _ _ R1 q1 fun al2 S2 H2 g2 v2 w2 R2 gr2 e2 q2 => ?_
  exact h al2 S2 F H2 σ g2 v1 v2 w1 w2 Q QV R2 (e1.grow gr2) e2 q2 (k.grow (gr1.trans gr2))
theorem de_op {op : Operator} {r : R2} {f : F2} (ho : OpR X (binaryOp op) r) (h : Op2 X.K r f) (ha : DE X a τa ta) (hb : DE X b τb tb) : DE X (.BinOp a op b pos) (tOp r τa τb) (d2 f ta tb) :=
  ⟨pe_op ho ha.pe hb.pe, der_op2 h ha.r hb.r⟩
theorem de_un {op : UnaryOp} {r : V → Hp → VK → Prop} {f : F1} (ho : UnR X (unaryOp op) r) (h : Op1 X.K r f) (ha : DE X a τa ta) : DE X (.UnaryOp op a pos) (tUn r τa) (d1 f ta) := by
  refine ⟨pe_un ho ha.pe, ?_⟩
  intro al S F H σ g Q QV R q k
  refine ha.r al S F H σ g _ _ R q fun al1 S1 H1 g1 v1 w1 R1 gr1 e1 q1 => ?_
  exact h al1 S1 F H1 σ g1 v1 w1 Q QV R1 e1 q1 (k.grow gr1)
theorem de_cmp {op : CmpOp} {r : R2} {f : F2} (ho : OpR X (compareOp op) r) (h : Op2 X.K r f) (ha : DE X a τa ta) (hb : DE X b τb tb) (hm : behindInMarks op b = false := by first | exact nomark _ | rfl) : DE X (.Compare a [op] [b] pos) (tOp r τa τb) (d2 f ta tb) :=
  ⟨pe_cmpR ho ha.pe hb.pe hm, der_op2 h ha.r hb.r⟩
theorem de_ixR {r : R2} {f : F2} (ho : IxR X r) (h : Op2 X.K r f) (ha : DE X a τa ta) (hb : DE X b τb tb) (hs : PlainIx b := by intro _ _; rfl) : DE X (.Subscript a b pos) (tOp r τa τb) (d2 f ta tb) :=
  ⟨pe_ix ho ha.pe hb.pe hs, der_op2 h ha.r hb.r⟩
/-- two ints -/
def fI (C : Int → Int → Prop) (f : Int → Int → T) : F2 := fun g x y Q => match x, y with | .t (.int i), .t (.int j) => C i j ∧ Q (.t (f i j)) g | _, _ => False
def fI0 (f : Int → Int → T) : F2 := fun g x y Q => match x, y with | .t (.int i), .t (.int j) => Q (.t (f i j)) g | _, _ => False
theorem op2_I {K : PySem.W.Frag} {C : Int → Int → Prop} {gg : Int → Int → V} {f : Int → Int → T} (h : ∀ i j S, Den K S (f i j) (gg i j)) : Op2 K (rI C gg) (fI C f) := by
  intro al S F H σ g x y wx wy Q QV R dx dy q k
  unfold fI at q
  split at q
  · rename_i i j
    unfold DenW Den at dx dy
    exact ⟨i, j, dx, dy, q.1, k.tr R (h i j S) q.2⟩
  · exact q.elim
theorem op2_I0 {K : PySem.W.Frag} {gg : Int → Int → V} {f : Int → Int → T} (h : ∀ i j S, Den K S (f i j) (gg i j)) : Op2 K (rI0 gg) (fI0 f) := by
  intro al S F H σ g x y wx wy Q QV R dx dy q k
  unfold fI0 at q
  split at q
  · rename_i i j
    unfold DenW Den at dx dy
    exact ⟨i, j, dx, dy, k.tr R (h i j S) q⟩
  · exact q.elim
theorem denI {K : PySem.W.Frag} {S : Hp} (i : Int) : Den K S (.int i) (.int i) := by unfold Den; rfl
theorem denB {K : PySem.W.Frag} {S : Hp} (i : Bool) : Den K S (.bl i) (.bl i) := by unfold Den; rfl
theorem denN {K : PySem.W.Frag} {S : Hp} : Den K S .non .non := by unfold Den; rfl
theorem denS {K : PySem.W.Frag} {S : Hp} (i : Str) : Den K S (.str i) (.str i) := by unfold Den; rfl
theorem Op2.or {K : PySem.W.Frag} {r r' : R2} {f f' : F2} (h : Op2 K r f) (h' : Op2 K r' f') : Op2 K (fun x y H Q => r x y H Q ∨ r' x y H Q) (fun g x y Q => f g x y Q ∨ f' g x y Q) := by
  intro al S F H σ g x y wx wy Q QV R dx dy q k
  rcases q with q | q
  · exact .inl (h al S F H σ g x y wx wy Q QV R dx dy q k)
  · exact .inr (h' al S F H σ g x y wx wy Q QV R dx dy q k)
theorem Op2.imp {K : PySem.W.Frag} {r : R2} {f f' : F2} (h : Op2 K r f) (hi : ∀ g x y Q, f' g x y Q → f g x y Q) : Op2 K r f' := by
  intro al S F H σ g x y wx wy Q QV R dx dy q k
  exact h al S F H σ g x y wx wy Q QV R dx dy (hi g wx wy Q q) k
/-- x + y: ints, lists, texts -/
def fCat : F2 := fun g x y Q => match g.seqL? x, g.seqL? y with
  | some xs, some ys => xs.length + ys.length ≤ sizeLine ∧ Q (.t (.lst (xs ++ ys))) g
  | _, _ => False
theorem op2_cat {K : PySem.W.Frag} : Op2 K rCat fCat := by
  intro al S F H σ g x y wx wy Q QV R dx dy q k
  unfold fCat at q
  split at q
  · rename_i xs ys ex ey
    obtain ⟨a, vs, rfl, h1, h2⟩ := R.viewL dx ex
    obtain ⟨b, us, rfl, h3, h4⟩ := R.viewL dy ey
    refine ⟨a, b, vs, us, rfl, rfl, h1, h3, by rw [← h2.length, ← h4.length]; exact q.1, fun p np => ?_⟩
    obtain ⟨R1, gr, d⟩ := R.layL np (papp h2 h4)
    exact k _ _ _ _ _ _ R1 gr d q.2
  · exact q.elim
def fAddS : F2 := fun g x y Q => match x, y with | .t (.str i), .t (.str j) => i.length + j.length ≤ sizeLine ∧ Q (.t (.str (i ++ j))) g | _, _ => False
theorem op2_addS {K : PySem.W.Frag} : Op2 K (fun x y H Q => ∃ i j, x = .str i ∧ y = .str j ∧ i.length + j.length ≤ sizeLine ∧ Q (.str (i ++ j)) H) fAddS := by
  intro al S F H σ g x y wx wy Q QV R dx dy q k
  unfold fAddS at q
  split at q
  · rename_i i j
    unfold DenW Den at dx dy
    exact ⟨i, j, dx, dy, q.1, k.tr R (denS _) q.2⟩
  · exact q.elim
abbrev rAddA : R2 := fun x y H Q => (rI0 fun i j => V.int (i + j)) x y H Q ∨ (fun x y H Q => rCat x y H Q ∨ (fun x y H Q => ∃ i j, x = V.str i ∧ y = V.str j ∧ i.length + j.length ≤ sizeLine ∧ Q (.str (i ++ j)) H) x y H Q) x y H Q
def fAdd : F2 := fun g x y Q => match x with
  | .t (.int _) => fI0 (fun i j => .int (i + j)) g x y Q
  | .t (.str _) => fAddS g x y Q
  | _ => fCat g x y Q
theorem de_add (ha : DE X a τa ta) (hb : DE X b τb tb) : DE X (.BinOp a .Add b pos) (tOp rAddA τa τb) (d2 fAdd ta tb) :=
  de_op (op_add.or (op_cat.or op_add_str)) (((op2_I0 fun _ _ _ => denI _).or (op2_cat.or op2_addS)).imp fun g x y Q h => by
    unfold fAdd at h
    split at h
    · exact .inl h
    · exact .inr (.inr h)
    · exact .inr (.inl h)) ha hb
theorem de_sub (ha : DE X a τa ta) (hb : DE X b τb tb) : DE X (.BinOp a .Sub b pos) (tOp (rI0 fun i j => .int (i - j)) τa τb) (d2 (fI0 fun i j => .int (i - j)) ta tb) := de_op op_sub (op2_I0 fun _ _ _ => denI _) ha hb
theorem op_mulI : OpR X (binaryOp .Mult) (rI IntMulOk fun i j => .int (i * j)) := opI fun _ _ _ _ _ _ _ hc q => PyProof.Rows.mul_int q hc
theorem de_mul (ha : DE X a τa ta) (hb : DE X b τb tb) : DE X (.BinOp a .Mult b pos) (tOp (rI IntMulOk fun i j => .int (i * j)) τa τb) (d2 (fI IntMulOk fun i j => .int (i * j)) ta tb) := de_op op_mulI (op2_I fun _ _ _ => denI _) ha hb
theorem de_mod (ha : DE X a τa ta) (hb : DE X b τb tb) : DE X (.BinOp a .Mod b pos) (tOp (rI (fun _ j => j ≠ 0) fun i j => .int (i.fmod j)) τa τb) (d2 (fI (fun _ j => j ≠ 0) fun i j => .int (i.fmod j)) ta tb) := de_op op_modN (op2_I fun _ _ _ => denI _) ha hb
theorem de_fdiv (ha : DE X a τa ta) (hb : DE X b τb tb) : DE X (.BinOp a .FloorDiv b pos) (tOp (rI CDivN fun i j => .int (i.fdiv j)) τa τb) (d2 (fI CDivN fun i j => .int (i.fdiv j)) ta tb) := de_op op_fdivN (op2_I fun _ _ _ => denI _) ha hb
theorem de_pow (ha : DE X a τa ta) (hb : DE X b τb tb) : DE X (.BinOp a .Pow b pos) (tOp (rI CPow fun i j => .int (i ^ j.toNat)) τa τb) (d2 (fI CPow fun i j => .int (i ^ j.toNat)) ta tb) := de_op op_pow (op2_I fun _ _ _ => denI _) ha hb
theorem de_neg (ha : DE X a τa ta) : DE X (.UnaryOp .USub a pos) (tUn (rU fun i => .int (-i)) τa) (d1 (fun g x Q => match x with | .t (.int i) => Q (.t (.int (-i))) g | _ => False) ta) := by
  refine de_un un_neg ?_ ha
  intro al S F H σ g x wx Q QV R dx q k
  split at q
  · rename_i i
    unfold DenW Den at dx
    exact ⟨i, dx, k.tr R (denI _) q⟩
  · exact q.elim
theorem de_lt (ha : DE X a τa ta) (hb : DE X b τb tb) : DE X (.Compare a [.Lt] [b] pos) (tOp (rI0 fun i j => V.bl (decide (i < j))) τa τb) (d2 (fI0 fun i j => .bl (decide (i < j))) ta tb) := de_cmp op_lt (op2_I0 fun _ _ _ => denB _) ha hb
theorem de_le (ha : DE X a τa ta) (hb : DE X b τb tb) : DE X (.Compare a [.LtE] [b] pos) (tOp (rI0 fun i j => V.bl (decide (i ≤ j))) τa τb) (d2 (fI0 fun i j => .bl (decide (i ≤ j))) ta tb) := de_cmp op_le (op2_I0 fun _ _ _ => denB _) ha hb
theorem de_gt (ha : DE X a τa ta) (hb : DE X b τb tb) : DE X (.Compare a [.Gt] [b] pos) (tOp (rI0 fun i j => V.bl (decide (j < i))) τa τb) (d2 (fI0 fun i j => .bl (decide (j < i))) ta tb) := de_cmp op_gt (op2_I0 fun _ _ _ => denB _) ha hb
theorem de_ge (ha : DE X a τa ta) (hb : DE X b τb tb) : DE X (.Compare a [.GtE] [b] pos) (tOp (rI0 fun i j => V.bl (decide (j ≤ i))) τa τb) (d2 (fI0 fun i j => .bl (decide (j ≤ i))) ta tb) := de_cmp op_ge (op2_I0 fun _ _ _ => denB _) ha hb
end
end DL

namespace DL
open PySem PySem.Spec L2

section
variable {X : Cx} {a b : Expr} {τa τb : TE} {ta tb : Dt} {pos : Pos}
/-! subscripts -/
def fIx : F2 := fun g x y Q => match y with
  | .t (.int i) => (match g.seq? x with
    | some ts => ∃ t, atI ts i = some t ∧ Q (.t t) g
    | none => (match g.wseq? x with
      | some ws => ∃ w, atI ws i = some w ∧ Q w g
      | none => False))
  | _ => False
theorem op2_ix {K : PySem.W.Frag} : Op2 K (fun x y H Q => rIxL K x y H Q ∨ rIxT K x y H Q) fIx := by
  intro al S F H σ g x y wx wy Q QV R dx dy q k
  unfold fIx at q
  split at q
  · rename_i i
    unfold DenW Den at dy
    split at q
    · rename_i ts e
      obtain ⟨t, h1, q⟩ := q
      obtain ⟨p, vs, rfl, h2, h3⟩ := R.viewS dx e
      obtain ⟨v, h4, h5⟩ := patI h3 h1
      rcases h2 with h2 | h2
      · exact .inl ⟨p, vs, i, v, rfl, dy, h2, h4, k.tr R h5 q⟩
      · exact .inr ⟨p, vs, i, v, rfl, dy, h2, h4, k.tr R h5 q⟩
    · split at q
      · rename_i ws e
        obtain ⟨w, h1, q⟩ := q
        obtain ⟨p, vs, rfl, h2, h3⟩ := R.viewW dx e
        obtain ⟨v, h4, h5⟩ := patW h3 h1
        exact .inl ⟨p, vs, i, v, rfl, dy, .inl (.inl h2), h4, k.val R h5 q⟩
      · exact q.elim
  · exact q.elim
theorem de_ix (ha : DE X a τa ta) (hb : DE X b τb tb) (hs : PlainIx b := by intro _ _; rfl) : DE X (.Subscript a b pos) (tOp (fun x y H Q => rIxL X.K x y H Q ∨ rIxT X.K x y H Q) τa τb) (d2 fIx ta tb) :=
  de_ixR (ix_list.or ix_tup) op2_ix ha hb hs
/-! slices -/
abbrev DOt := G → (Option Int → G → Prop) → Prop
def DOr (K : PySem.W.Frag) (τ : TO) (t : DOt) : Prop := ∀ (al : List Addr) (S F H : Hp) (σ : L2.St) (g : G) (Q : Option Int → G → Prop) (QV : Option Int → Hp → Prop), Rep K al S F H σ g → t g Q →
  (∀ al' S' H' g' b, Rep K al' S' F H' σ g' → Grow al S al' S' → Q b g' → QV b H') → τ σ H QV
structure DO (X : Cx) (e : Option Expr) (τ : TO) (t : DOt) : Prop where
  pe : PO X e τ
  r : DOr X.K τ t
def dNoPart : DOt := fun g Q => Q none g
def dPart (t : Dt) : DOt := fun g Q => t g fun w g' => match w with | .t (.int i) => Q (some i) g' | _ => False
theorem do_none : DO X none tNoPart dNoPart := ⟨po_none, fun al S F H σ g Q QV R q k => k al S H g none R (Grow.refl _ _) q⟩
theorem do_some (ha : DE X a τa ta) : DO X (some a) (tPart τa) (dPart ta) := by
  refine ⟨po_some ha.pe, fun al S F H σ g Q QV R q k => ?_⟩
  refine ha.r al S F H σ g _ _ R q fun al1 S1 H1 g1 v1 w1 R1 gr1 e1 q1 => ?_
  split at q1
  · rename_i i
    unfold DenW Den at e1
    exact ⟨i, e1, k _ _ _ _ _ R1 gr1 q1⟩
  · exact q1.elim
def cut {α : Type} (xs : List α) (lo hi : Option Int) : List α := (xs.drop (HT.sIx xs.length 0 lo)).take (HT.sIx xs.length xs.length hi - HT.sIx xs.length 0 lo)
def dSl (t : Dt) (l u : DOt) : Dt := fun g Q => t g fun x g1 => l g1 fun lo g2 => u g2 fun hi g3 => match g3.seq? x with
  | some ts => (match x with | .t (.tup _) => False | _ => Q (.t (.lst (cut ts lo hi))) g3)
  | none => False
theorem not_tup {K : PySem.W.Frag} {al : List Addr} {S F H : Hp} {σ : L2.St} {g : G} (R : Rep K al S F H σ g) {w : W} {v : V} {ts : List T} (d : DenW K al S w v) (e : g.seq? w = some ts) (h : ∀ us, w ≠ .t (.tup us)) : ∃ a vs, v = .ref a ∧ SqL K H a vs ∧ Paired (Den K S) ts vs := by
  unfold G.seq? at e
  split at e
  · exact absurd rfl (h _)
  · cases e
    unfold DenW Den at d
    obtain ⟨a, vs, rfl, h1, h2⟩ := d
    exact ⟨a, vs, rfl, R.same.seq h1, Dens.iff.mp h2⟩
  · obtain ⟨a, vs, h1, h2, h3⟩ := R.viewL d e
    exact ⟨a, vs, h1, .inl (.inl h2), h3⟩
theorem de_sl {lo hi : Option Expr} {τl τh : TO} {tl th : DOt} {p2 : Pos} (ha : DE X a τa ta) (hl : DO X lo τl tl) (hh : DO X hi τh th) : DE X (.Subscript a (.Slice lo hi none p2) pos) (tSl (rSlL X.K) τa τl τh) (dSl ta tl th) := by
  refine ⟨pe_slice sl_list ha.pe hl.pe hh.pe, fun al S F H σ g Q QV R q k => ?_⟩
  refine ha.r al S F H σ g _ _ R q fun al1 S1 H1 g1 v1 w1 R1 gr1 e1 q1 => ?_
  refine hl.r al1 S1 F H1 σ g1 _ _ R1 q1 fun al2 S2 H2 g2 b2 R2 gr2 q2 => ?_
  refine hh.r al2 S2 F H2 σ g2 _ _ R2 q2 fun al3 S3 H3 g3 b3 R3 gr3 q3 => ?_
  split at q3
  · rename_i ts e
    split at q3
    · exact q3.elim
    · rename_i hne
      obtain ⟨a, vs, rfl, h1, h2⟩ := not_tup R3 (e1.grow (gr2.trans gr3)) e (fun us z => hne us z)
      refine ⟨a, vs, rfl, h1, fun p np => ?_⟩
      have hp : Paired (Den X.K S3) (cut ts b2 b3) (cutV vs b2 b3) := by
        unfold cut cutV
        rw [h2.length]
        exact ptake _ (pdrop _ h2)
      obtain ⟨R4, gr4, d⟩ := R3.layL np hp
      exact k _ _ _ _ _ _ R4 (gr1.trans (gr2.trans (gr3.trans gr4))) d q3
  · exact q3.elim
/-! arguments, displays -/
def treesW : List W → Option (List T)
  | [] => some []
  | .t x :: r => (treesW r).map (x :: ·)
  | _ => none
theorem treesW_den {K : PySem.W.Frag} {al : List Addr} {S : Hp} : ∀ {ws : List W} {ts : List T} {vs : List V}, treesW ws = some ts → Paired (DenW K al S) ws vs → Paired (Den K S) ts vs
  | [], ts, vs, e, h => by cases e; cases h; exact .nil
  | .t x :: r, ts, vs, e, h => by
    unfold treesW at e
    cases q : treesW r with
    | none => rw [q] at e; cases e
    | some us =>
      rw [q] at e
      cases e
      cases h with
      | cons h1 h2 => exact .cons h1 (treesW_den q h2)
  | .h n :: r, ts, vs, e, h => by cases e
theorem treesW_map : ∀ ts : List T, treesW (ts.map W.t) = some ts
  | [] => rfl
  | t :: ts => by rw [List.map_cons]; unfold treesW; rw [treesW_map ts]; rfl
def dNil : DAt := fun g Q => Q [] g
def dCons (t : Dt) (r : DAt) : DAt := fun g Q => t g fun w g1 => r g1 fun ws g2 => Q (w :: ws) g2
theorem da_nil : DA X [] tNil dNil := ⟨pa_nil, fun al S F H σ g Q QV R q k => k al S H g [] [] R (Grow.refl _ _) .nil q⟩
theorem da_cons {es : List Expr} {τr : TA} {tr : DAt} (ha : DE X a τa ta) (hr : DA X es τr tr) (hs : starEach (a :: es) X.env = (false, eval a X.env) :: starEach es X.env := by rfl) : DA X (a :: es) (tCons τa τr) (dCons ta tr) := by
  refine ⟨pa_cons ha.pe hr.pe hs, fun al S F H σ g Q QV R q k => ?_⟩
  refine ha.r al S F H σ g _ _ R q fun al1 S1 H1 g1 v1 w1 R1 gr1 e1 q1 => ?_
  refine hr.r al1 S1 F H1 σ g1 _ _ R1 q1 fun al2 S2 H2 g2 vs2 ws2 R2 gr2 e2 q2 => ?_
  exact k _ _ _ _ _ _ R2 (gr1.trans gr2) (.cons (e1.grow gr2) e2) q2
variable {es : List Expr} {τs : TA} {ts : DAt}
def dTup (t : DAt) : Dt := fun g Q => t g fun ws g1 => match treesW ws with | some us => ws.length ≤ sizeLine ∧ Q (.t (.tup us)) g1 | none => False
def dLst (t : DAt) : Dt := fun g Q => t g fun ws g1 => match treesW ws with | some us => ws.length ≤ sizeLine ∧ Q (.t (.lst us)) g1 | none => False
def dLstH (t : DAt) : Dt := fun g Q => t g fun ws g1 => match treesW ws with | some us => ws.length ≤ sizeLine ∧ Q (.h g1.mem.length) (g1.push (.lt us)) | none => False
def dLstW (t : DAt) : Dt := fun g Q => t g fun ws g1 => ws.length ≤ sizeLine ∧ Q (.h g1.mem.length) (g1.push (.lw ws))
theorem de_tup {x1} (h : DA X es τs ts) : DE X (.Tuple es x1 pos) (tTup τs) (dTup ts) := by
  refine ⟨pe_tup h.pe, fun al S F H σ g Q QV R q k => ?_⟩
  refine h.r al S F H σ g _ _ R q fun al1 S1 H1 g1 vs ws R1 gr1 e1 q1 => ?_
  split at q1
  · rename_i us e
    refine ⟨by rw [← e1.length]; exact q1.1, fun p np => ?_⟩
    obtain ⟨R2, gr2, d⟩ := R1.layTup np (treesW_den e e1)
    exact k _ _ _ _ _ _ R2 (gr1.trans gr2) d q1.2
  · exact q1.elim
theorem de_lst (h : DA X es τs ts) : DE X (.List es pos) (tLst τs) (dLst ts) := by
  refine ⟨pe_lst h.pe, fun al S F H σ g Q QV R q k => ?_⟩
  refine h.r al S F H σ g _ _ R q fun al1 S1 H1 g1 vs ws R1 gr1 e1 q1 => ?_
  split at q1
  · rename_i us e
    refine ⟨by rw [← e1.length]; exact q1.1, fun p np => ?_⟩
    obtain ⟨R2, gr2, d⟩ := R1.layL np (treesW_den e e1)
    exact k _ _ _ _ _ _ R2 (gr1.trans gr2) d q1.2
  · exact q1.elim
theorem de_lstH (h : DA X es τs ts) : DE X (.List es pos) (tLst τs) (dLstH ts) := by
  refine ⟨pe_lst h.pe, fun al S F H σ g Q QV R q k => ?_⟩
  refine h.r al S F H σ g _ _ R q fun al1 S1 H1 g1 vs ws R1 gr1 e1 q1 => ?_
  split at q1
  · rename_i us e
    refine ⟨by rw [← e1.length]; exact q1.1, fun p np => ?_⟩
    obtain ⟨R2, gr2, d⟩ := R1.pushC (c := .lt us) (o := .lst vs) np ⟨vs, rfl, treesW_den e e1⟩
    exact k _ _ _ _ _ _ R2 (gr1.trans gr2) d q1.2
  · exact q1.elim
theorem de_lstW (h : DA X es τs ts) : DE X (.List es pos) (tLst τs) (dLstW ts) := by
  refine ⟨pe_lst h.pe, fun al S F H σ g Q QV R q k => ?_⟩
  refine h.r al S F H σ g _ _ R q fun al1 S1 H1 g1 vs ws R1 gr1 e1 q1 => ?_
  refine ⟨by rw [← e1.length]; exact q1.1, fun p np => ?_⟩
  obtain ⟨R2, gr2, d⟩ := R1.pushC (c := .lw ws) (o := .lst vs) np ⟨vs, rfl, DenWs.grow ⟨⟨[p], rfl⟩, Same.refl _⟩ e1⟩
  exact k _ _ _ _ _ _ R2 (gr1.trans gr2) d q1.2
theorem der_N {K : PySem.W.Frag} {r : List V → Hp → VK → Prop} {f : FN} (h : OpN K r f) (rs : DAr K τs ts) : DEr K (tCB r τs) (dN f ts) := by
  intro al S F H σ g Q QV R q k
  refine rs al S F H σ g _ _ R q fun al1 S1 H1 g1 vs ws R1 gr1 e1 q1 => ?_
  exact h al1 S1 F H1 σ g1 vs ws Q QV R1 e1 q1 (k.grow gr1)
theorem de_callB {x : Str} {id : String} {r : List V → Hp → VK → Prop} {f : FN} {p : Pos} (hc : CallR X (.builtin id) r) (h : OpN X.K r f) (hg : Gl X x) (hm : X.mg x = none) (hv : bootBuiltins x = some (.builtin id)) (ha : DA X (a :: es) τs ts)
    (hn : x ≠ "__name__" := by decide) (hdb : (x == ("__debug__" : Str)) = false := by decide) (pe : PE X (.Call (.Name x p) (a :: es) [] pos) (tCB r τs)) : DE X (.Call (.Name x p) (a :: es) [] pos) (tCB r τs) (dN f ts) :=
  ⟨pe, der_N h ha.r⟩
end
end DL

namespace DL
open PySem PySem.Spec L2

section
variable {X : Cx} {a b e : Expr} {τa τb : TE} {ta tb : Dt} {pos : Pos} {es : List Expr} {τs : TA} {ts : DAt}
/-! == of data -/
def T.pd : T → PyData
  | .non => .none
  | .bl b => .bool b
  | .int i => .int i
  | .str s => .str s
  | .lst xs => .list (xs.map T.pd)
  | .sq xs => .list (xs.map T.pd)
  | .tup xs => .tuple (xs.map T.pd)
  | .dk _ _ => .dict []
  | .raw _ => .dict []
  | .exc _ => .dict []
  | .ob _ _ _ => .dict []
  | .exf _ _ _ => .dict []
/-- plain data of depth at most n -/
def T.sh : Nat → T → Bool
  | _, .non => true
  | _, .bl _ => true
  | _, .int _ => true
  | _, .str s => PyData.strOk s
  | n + 1, .lst xs => xs.all (T.sh n)
  | n + 1, .sq xs => xs.all (T.sh n)
  | n + 1, .tup xs => xs.all (T.sh n)
  | _, _ => false
def teq (x y : T) : Bool := PyData.eqv x.pd y.pd
theorem sh_all : ∀ (n : Nat) (xs : List T), (∀ t ∈ xs, t.pd.canLay0 = true ∧ t.pd.depth ≤ n) → PyData.canLayAll0 (xs.map T.pd) = true ∧ PyData.depthAll (xs.map T.pd) ≤ n
  | n, [], _ => ⟨by simp [PyData.canLayAll0], by simp [PyData.depthAll]⟩
  | n, t :: xs, h => by
    obtain ⟨h1, h2⟩ := h t (by simp)
    obtain ⟨h3, h4⟩ := sh_all n xs fun u hu => h u (by simp [hu])
    rw [List.map_cons]
    constructor
    · simp [PyData.canLayAll0, h1, h3]
    · simp only [PyData.depthAll]
      omega
theorem sh_ok : ∀ (n : Nat) (t : T), t.sh n = true → t.pd.canLay0 = true ∧ t.pd.depth ≤ n + 1
  | n, .non, _ => ⟨by simp [T.pd, PyData.canLay0], by simp [T.pd, PyData.depth]⟩
  | n, .bl _, _ => ⟨by simp [T.pd, PyData.canLay0], by simp [T.pd, PyData.depth]⟩
  | n, .int _, _ => ⟨by simp [T.pd, PyData.canLay0], by simp [T.pd, PyData.depth]⟩
  | n, .str s, h => by
    have h' : PyData.strOk s = true := by cases n <;> simpa [T.sh] using h
    exact ⟨by simp [T.pd, PyData.canLay0, h'], by simp [T.pd, PyData.depth]⟩
  | 0, .lst xs, h => by simp [T.sh] at h
  | 0, .sq xs, h => by simp [T.sh] at h
  | 0, .tup xs, h => by simp [T.sh] at h
  | n + 1, .lst xs, h => by
    have h' : ∀ t ∈ xs, t.sh n = true := by simpa [T.sh, List.all_eq_true] using h
    have := sh_all (n + 1) xs fun t ht => let ⟨a, b⟩ := sh_ok n t (h' t ht); ⟨a, b⟩
    exact ⟨by simpa [T.pd, PyData.canLay0] using this.1, by simpa [T.pd, PyData.depth] using this.2⟩
  | n + 1, .sq xs, h => by
    have h' : ∀ t ∈ xs, t.sh n = true := by simpa [T.sh, List.all_eq_true] using h
    have := sh_all (n + 1) xs fun t ht => let ⟨a, b⟩ := sh_ok n t (h' t ht); ⟨a, b⟩
    exact ⟨by simpa [T.pd, PyData.canLay0] using this.1, by simpa [T.pd, PyData.depth] using this.2⟩
  | n + 1, .tup xs, h => by
    have h' : ∀ t ∈ xs, t.sh n = true := by simpa [T.sh, List.all_eq_true] using h
    have := sh_all (n + 1) xs fun t ht => let ⟨a, b⟩ := sh_ok n t (h' t ht); ⟨a, b⟩
    exact ⟨by simpa [T.pd, PyData.canLay0] using this.1, by simpa [T.pd, PyData.depth] using this.2⟩
  | n, .dk _ _, h => by cases n <;> simp [T.sh] at h
  | n, .raw _, h => by cases n <;> simp [T.sh] at h
  | n, .exc _, h => by cases n <;> simp [T.sh] at h
  | n, .ob _ _ _, h => by cases n <;> simp [T.sh] at h
  | n, .exf _ _ _, h => by cases n <;> simp [T.sh] at h
theorem shaped_of {n : Nat} {t : T} (h : t.sh n = true) (hn : n ≤ 60) : SeqAt.shaped t.pd = true := by
  obtain ⟨h1, h2⟩ := sh_ok n t h
  unfold SeqAt.shaped
  rw [h1, decide_eq_true (by omega)]
  rfl
theorem dpAll_of {K : PySem.W.Frag} {H : Hp} : ∀ {xs : List T} {vs : List V}, (∀ t ∈ xs, ∀ v, Den K H t v → Dp K H v t.pd) → Dens K H xs vs → DpAll K H vs (xs.map T.pd)
  | [], vs, _, d => by unfold Dens at d; subst d; exact .nil
  | t :: xs, vs, h, d => by
    unfold Dens at d
    obtain ⟨v, r, rfl, d1, d2⟩ := d
    exact .cons (h t (by simp) v d1) (dpAll_of (fun u hu => h u (by simp [hu])) d2)
theorem dp_of {K : PySem.W.Frag} {H : Hp} : ∀ (n : Nat) (t : T) (v : V), t.sh n = true → Den K H t v → Dp K H v t.pd
  | n, .non, v, _, d => by unfold Den at d; subst d; unfold T.pd; exact .non
  | n, .bl _, v, _, d => by unfold Den at d; subst d; unfold T.pd; exact .bl _
  | n, .int _, v, _, d => by unfold Den at d; subst d; unfold T.pd; exact .int _
  | n, .str _, v, _, d => by unfold Den at d; subst d; unfold T.pd; exact .str _
  | 0, .lst xs, v, h, d => by simp [T.sh] at h
  | 0, .sq xs, v, h, d => by simp [T.sh] at h
  | 0, .tup xs, v, h, d => by simp [T.sh] at h
  | n + 1, .lst xs, v, h, d => by
    have h' : ∀ t ∈ xs, t.sh n = true := by simpa [T.sh, List.all_eq_true] using h
    unfold Den at d
    obtain ⟨a, vs, rfl, h1, h2⟩ := d
    unfold T.pd
    exact .lst (.inl (.inl h1)) (dpAll_of (fun t ht v dv => dp_of n t v (h' t ht) dv) h2)
  | n + 1, .sq xs, v, h, d => by
    have h' : ∀ t ∈ xs, t.sh n = true := by simpa [T.sh, List.all_eq_true] using h
    unfold Den at d
    obtain ⟨a, vs, rfl, h1, h2⟩ := d
    unfold T.pd
    exact .lst h1 (dpAll_of (fun t ht v dv => dp_of n t v (h' t ht) dv) h2)
  | n + 1, .tup xs, v, h, d => by
    have h' : ∀ t ∈ xs, t.sh n = true := by simpa [T.sh, List.all_eq_true] using h
    unfold Den at d
    obtain ⟨a, vs, rfl, h1, h2⟩ := d
    unfold T.pd
    exact .tup h1 (dpAll_of (fun t ht v dv => dp_of n t v (h' t ht) dv) h2)
  | n, .dk _ _, v, h, d => by cases n <;> simp [T.sh] at h
  | n, .raw _, v, h, d => by cases n <;> simp [T.sh] at h
  | n, .exc _, v, h, d => by cases n <;> simp [T.sh] at h
  | n, .ob _ _ _, v, h, d => by cases n <;> simp [T.sh] at h
  | n, .exf _ _ _, v, h, d => by cases n <;> simp [T.sh] at h
def fEq (neg : Bool) : F2 := fun g x y Q => match x, y with
  | .t (.int i), .t (.int j) => Q (.t (.bl (if neg then !(decide (i = j)) else decide (i = j)))) g
  | .t (.str i), .t (.str j) => Q (.t (.bl (if neg then !(decide (i = j)) else decide (i = j)))) g
  | x, y => match g.tree? x, g.tree? y with
    | some tx, some ty => tx.sh 8 = true ∧ ty.sh 8 = true ∧ Q (.t (.bl (if neg then !teq tx ty else teq tx ty))) g
    | _, _ => False
theorem op2_eq (neg : Bool) {K : PySem.W.Frag} : Op2 K (fun x y H Q => (scal x y = true ∧ Q (.bl (if neg then !decide (x = y) else decide (x = y))) H) ∨
    (∃ d e, Dp K H x d ∧ Dp K H y e ∧ SeqAt.shaped d = true ∧ SeqAt.shaped e = true ∧ Q (.bl (if neg then !PyData.eqv d e else PyData.eqv d e)) H)) (fEq neg) := by
  intro al S F H σ g x y wx wy Q QV R dx dy q k
  unfold fEq at q
  split at q
  · rename_i i j
    unfold DenW Den at dx dy
    subst dx dy
    refine .inl ⟨rfl, k.tr R (t := .bl _) (by unfold Den; rfl) ?_⟩
    have e : decide (V.int i = V.int j) = decide (i = j) := by
      by_cases h : i = j
      · subst h; simp
      · rw [decide_eq_false h, decide_eq_false fun z => h (V.int.inj z)]
    rw [e]; exact q
  · rename_i i j
    unfold DenW Den at dx dy
    subst dx dy
    refine .inl ⟨rfl, k.tr R (t := .bl _) (by unfold Den; rfl) ?_⟩
    have e : decide (V.str i = V.str j) = decide (i = j) := by
      by_cases h : i = j
      · subst h; simp
      · rw [decide_eq_false h, decide_eq_false fun z => h (V.str.inj z)]
    rw [e]; exact q
  · split at q
    · rename_i tx ty ex ey
      obtain ⟨h1, h2, q⟩ := q
      exact .inr ⟨tx.pd, ty.pd, dp_of 8 _ _ h1 (R.viewT dx ex), dp_of 8 _ _ h2 (R.viewT dy ey), shaped_of h1 (by decide), shaped_of h2 (by decide), k.tr R (denB _) q⟩
    · exact q.elim
theorem de_eq {kk : Nat} (hr : Room kk X.A) (ha : DE X a τa ta) (hb : DE X b τb tb) : DE X (.Compare a [.Eq] [b] pos) (tOp (fun x y H Q => (scal x y = true ∧ Q (.bl (if false then !decide (x = y) else decide (x = y))) H) ∨
    (∃ d e, Dp X.K H x d ∧ Dp X.K H y e ∧ SeqAt.shaped d = true ∧ SeqAt.shaped e = true ∧ Q (.bl (if false then !PyData.eqv d e else PyData.eqv d e)) H)) τa τb) (d2 (fEq false) ta tb) := de_cmp (op_eq.or (op_eqD hr.units)) (op2_eq false) ha hb
theorem de_ne {kk : Nat} (hr : Room kk X.A) (ha : DE X a τa ta) (hb : DE X b τb tb) : DE X (.Compare a [.NotEq] [b] pos) (tOp (fun x y H Q => (scal x y = true ∧ Q (.bl (if true then !decide (x = y) else decide (x = y))) H) ∨
    (∃ d e, Dp X.K H x d ∧ Dp X.K H y e ∧ SeqAt.shaped d = true ∧ SeqAt.shaped e = true ∧ Q (.bl (if true then !PyData.eqv d e else PyData.eqv d e)) H)) τa τb) (d2 (fEq true) ta tb) := de_cmp (op_ne.or (op_neD hr.units)) (op2_eq true) ha hb
def fIsN (neg : Bool) : F2 := fun g x y Q => match x, y with
  | .t .non, .t .non => Q (.t (.bl (!neg))) g
  | _, .t .non => Q (.t (.bl neg)) g
  | _, _ => False
theorem notNon {K : PySem.W.Frag} {al : List Addr} {S : Hp} {w : W} {v : V} (d : DenW K al S w v) (h : w ≠ .t .non) (h2 : ∀ x, w ≠ .t (.raw x)) : v ≠ .non := by
  intro e
  subst e
  cases w with
  | h n => obtain ⟨_, _, z⟩ := d; cases z
  | t x =>
    cases x with
    | non => exact h rfl
    | raw x => exact h2 x rfl
    | exc n => unfold DenW Den at d; obtain ⟨_, _, z, _⟩ := d; cases z
    | ob _ _ _ => unfold DenW Den at d; obtain ⟨_, _, _, _, z, _⟩ := d; cases z
    | exf _ _ _ => unfold DenW Den at d; obtain ⟨_, _, _, _, z, _⟩ := d; cases z
    | bl _ => unfold DenW Den at d; cases d
    | int _ => unfold DenW Den at d; cases d
    | str _ => unfold DenW Den at d; cases d
    | lst _ => unfold DenW Den at d; obtain ⟨_, _, z, _⟩ := d; cases z
    | sq _ => unfold DenW Den at d; obtain ⟨_, _, z, _⟩ := d; cases z
    | tup _ => unfold DenW Den at d; obtain ⟨_, _, z, _⟩ := d; cases z
    | dk _ _ => unfold DenW Den at d; obtain ⟨_, _, z, _⟩ := d; cases z
/-! in, not in -/
def T.flat : T → Option V
  | .non => some .non
  | .bl b => some (.bl b)
  | .int i => some (.int i)
  | .str s => some (.str s)
  | _ => none
theorem flat_den {K : PySem.W.Frag} {S : Hp} {t : T} {v u : V} (h : t.flat = some u) (d : Den K S t v) : v = u ∧ flatV v = true := by
  cases t with
  | non => cases h; unfold Den at d; subst d; exact ⟨rfl, rfl⟩
  | bl b => cases h; unfold Den at d; subst d; exact ⟨rfl, rfl⟩
  | int b => cases h; unfold Den at d; subst d; exact ⟨rfl, rfl⟩
  | str b => cases h; unfold Den at d; subst d; exact ⟨rfl, rfl⟩
  | _ => cases h
def inT (x : T) (ts : List T) : Bool := ts.any fun t => match t.flat, x.flat with | some u, some v => eqV u v | _, _ => false
def fIn (neg : Bool) : F2 := fun g x y Q => match x with
  | .t tx => (match g.seq? y with
    | some ts => tx.flat.isSome = true ∧ (∀ t ∈ ts, t.flat.isSome = true) ∧ Q (.t (.bl (if neg then !inT tx ts else inT tx ts))) g
    | none => False)
  | _ => False
theorem in_den {K : PySem.W.Frag} {S : Hp} {tx : T} {x : V} (hx : tx.flat = some x) : ∀ {ts : List T} {vs : List V}, (∀ t ∈ ts, t.flat.isSome = true) → Paired (Den K S) ts vs → inV x vs = inT tx ts ∧ vs.all flatV = true
  | _, _, _, .nil => ⟨rfl, rfl⟩
  | t :: ts, v :: vs, h, .cons d r => by
    obtain ⟨u, hu⟩ := Option.isSome_iff_exists.mp (h t (by simp))
    obtain ⟨rfl, f⟩ := flat_den hu d
    obtain ⟨h1, h2⟩ := in_den hx (fun t ht => h t (by simp [ht])) r
    constructor
    · unfold inV inT at h1 ⊢
      rw [List.any_cons, List.any_cons, h1, hu, hx]
    · rw [List.all_cons, f, h2]; rfl
theorem op2_in (neg : Bool) {K : PySem.W.Frag} : Op2 K (rIn K neg) (fIn neg) := by
  intro al S F H σ g x y wx wy Q QV R dx dy q k
  unfold fIn at q
  split at q
  · rename_i tx
    split at q
    · rename_i ts e
      obtain ⟨h1, h2, q⟩ := q
      obtain ⟨u, hu⟩ := Option.isSome_iff_exists.mp h1
      obtain ⟨rfl, f⟩ := flat_den hu dx
      obtain ⟨p, vs, rfl, h3, h4⟩ := R.viewS dy e
      obtain ⟨h5, h6⟩ := in_den hu h2 h4
      refine ⟨p, vs, rfl, h3, f, h6, k.tr R (t := .bl _) (by unfold Den; rfl) ?_⟩
      rw [h5]; exact q
    · exact q.elim
  · exact q.elim
theorem de_in (ha : DE X a τa ta) (hb : DE X b τb tb) (hm : behindInMarks .In b = false := by rfl) : DE X (.Compare a [.In] [b] pos) (tOp (rIn X.K false) τa τb) (d2 (fIn false) ta tb) := de_cmp op_in_seq (op2_in false) ha hb hm
theorem de_notin (ha : DE X a τa ta) (hb : DE X b τb tb) (hm : behindInMarks .NotIn b = false := by rfl) : DE X (.Compare a [.NotIn] [b] pos) (tOp (rIn X.K true) τa τb) (d2 (fIn true) ta tb) := de_cmp op_notIn_seq (op2_in true) ha hb hm

/-! built-ins -/
theorem OpN.or {K : PySem.W.Frag} {r r' : List V → Hp → VK → Prop} {f f' : FN} (h : OpN K r f) (h' : OpN K r' f') : OpN K (fun x H Q => r x H Q ∨ r' x H Q) (fun g x Q => f g x Q ∨ f' g x Q) := by
  intro al S F H σ g x wx Q QV R dx q k
  rcases q with q | q
  · exact .inl (h al S F H σ g x wx Q QV R dx q k)
  · exact .inr (h' al S F H σ g x wx Q QV R dx q k)
theorem OpN.imp {K : PySem.W.Frag} {r : List V → Hp → VK → Prop} {f f' : FN} (h : OpN K r f) (hi : ∀ g x Q, f' g x Q → f g x Q) : OpN K r f' := by
  intro al S F H σ g x wx Q QV R dx q k
  exact h al S F H σ g x wx Q QV R dx (hi g wx Q q) k
theorem p1 {α β : Type} {F : α → β → Prop} {x : α} {ys : List β} (h : Paired F [x] ys) : ∃ y, ys = [y] ∧ F x y := by
  cases h with
  | cons h1 h2 => cases h2; exact ⟨_, rfl, h1⟩
theorem p2 {α β : Type} {F : α → β → Prop} {x y : α} {ys : List β} (h : Paired F [x, y] ys) : ∃ u v, ys = [u, v] ∧ F x u ∧ F y v := by
  cases h with
  | cons h1 h2 =>
    obtain ⟨v, rfl, h3⟩ := p1 h2
    exact ⟨_, _, rfl, h1, h3⟩
/-- length of what a thing holds -/
def G.len? (g : G) (w : W) : Option Nat := match w with
  | .t (.lst ts) => some ts.length
  | .t (.sq ts) => some ts.length
  | .t (.tup ts) => some ts.length
  | .t (.dk ks _) => some ks.length
  | .h n => (match g.mem[n]? with
    | some (some (.lt ts)) => some ts.length
    | some (some (.lw ts)) => some ts.length
    | some (some (.dt ks _)) => some ks.length
    | some (some (.dw ks _)) => some ks.length
    | _ => none)
  | _ => none
def fLen : FN := fun g ws Q => match ws with
  | [w] => (match g.len? w with | some n => Q (.t (.int n)) g | none => False)
  | _ => False
theorem opN_len {K : PySem.W.Frag} : OpN K (fun xs H Q => (∃ p ys, xs = [V.ref p] ∧ (SqL K H p ys ∨ SqT K H p ys) ∧ Q (.int ys.length) H) ∨ (∃ a kvs, xs = [V.ref a] ∧ H a = some (.dK kvs) ∧ Q (.int kvs.length) H)) fLen := by
  intro al S F H σ g xs ws Q QV R ds q k
  unfold fLen at q
  split at q
  · rename_i w
    obtain ⟨v, rfl, d⟩ := p1 ds
    split at q
    · rename_i n e
      have seq : ∀ ts, g.seq? w = some ts → n = ts.length → (∃ p ys, [v] = [V.ref p] ∧ (SqL K H p ys ∨ SqT K H p ys) ∧ QV (.int ys.length) H) := fun ts h1 h2 => by
        obtain ⟨p, vs, rfl, h3, h4⟩ := R.viewS d h1
        refine ⟨p, vs, rfl, h3, ?_⟩
        rw [← h4.length, ← h2]
        exact k.tr R (denI _) q
      have dic : ∀ (c : Cell) (ks : List Key), g.cell? w = some c → n = ks.length → (∀ o, CellOk K al S c o → ∃ kvs, o = .dK kvs ∧ kvs.length = ks.length) → (∃ a kvs, [v] = [V.ref a] ∧ H a = some (.dK kvs) ∧ QV (.int kvs.length) H) := fun c ks h1 h2 h3 => by
        obtain ⟨a, o, rfl, h4, h5⟩ := R.view d h1
        obtain ⟨kvs, rfl, h6⟩ := h3 o h5
        refine ⟨a, kvs, rfl, h4, ?_⟩
        rw [h6, ← h2]
        exact k.tr R (denI _) q
      unfold G.len? at e
      split at e
      · exact .inl (seq _ rfl (Option.some.inj e).symm)
      · exact .inl (seq _ rfl (Option.some.inj e).symm)
      · exact .inl (seq _ rfl (Option.some.inj e).symm)
      · rename_i ks ts
        exact .inr (dic _ ks rfl (Option.some.inj e).symm fun o ⟨vs, h1, h2, h3⟩ => ⟨_, h1, by rw [List.length_zip, ← h3.length, h2, Nat.min_self]⟩)
      · rename_i m
        split at e
        · rename_i ts em
          have ec : g.cell? (.h m) = some (.lt ts) := by unfold G.cell?; dsimp only; rw [em]
          exact .inl (seq ts (by unfold G.seq? G.seqL?; dsimp only; rw [ec]) (Option.some.inj e).symm)
        · rename_i ts em
          have ec : g.cell? (.h m) = some (.lw ts) := by unfold G.cell?; dsimp only; rw [em]
          obtain ⟨a, o, rfl, h1, vs, rfl, h2⟩ := R.view d ec
          refine .inl ⟨a, vs, rfl, .inl (.inl (.inl h1)), ?_⟩
          rw [← h2.length, Option.some.inj e]
          exact k.tr R (denI _) q
        · rename_i ks ts em
          have ec : g.cell? (.h m) = some (.dt ks ts) := by unfold G.cell?; dsimp only; rw [em]
          exact .inr (dic _ ks ec (Option.some.inj e).symm fun o ⟨vs, h1, h2, h3⟩ => ⟨_, h1, by rw [List.length_zip, ← h3.length, h2, Nat.min_self]⟩)
        · rename_i ks ts em
          have ec : g.cell? (.h m) = some (.dw ks ts) := by unfold G.cell?; dsimp only; rw [em]
          exact .inr (dic _ ks ec (Option.some.inj e).symm fun o ⟨vs, h1, h2, h3⟩ => ⟨_, h1, by rw [List.length_zip, ← h3.length, h2, Nat.min_self]⟩)
        · cases e
      · cases e
    · exact q.elim
  · exact q.elim
section
variable {p : Pos}
theorem de_cB {x : Str} {id : String} {r : List V → Hp → VK → Prop} {f : FN} (hc : CallR X (.builtin id) r) (h : OpN X.K r f) (hm : X.mg x = none) (ha : DA X (e :: es) τs ts) (hv : bootBuiltins x = some (.builtin id)) (hg : Gl X x := by rfl)
    (hn : x ≠ "__name__" := by decide) (hdb : (x == ("__debug__" : Str)) = false := by decide)
    (he : starEach (e :: es) X.env = (false, eval e X.env) :: starEach es X.env := by rfl) (hpl : (backTo pos (starEach es X.env)).any (·.1) = false := by rfl) : DE X (.Call (.Name x p) (e :: es) [] pos) (tCB r τs) (dN f ts) :=
  ⟨pe_callB hc hg hm hv ha.pe hn hdb he hpl, der_N h ha.r⟩
theorem de_cT {x : Str} {id : String} {r : List V → Hp → VK → Prop} {f : FN} (hc : CallR X (.type id) r) (h : OpN X.K r f) (hm : X.mg x = none) (ha : DA X (e :: es) τs ts) (hv : bootBuiltins x = some (.type id)) (hg : Gl X x := by rfl)
    (hn : x ≠ "__name__" := by decide) (hdb : (x == ("__debug__" : Str)) = false := by decide)
    (he : starEach (e :: es) X.env = (false, eval e X.env) :: starEach es X.env := by rfl) (hpl : (backTo pos (starEach es X.env)).any (·.1) = false := by rfl) : DE X (.Call (.Name x p) (e :: es) [] pos) (tCB r τs) (dN f ts) :=
  ⟨pe_callTy hc hg hm hv ha.pe hn hdb he hpl, der_N h ha.r⟩
end
/-- one list of ints -/
theorem vals_of_denI {K : PySem.W.Frag} {S : Hp} : ∀ {ns : List Int} {vs : List V}, Paired (Den K S) (ns.map T.int) vs → vs = ns.map V.int
  | [], _, .nil => rfl
  | n :: ns, _, .cons d r => by
    unfold Den at d
    rw [d, vals_of_denI r, List.map_cons]
theorem vals_of_denB {K : PySem.W.Frag} {S : Hp} : ∀ {ns : List Bool} {vs : List V}, Paired (Den K S) (ns.map T.bl) vs → vs = ns.map V.bl
  | [], _, .nil => rfl
  | n :: ns, _, .cons d r => by
    unfold Den at d
    rw [d, vals_of_denB r, List.map_cons]
def G.lq? (g : G) : W → Option (List T)
  | .t (.sq ts) => some ts
  | w => g.seqL? w
theorem Rep.viewQ {K : PySem.W.Frag} {al : List Addr} {S F H : Hp} {σ : L2.St} {g : G} (R : Rep K al S F H σ g) {w : W} {v : V} {ts : List T} (d : DenW K al S w v) (e : g.lq? w = some ts) : ∃ a vs, v = .ref a ∧ SqL K H a vs ∧ Paired (Den K S) ts vs := by
  unfold G.lq? at e
  split at e
  · cases e
    unfold DenW Den at d
    obtain ⟨a, vs, rfl, h1, h2⟩ := d
    exact ⟨a, vs, rfl, R.same.seq h1, Dens.iff.mp h2⟩
  · obtain ⟨a, vs, h1, h2, h3⟩ := R.viewL d e
    exact ⟨a, vs, h1, .inl (.inl h2), h3⟩
theorem Rep.viewI {K : PySem.W.Frag} {al : List Addr} {S F H : Hp} {σ : L2.St} {g : G} (R : Rep K al S F H σ g) {w : W} {v : V} {ns : List Int} (d : DenW K al S w v) (e : g.lq? w = some (ns.map T.int)) : ∃ a, v = .ref a ∧ SqL K H a (ns.map V.int) := by
  obtain ⟨a, vs, rfl, h1, h2⟩ := R.viewQ d e
  rw [vals_of_denI h2] at h1
  exact ⟨a, rfl, h1⟩
theorem Rep.viewB {K : PySem.W.Frag} {al : List Addr} {S F H : Hp} {σ : L2.St} {g : G} (R : Rep K al S F H σ g) {w : W} {v : V} {ns : List Bool} (d : DenW K al S w v) (e : g.lq? w = some (ns.map T.bl)) : ∃ a, v = .ref a ∧ SqL K H a (ns.map V.bl) := by
  obtain ⟨a, vs, rfl, h1, h2⟩ := R.viewQ d e
  rw [vals_of_denB h2] at h1
  exact ⟨a, rfl, h1⟩
def fSum : FN := fun g ws Q => match ws with
  | [w] => ∃ ns : List Int, g.lq? w = some (ns.map T.int) ∧ Q (.t (.int ns.sum)) g
  | _ => False
theorem opN_sum {K : PySem.W.Frag} : OpN K (rSum K) fSum := by
  intro al S F H σ g xs ws Q QV R ds q k
  unfold fSum at q
  split at q
  · obtain ⟨v, rfl, d⟩ := p1 ds
    obtain ⟨ns, e, q⟩ := q
    obtain ⟨a, rfl, h⟩ := R.viewI d e
    exact ⟨a, ns, rfl, h, k.tr R (denI _) q⟩
  · exact q.elim
/-- min, max: of a list of ints, or of two ints -/
def fMin : FN := fun g ws Q => match ws with
  | [.t (.int i), .t (.int j)] => Q (.t (.int (if j < i then j else i))) g
  | [w] => ∃ ns : List Int, g.lq? w = some (ns.map T.int) ∧ 0 < ns.length ∧ ∀ m, m ∈ ns → (∀ y, y ∈ ns → m ≤ y) → Q (.t (.int m)) g
  | _ => False
def fMax : FN := fun g ws Q => match ws with
  | [.t (.int i), .t (.int j)] => Q (.t (.int (if j > i then j else i))) g
  | [w] => ∃ ns : List Int, g.lq? w = some (ns.map T.int) ∧ 0 < ns.length ∧ ∀ m, m ∈ ns → (∀ y, y ∈ ns → y ≤ m) → Q (.t (.int m)) g
  | _ => False
theorem opN_min {K : PySem.W.Frag} : OpN K (fun xs H Q => rMin K xs H Q ∨ ∃ i j, xs = [.int i, .int j] ∧ Q (.int (if j < i then j else i)) H) fMin := by
  intro al S F H σ g xs ws Q QV R ds q k
  unfold fMin at q
  split at q
  · obtain ⟨u, v, rfl, d1, d2⟩ := p2 ds
    unfold DenW Den at d1 d2
    subst d1 d2
    exact .inr ⟨_, _, rfl, k.tr R (denI _) q⟩
  · obtain ⟨v, rfl, d⟩ := p1 ds
    obtain ⟨ns, e, h0, q⟩ := q
    obtain ⟨a, rfl, h⟩ := R.viewI d e
    exact .inl ⟨a, ns, rfl, h, h0, fun m h1 h2 => k.tr R (denI _) (q m h1 h2)⟩
  · exact q.elim
theorem opN_max {K : PySem.W.Frag} : OpN K (fun xs H Q => rMax K xs H Q ∨ ∃ i j, xs = [.int i, .int j] ∧ Q (.int (if j > i then j else i)) H) fMax := by
  intro al S F H σ g xs ws Q QV R ds q k
  unfold fMax at q
  split at q
  · obtain ⟨u, v, rfl, d1, d2⟩ := p2 ds
    unfold DenW Den at d1 d2
    subst d1 d2
    exact .inr ⟨_, _, rfl, k.tr R (denI _) q⟩
  · obtain ⟨v, rfl, d⟩ := p1 ds
    obtain ⟨ns, e, h0, q⟩ := q
    obtain ⟨a, rfl, h⟩ := R.viewI d e
    exact .inl ⟨a, ns, rfl, h, h0, fun m h1 h2 => k.tr R (denI _) (q m h1 h2)⟩
  · exact q.elim
def fAll : FN := fun g ws Q => match ws with
  | [w] => ∃ ns : List Bool, g.lq? w = some (ns.map T.bl) ∧ Q (.t (.bl (ns.all id))) g
  | _ => False
def fAny : FN := fun g ws Q => match ws with
  | [w] => ∃ ns : List Bool, g.lq? w = some (ns.map T.bl) ∧ Q (.t (.bl (ns.any id))) g
  | _ => False
theorem opN_all {K : PySem.W.Frag} : OpN K (rAll K) fAll := by
  intro al S F H σ g xs ws Q QV R ds q k
  unfold fAll at q
  split at q
  · obtain ⟨v, rfl, d⟩ := p1 ds
    obtain ⟨ns, e, q⟩ := q
    obtain ⟨a, rfl, h⟩ := R.viewB d e
    exact ⟨a, ns, rfl, h, k.tr R (denB _) q⟩
  · exact q.elim
theorem opN_any {K : PySem.W.Frag} : OpN K (rAny K) fAny := by
  intro al S F H σ g xs ws Q QV R ds q k
  unfold fAny at q
  split at q
  · obtain ⟨v, rfl, d⟩ := p1 ds
    obtain ⟨ns, e, q⟩ := q
    obtain ⟨a, rfl, h⟩ := R.viewB d e
    exact ⟨a, ns, rfl, h, k.tr R (denB _) q⟩
  · exact q.elim
def fAbs : FN := fun g ws Q => match ws with
  | [.t (.int i)] => Q (.t (.int (if i < 0 then -i else i))) g
  | _ => False
theorem opN_abs {K : PySem.W.Frag} : OpN K (fun xs H Q => ∃ i, xs = [.int i] ∧ Q (.int (if i < 0 then -i else i)) H) fAbs := by
  intro al S F H σ g xs ws Q QV R ds q k
  unfold fAbs at q
  split at q
  · obtain ⟨v, rfl, d⟩ := p1 ds
    unfold DenW Den at d
    subst d
    exact ⟨_, rfl, k.tr R (denI _) q⟩
  · exact q.elim
def fInt : FN := fun g ws Q => match ws with
  | [.t (.int i)] => Q (.t (.int i)) g
  | [.t (.bl b)] => Q (.t (.int (if b then 1 else 0))) g
  | _ => False
theorem opN_int {K : PySem.W.Frag} : OpN K (fun xs H Q => (∃ i, xs = [.int i] ∧ Q (.int i) H) ∨ ∃ k, xs = [.bl k] ∧ Q (.int (if k then 1 else 0)) H) fInt := by
  intro al S F H σ g xs ws Q QV R ds q k
  unfold fInt at q
  split at q
  · obtain ⟨v, rfl, d⟩ := p1 ds
    unfold DenW Den at d
    subst d
    exact .inl ⟨_, rfl, k.tr R (denI _) q⟩
  · obtain ⟨v, rfl, d⟩ := p1 ds
    unfold DenW Den at d
    subst d
    exact .inr ⟨_, rfl, k.tr R (denI _) q⟩
  · exact q.elim
/-- list(x): a new list of the things of a list or tuple -/
def fListOf : FN := fun g ws Q => match ws with
  | [w] => (match g.seq? w with | some ts => Q (.t (.lst ts)) g | none => False)
  | _ => False
def fListOfH : FN := fun g ws Q => match ws with
  | [w] => (match g.seq? w with | some ts => Q (.h g.mem.length) (g.push (.lt ts)) | none => False)
  | _ => False
theorem opN_listOf {K : PySem.W.Frag} : OpN K (fun xs H Q => ∃ p ys, xs = [.ref p] ∧ (SqL K H p ys ∨ SqT K H p ys) ∧ ∀ l, H l = none → Q (.ref l) (upd H l (.lst ys))) fListOf := by
  intro al S F H σ g xs ws Q QV R ds q k
  unfold fListOf at q
  split at q
  · obtain ⟨v, rfl, d⟩ := p1 ds
    split at q
    · rename_i ts e
      obtain ⟨a, vs, rfl, h1, h2⟩ := R.viewS d e
      refine ⟨a, vs, rfl, h1, fun p np => ?_⟩
      obtain ⟨R2, gr2, d2⟩ := R.layL np h2
      exact k _ _ _ _ _ _ R2 gr2 d2 q
    · exact q.elim
  · exact q.elim
theorem opN_listOfH {K : PySem.W.Frag} : OpN K (fun xs H Q => ∃ p ys, xs = [.ref p] ∧ (SqL K H p ys ∨ SqT K H p ys) ∧ ∀ l, H l = none → Q (.ref l) (upd H l (.lst ys))) fListOfH := by
  intro al S F H σ g xs ws Q QV R ds q k
  unfold fListOfH at q
  split at q
  · obtain ⟨v, rfl, d⟩ := p1 ds
    split at q
    · rename_i ts e
      obtain ⟨a, vs, rfl, h1, h2⟩ := R.viewS d e
      refine ⟨a, vs, rfl, h1, fun p np => ?_⟩
      obtain ⟨R2, gr2, d2⟩ := R.pushC (c := .lt ts) (o := .lst vs) np ⟨vs, rfl, h2⟩
      exact k _ _ _ _ _ _ R2 gr2 d2 q
    · exact q.elim
  · exact q.elim
/-- tuple(x), x a list -/
def fTupOf : FN := fun g ws Q => match ws with
  | [w] => (match g.lq? w with | some ts => Q (.t (.tup ts)) g | none => False)
  | _ => False
theorem opN_tupOf {K : PySem.W.Frag} : OpN K (fun xs H Q => ∃ p ys, xs = [.ref p] ∧ ((SqL K H p ys ∧ ∀ l, H l = none → Q (.ref l) (upd H l (.tup ys))) ∨ (SqT K H p ys ∧ Q (.ref p) H))) fTupOf := by
  intro al S F H σ g xs ws Q QV R ds q k
  unfold fTupOf at q
  split at q
  · obtain ⟨v, rfl, d⟩ := p1 ds
    split at q
    · rename_i ts e
      obtain ⟨a, vs, rfl, h1, h2⟩ := R.viewQ d e
      refine ⟨a, vs, rfl, .inl ⟨h1, fun p np => ?_⟩⟩
      obtain ⟨R2, gr2, d2⟩ := R.layTup np h2
      exact k _ _ _ _ _ _ R2 gr2 d2 q
    · exact q.elim
  · exact q.elim
/-- isinstance(x, T), T a built-in class -/
def G.tyN (g : G) : W → Option String
  | .t .non => some "NoneType"
  | .t (.bl _) => some "bool"
  | .t (.int _) => some "int"
  | .t (.str _) => some "str"
  | .t (.lst _) => some "list"
  | .t (.tup _) => some "tuple"
  | .t (.dk _ _) => some "dict"
  | .t (.sq _) => none
  | .t (.raw _) => none
  | .t (.exc _) => none
  | .t (.ob _ _ _) => none
  | .t (.exf _ _ _) => none
  | .h n => (match g.mem[n]? with
    | some (some (.lt _)) => some "list"
    | some (some (.lw _)) => some "list"
    | some (some (.dt _ _)) => some "dict"
    | some (some (.dw _ _)) => some "dict"
    | some (some (.tw _)) => some "tuple"
    | _ => none)
def fIsi : FN := fun g ws Q => match ws with
  | [w, .t (.raw (.ty c))] => (match g.tyN w with | some a => (match kitB a c with | some b => Q (.t (.bl b)) g | none => False) | none => False)
  | _ => False
theorem tyX_of {K : PySem.W.Frag} {al : List Addr} {S F H : Hp} {σ : L2.St} {g : G} (R : Rep K al S F H σ g) {w : W} {v : V} {a : String} (d : DenW K al S w v) (e : g.tyN w = some a) : TyX K H v (.type a) := by
  unfold G.tyN at e
  split at e
  · cases e; unfold DenW Den at d; subst d; exact .base .non
  · cases e; unfold DenW Den at d; subst d; exact .base (.bl _)
  · cases e; unfold DenW Den at d; subst d; exact .base (.int _)
  · cases e; unfold DenW Den at d; subst d; exact .base (.str _)
  · cases e; unfold DenW Den at d; obtain ⟨p, vs, rfl, h1, _⟩ := d; exact .base (.lst (R.same _ _ h1))
  · cases e
    unfold DenW Den at d
    obtain ⟨p, vs, rfl, h1, _⟩ := d
    rcases seqT R.same h1 with (h2 | ⟨o, h2⟩) | ⟨o, its, n, h2, h3, _⟩
    · exact .base (.tup h2)
    · exact .fTuple h2
    · exact .kTuple h2 h3
  · cases e; unfold DenW Den at d; obtain ⟨p, vs, rfl, h1, _⟩ := d; exact .base (.dK (R.same _ _ h1))
  · cases e
  · cases e
  · cases e
  · cases e
  · cases e
  · rename_i m
    split at e
    · rename_i ts em
      cases e
      obtain ⟨p, o, rfl, h1, vs, rfl, _⟩ := R.view d (c := .lt ts) (by unfold G.cell?; dsimp only; rw [em])
      exact .base (.lst h1)
    · rename_i ts em
      cases e
      obtain ⟨p, o, rfl, h1, vs, rfl, _⟩ := R.view d (c := .lw ts) (by unfold G.cell?; dsimp only; rw [em])
      exact .base (.lst h1)
    · rename_i ks ts em
      cases e
      obtain ⟨p, o, rfl, h1, vs, rfl, _⟩ := R.view d (c := .dt ks ts) (by unfold G.cell?; dsimp only; rw [em])
      exact .base (.dK h1)
    · rename_i ks ts em
      cases e
      obtain ⟨p, o, rfl, h1, vs, rfl, _⟩ := R.view d (c := .dw ks ts) (by unfold G.cell?; dsimp only; rw [em])
      exact .base (.dK h1)
    · rename_i ts em
      cases e
      obtain ⟨p, o, rfl, h1, vs, rfl, _⟩ := R.view d (c := .tw ts) (by unfold G.cell?; dsimp only; rw [em])
      exact .base (.tup h1)
    · cases e
theorem opN_isi {K : PySem.W.Frag} : OpN K (rIsi K) fIsi := by
  intro al S F H σ g xs ws Q QV R ds q k
  unfold fIsi at q
  split at q
  · rename_i w c
    obtain ⟨u, v, rfl, d1, d2⟩ := p2 ds
    split at q
    · rename_i a ea
      split at q
      · rename_i b eb
        unfold DenW Den at d2
        subst d2
        exact ⟨u, .ty c, _, _, b, rfl, .ty c, tyX_of R d1 ea, kit_ty eb, k.tr R (denB _) q⟩
      · exact q.elim
    · exact q.elim
  · exact q.elim
section
variable {p : Pos}
theorem de_len (hm : X.mg "len" = none) (ha : DA X (e :: es) τs ts) (hg : Gl X "len" := by rfl) (he : starEach (e :: es) X.env = (false, eval e X.env) :: starEach es X.env := by rfl) (hpl : (backTo pos (starEach es X.env)).any (·.1) = false := by rfl) :
    DE X (.Call (.Name "len" p) (e :: es) [] pos) (tCB (fun xs H Q => (∃ p ys, xs = [V.ref p] ∧ (SqL X.K H p ys ∨ SqT X.K H p ys) ∧ Q (.int ys.length) H) ∨ (∃ a kvs, xs = [V.ref a] ∧ H a = some (.dK kvs) ∧ Q (.int kvs.length) H)) τs) (dN fLen ts) :=
  de_cB (call_len_seq.or call_lenD) opN_len hm ha PySem.boot_len hg (by decide) (by decide) he hpl
theorem de_sum (hc : X.calm = true) (hm : X.mg "sum" = none) (ha : DA X (e :: es) τs ts) (hg : Gl X "sum" := by rfl) (he : starEach (e :: es) X.env = (false, eval e X.env) :: starEach es X.env := by rfl) (hpl : (backTo pos (starEach es X.env)).any (·.1) = false := by rfl) :
    DE X (.Call (.Name "sum" p) (e :: es) [] pos) (tCB (rSum X.K) τs) (dN fSum ts) := de_cB (cr_sum hc) opN_sum hm ha (by decide +kernel) hg (by decide) (by decide) he hpl
theorem de_min (hc : X.calm = true) (hm : X.mg "min" = none) (ha : DA X (e :: es) τs ts) (hg : Gl X "min" := by rfl) (he : starEach (e :: es) X.env = (false, eval e X.env) :: starEach es X.env := by rfl) (hpl : (backTo pos (starEach es X.env)).any (·.1) = false := by rfl) :
    DE X (.Call (.Name "min" p) (e :: es) [] pos) (tCB (fun xs H Q => rMin X.K xs H Q ∨ ∃ i j, xs = [.int i, .int j] ∧ Q (.int (if j < i then j else i)) H) τs) (dN fMin ts) := de_cB ((cr_min hc).or (call_min2 hc)) opN_min hm ha (by decide +kernel) hg (by decide) (by decide) he hpl
theorem de_max (hc : X.calm = true) (hm : X.mg "max" = none) (ha : DA X (e :: es) τs ts) (hg : Gl X "max" := by rfl) (he : starEach (e :: es) X.env = (false, eval e X.env) :: starEach es X.env := by rfl) (hpl : (backTo pos (starEach es X.env)).any (·.1) = false := by rfl) :
    DE X (.Call (.Name "max" p) (e :: es) [] pos) (tCB (fun xs H Q => rMax X.K xs H Q ∨ ∃ i j, xs = [.int i, .int j] ∧ Q (.int (if j > i then j else i)) H) τs) (dN fMax ts) := de_cB ((cr_max hc).or (call_max2 hc)) opN_max hm ha (by decide +kernel) hg (by decide) (by decide) he hpl
theorem de_all (hc : X.calm = true) (hm : X.mg "all" = none) (ha : DA X (e :: es) τs ts) (hg : Gl X "all" := by rfl) (he : starEach (e :: es) X.env = (false, eval e X.env) :: starEach es X.env := by rfl) (hpl : (backTo pos (starEach es X.env)).any (·.1) = false := by rfl) :
    DE X (.Call (.Name "all" p) (e :: es) [] pos) (tCB (rAll X.K) τs) (dN fAll ts) := de_cB (cr_all hc) opN_all hm ha (by decide +kernel) hg (by decide) (by decide) he hpl
theorem de_any (hc : X.calm = true) (hm : X.mg "any" = none) (ha : DA X (e :: es) τs ts) (hg : Gl X "any" := by rfl) (he : starEach (e :: es) X.env = (false, eval e X.env) :: starEach es X.env := by rfl) (hpl : (backTo pos (starEach es X.env)).any (·.1) = false := by rfl) :
    DE X (.Call (.Name "any" p) (e :: es) [] pos) (tCB (rAny X.K) τs) (dN fAny ts) := de_cB (cr_any hc) opN_any hm ha (by decide +kernel) hg (by decide) (by decide) he hpl
theorem de_abs (hm : X.mg "abs" = none) (ha : DA X (e :: es) τs ts) (hg : Gl X "abs" := by rfl) (he : starEach (e :: es) X.env = (false, eval e X.env) :: starEach es X.env := by rfl) (hpl : (backTo pos (starEach es X.env)).any (·.1) = false := by rfl) :
    DE X (.Call (.Name "abs" p) (e :: es) [] pos) (tCB (fun xs H Q => ∃ i, xs = [.int i] ∧ Q (.int (if i < 0 then -i else i)) H) τs) (dN fAbs ts) := de_cB call_abs opN_abs hm ha (by decide +kernel) hg (by decide) (by decide) he hpl
theorem de_isi (hm : X.mg "isinstance" = none) (ha : DA X (e :: es) τs ts) (hg : Gl X "isinstance" := by rfl) (he : starEach (e :: es) X.env = (false, eval e X.env) :: starEach es X.env := by rfl) (hpl : (backTo pos (starEach es X.env)).any (·.1) = false := by rfl) :
    DE X (.Call (.Name "isinstance" p) (e :: es) [] pos) (tCB (rIsi X.K) τs) (dN fIsi ts) := de_cB call_isi opN_isi hm ha (by decide +kernel) hg (by decide) (by decide) he hpl
theorem de_intOf (hm : X.mg "int" = none) (ha : DA X (e :: es) τs ts) (hg : Gl X "int" := by rfl) (he : starEach (e :: es) X.env = (false, eval e X.env) :: starEach es X.env := by rfl) (hpl : (backTo pos (starEach es X.env)).any (·.1) = false := by rfl) :
    DE X (.Call (.Name "int" p) (e :: es) [] pos) (tCB (fun xs H Q => (∃ i, xs = [.int i] ∧ Q (.int i) H) ∨ ∃ k, xs = [.bl k] ∧ Q (.int (if k then 1 else 0)) H) τs) (dN fInt ts) := de_cT call_int1 opN_int hm ha (by decide +kernel) hg (by decide) (by decide) he hpl
theorem de_listOf (hm : X.mg "list" = none) (ha : DA X (e :: es) τs ts) (hg : Gl X "list" := by rfl) (he : starEach (e :: es) X.env = (false, eval e X.env) :: starEach es X.env := by rfl) (hpl : (backTo pos (starEach es X.env)).any (·.1) = false := by rfl) :
    DE X (.Call (.Name "list" p) (e :: es) [] pos) (tCB (fun xs H Q => ∃ p ys, xs = [.ref p] ∧ (SqL X.K H p ys ∨ SqT X.K H p ys) ∧ ∀ l, H l = none → Q (.ref l) (upd H l (.lst ys))) τs) (dN fListOf ts) := de_cT call_list_of opN_listOf hm ha (by decide +kernel) hg (by decide) (by decide) he hpl
theorem de_listOfH (hm : X.mg "list" = none) (ha : DA X (e :: es) τs ts) (hg : Gl X "list" := by rfl) (he : starEach (e :: es) X.env = (false, eval e X.env) :: starEach es X.env := by rfl) (hpl : (backTo pos (starEach es X.env)).any (·.1) = false := by rfl) :
    DE X (.Call (.Name "list" p) (e :: es) [] pos) (tCB (fun xs H Q => ∃ p ys, xs = [.ref p] ∧ (SqL X.K H p ys ∨ SqT X.K H p ys) ∧ ∀ l, H l = none → Q (.ref l) (upd H l (.lst ys))) τs) (dN fListOfH ts) := de_cT call_list_of opN_listOfH hm ha (by decide +kernel) hg (by decide) (by decide) he hpl
theorem de_tupOf (hm : X.mg "tuple" = none) (ha : DA X (e :: es) τs ts) (hg : Gl X "tuple" := by rfl) (he : starEach (e :: es) X.env = (false, eval e X.env) :: starEach es X.env := by rfl) (hpl : (backTo pos (starEach es X.env)).any (·.1) = false := by rfl) :
    DE X (.Call (.Name "tuple" p) (e :: es) [] pos) (tCB (fun xs H Q => ∃ p ys, xs = [.ref p] ∧ ((SqL X.K H p ys ∧ ∀ l, H l = none → Q (.ref l) (upd H l (.tup ys))) ∨ (SqT X.K H p ys ∧ Q (.ref p) H))) τs) (dN fTupOf ts) := de_cT call_tuple_of opN_tupOf hm ha (by decide +kernel) hg (by decide) (by decide) he hpl
/-- list(range(..)) -/
def DRr (K : PySem.W.Frag) (τ : L2.St → Hp → (Int → Int → Hp → Prop) → Prop) (t : G → (Int → Int → G → Prop) → Prop) : Prop := ∀ (al : List Addr) (S F H : Hp) (σ : L2.St) (g : G) (Q : Int → Int → G → Prop) (QV : Int → Int → Hp → Prop), Rep K al S F H σ g → t g Q →
  (∀ al' S' H' g' i j, Rep K al' S' F H' σ g' → Grow al S al' S' → Q i j g' → QV i j H') → τ σ H QV
structure DR (X : Cx) (e : Expr) (τ : L2.St → Hp → (Int → Int → Hp → Prop) → Prop) (t : G → (Int → Int → G → Prop) → Prop) : Prop where
  pe : PRg X e τ
  r : DRr X.K τ t
def dR1 (t : Dt) : G → (Int → Int → G → Prop) → Prop := fun g Q => t g fun w g' => match w with | .t (.int n) => Q 0 n g' | _ => False
def dR2 (t u : Dt) : G → (Int → Int → G → Prop) → Prop := fun g Q => t g fun w g' => u g' fun w' g'' => match w, w' with | .t (.int n), .t (.int m) => Q n m g'' | _, _ => False
theorem dr_1 (hm : X.mg "range" = none) (ha : DE X a τa ta) (hg : Gl X "range" := by rfl) (na : starEach [a] X.env = (false, eval a X.env) :: starEach [] X.env := by rfl) : DR X (.Call (.Name "range" p) [a] [] pos) (tRg1 τa) (dR1 ta) := by
  refine ⟨prg_1 hg hm ha.pe na, fun al S F H σ g Q QV R q k => ?_⟩
  refine ha.r al S F H σ g _ _ R q fun al1 S1 H1 g1 v1 w1 R1 gr1 e1 q1 => ?_
  split at q1
  · unfold DenW Den at e1
    exact ⟨_, e1, k _ _ _ _ _ _ R1 gr1 q1⟩
  · exact q1.elim
theorem dr_2 (hm : X.mg "range" = none) (ha : DE X a τa ta) (hb : DE X b τb tb) (hg : Gl X "range" := by rfl) (na : starEach [a, b] X.env = (false, eval a X.env) :: starEach [b] X.env := by rfl) (nb : starEach [b] X.env = (false, eval b X.env) :: starEach [] X.env := by rfl) (hp : ((backTo pos (starEach [b] X.env)).any fun x => x.fst) = false := by rfl) :
    DR X (.Call (.Name "range" p) [a, b] [] pos) (tRg2 τa τb) (dR2 ta tb) := by
  refine ⟨prg_2 hg hm ha.pe hb.pe na nb (hp := hp), fun al S F H σ g Q QV R q k => ?_⟩
  refine ha.r al S F H σ g _ _ R q fun al1 S1 H1 g1 v1 w1 R1 gr1 e1 q1 => ?_
  refine hb.r al1 S1 F H1 σ g1 _ _ R1 q1 fun al2 S2 H2 g2 v2 w2 R2 gr2 e2 q2 => ?_
  split at q2
  · unfold DenW Den at e1 e2
    exact ⟨_, _, e1, e2, k _ _ _ _ _ _ R2 (gr1.trans gr2) q2⟩
  · exact q2.elim
def rgT (i j : Int) : List T := (List.range (j - i).toNat).map fun k => T.int (i + (k : Nat))
theorem rgT_den {K : PySem.W.Frag} {S : Hp} (i : Int) : ∀ ks : List Nat, Paired (Den K S) (ks.map fun k => T.int (i + (k : Nat))) (ks.map fun k => V.int (i + (k : Nat)))
  | [] => .nil
  | k :: ks => .cons (denI _) (rgT_den i ks)
def dLstRg (t : G → (Int → Int → G → Prop) → Prop) : Dt := fun g Q => t g fun i j g' => RgOk i j ∧ Q (.t (.lst (rgT i j))) g'
def dLstRgH (t : G → (Int → Int → G → Prop) → Prop) : Dt := fun g Q => t g fun i j g' => RgOk i j ∧ Q (.h g'.mem.length) (g'.push (.lt (rgT i j)))
variable {τr : L2.St → Hp → (Int → Int → Hp → Prop) → Prop} {tr : G → (Int → Int → G → Prop) → Prop}
theorem de_listRg (hc : X.calm = true) (hm : X.mg "list" = none) (he : DR X e τr tr) (hg : Gl X "list" := by rfl) (na : starEach [e] X.env = (false, eval e X.env) :: starEach [] X.env := by rfl) : DE X (.Call (.Name "list" p) [e] [] pos) (tLstRg τr) (dLstRg tr) := by
  refine ⟨pe_listRg hc hg hm he.pe na, fun al S F H σ g Q QV R q k => ?_⟩
  refine he.r al S F H σ g _ _ R q fun al1 S1 H1 g1 i j R1 gr1 q1 => ⟨q1.1, fun p np => ?_⟩
  obtain ⟨R2, gr2, d2⟩ := R1.layL np (rgT_den i _)
  exact k _ _ _ _ _ _ R2 (gr1.trans gr2) d2 q1.2
theorem de_listRgH (hc : X.calm = true) (hm : X.mg "list" = none) (he : DR X e τr tr) (hg : Gl X "list" := by rfl) (na : starEach [e] X.env = (false, eval e X.env) :: starEach [] X.env := by rfl) : DE X (.Call (.Name "list" p) [e] [] pos) (tLstRg τr) (dLstRgH tr) := by
  refine ⟨pe_listRg hc hg hm he.pe na, fun al S F H σ g Q QV R q k => ?_⟩
  refine he.r al S F H σ g _ _ R q fun al1 S1 H1 g1 i j R1 gr1 q1 => ⟨q1.1, fun p np => ?_⟩
  obtain ⟨R2, gr2, d2⟩ := R1.pushC (c := .lt (rgT i j)) (o := .lst _) np ⟨_, rfl, rgT_den i _⟩
  exact k _ _ _ _ _ _ R2 (gr1.trans gr2) d2 q1.2
end
end
end DL

namespace DL
open PySem PySem.Spec L2

/-! dicts with int and text keys -/
section
variable {α β : Type}
def look : List Key → List α → Key → Option α
  | k :: ks, x :: xs, j => if k = j then some x else look ks xs j
  | _, _, _ => none
def putAll (k : Key) (x : α) : List Key → List α → List α
  | j :: ks, y :: ys => (if j = k then x else y) :: putAll k x ks ys
  | _, _ => []
def hasK (ks : List Key) (k : Key) : Bool := ks.any fun j => decide (j = k)
def putKs (ks : List Key) (k : Key) : List Key := if hasK ks k then ks else ks ++ [k]
def putXs (ks : List Key) (xs : List α) (k : Key) (x : α) : List α := if hasK ks k then putAll k x ks xs else xs ++ [x]
theorem look_zip {F : α → V → Prop} : ∀ {ks : List Key} {xs : List α} {vs : List V} (k : Key), Paired F xs vs → match look ks xs k, valV (ks.zip vs) k with | some x, some v => F x v | none, none => True | _, _ => False
  | [], xs, vs, k, p => by cases xs <;> simp [look, valV]
  | j :: ks, _, _, k, .nil => by simp [look, valV]
  | j :: ks, x :: xs, v :: vs, k, .cons h t => by
    by_cases e : j = k
    · subst e
      rw [List.zip_cons_cons, valV_pos rfl]
      simp only [look, if_true]
      exact h
    · have ih := look_zip (ks := ks) k t
      rw [List.zip_cons_cons, valV_neg (show ¬ (j, v).1 = k from e)]
      simp only [look, if_neg e]
      exact ih
theorem look_some {F : α → V → Prop} {ks : List Key} {xs : List α} {vs : List V} {k : Key} {x : α} (p : Paired F xs vs) (h : look ks xs k = some x) : ∃ v, valV (ks.zip vs) k = some v ∧ F x v := by
  have q := look_zip (ks := ks) k p
  rw [h] at q
  cases e : valV (ks.zip vs) k with
  | none => rw [e] at q; exact q.elim
  | some v => rw [e] at q; exact ⟨v, rfl, q⟩
theorem has_zip : ∀ {ks : List Key} {vs : List V} (k : Key), ks.length = vs.length → ((ks.zip vs).any fun kv => decide (kv.1 = k)) = hasK ks k
  | [], vs, k, _ => by simp [hasK]
  | j :: ks, [], k, h => by simp at h
  | j :: ks, v :: vs, k, h => by
    rw [List.zip_cons_cons]
    unfold hasK
    rw [List.any_cons, List.any_cons, has_zip (ks := ks) k (by simpa using h)]
    rfl
theorem has_look : ∀ {ks : List Key} {xs : List α} (k : Key), ks.length = xs.length → hasK ks k = (look ks xs k).isSome
  | [], xs, k, _ => by simp [hasK, look]
  | j :: ks, [], k, h => by simp at h
  | j :: ks, v :: vs, k, h => by
    unfold hasK
    rw [List.any_cons]
    by_cases e : j = k
    · simp [look, e]
    · simp only [look, if_neg e, decide_eq_false e, Bool.false_or]
      exact has_look (ks := ks) k (by simpa using h)
theorem putAll_zip {k : Key} {v : V} : ∀ {ks : List Key} {vs : List V}, ks.length = vs.length → ((ks.zip vs).map fun kv => if kv.1 = k then (kv.1, v) else kv) = ks.zip (putAll k v ks vs)
  | [], vs, _ => by simp
  | j :: ks, [], h => by simp at h
  | j :: ks, u :: vs, h => by
    rw [List.zip_cons_cons, List.map_cons, putAll_zip (by simpa using h)]
    simp only [putAll, List.zip_cons_cons]
    by_cases e : j = k
    · simp [e]
    · simp [e]
theorem putAll_len {k : Key} {v : α} : ∀ {ks : List Key} {vs : List α}, ks.length = vs.length → (putAll k v ks vs).length = ks.length
  | [], vs, _ => by simp [putAll]
  | j :: ks, [], h => by simp at h
  | j :: ks, u :: vs, h => by simp [putAll, putAll_len (ks := ks) (vs := vs) (by simpa using h)]
theorem putAll_pair {F : α → V → Prop} {k : Key} {x : α} {v : V} (f : F x v) : ∀ {ks : List Key} {xs : List α} {vs : List V}, Paired F xs vs → Paired F (putAll k x ks xs) (putAll k v ks vs)
  | [], _, _, _ => by simp [putAll]; exact .nil
  | j :: ks, _, _, .nil => by simp [putAll]; exact .nil
  | j :: ks, y :: xs, u :: vs, .cons h t => by
    simp only [putAll]
    by_cases e : j = k
    · rw [if_pos e, if_pos e]; exact .cons f (putAll_pair f t)
    · rw [if_neg e, if_neg e]; exact .cons h (putAll_pair f t)
theorem putK_zip {ks : List Key} {vs : List V} {k : Key} {v : V} (h : ks.length = vs.length) : putK (ks.zip vs) k v = (putKs ks k).zip (putXs ks vs k v) := by
  unfold putK putKs putXs
  rw [has_zip k h]
  by_cases e : hasK ks k = true
  · rw [if_pos e, if_pos e, if_pos e, putAll_zip h]
  · rw [if_neg e, if_neg e, if_neg e, List.zip_append h]
    rfl
theorem putX_len {ks : List Key} {xs : List α} {k : Key} {x : α} (h : ks.length = xs.length) : (putKs ks k).length = (putXs ks xs k x).length := by
  unfold putKs putXs
  by_cases e : hasK ks k = true
  · rw [if_pos e, if_pos e, putAll_len h]
  · rw [if_neg e, if_neg e]; simp [h]
theorem putX_pair {F : α → V → Prop} {k : Key} {x : α} {v : V} (f : F x v) {ks : List Key} {xs : List α} {vs : List V} (p : Paired F xs vs) : Paired F (putXs ks xs k x) (putXs ks vs k v) := by
  unfold putXs
  by_cases e : hasK ks k = true
  · rw [if_pos e, if_pos e]; exact putAll_pair f p
  · rw [if_neg e, if_neg e]; exact papp p (.cons f .nil)
end
def keyT : T → Option Key
  | .int i => some (.inl i)
  | .str s => some (.inr s)
  | _ => none
theorem key_den {K : PySem.W.Frag} {S : Hp} {t : T} {k : Key} {v : V} (h : keyT t = some k) (d : Den K S t v) : v = kV k := by
  cases t with
  | int i => cases h; unfold Den at d; exact d
  | str i => cases h; unfold Den at d; exact d
  | _ => cases h
def G.dct? (g : G) (w : W) : Option (List Key × List T) := match g.cell? w with | some (.dt ks ts) => some (ks, ts) | _ => none
def G.dcw? (g : G) (w : W) : Option (List Key × List W) := match g.cell? w with | some (.dw ks ts) => some (ks, ts) | _ => none
section
variable {X : Cx} {a b e : Expr} {τa τb : TE} {ta tb : Dt} {pos : Pos} {es : List Expr} {τs : TA} {ts : DAt}
/-- d[k] -/
def fGet : F2 := fun g x y Q => match y with
  | .t t => (match keyT t with
    | some k => (match g.dct? x with
      | some (ks, ts) => (match look ks ts k with | some r => Q (.t r) g | none => False)
      | none => (match g.dcw? x with
        | some (ks, ws) => (match look ks ws k with | some r => Q r g | none => False)
        | none => False))
    | none => False)
  | _ => False
theorem Rep.viewD {K : PySem.W.Frag} {al : List Addr} {S F H : Hp} {σ : L2.St} {g : G} (R : Rep K al S F H σ g) {w : W} {v : V} {ks : List Key} {ts : List T} (d : DenW K al S w v) (e : g.dct? w = some (ks, ts)) : ∃ a vs, v = .ref a ∧ H a = some (.dK (ks.zip vs)) ∧ ks.length = ts.length ∧ Paired (Den K S) ts vs := by
  unfold G.dct? at e
  split at e
  · rename_i ks' ts' q
    cases e
    obtain ⟨a, o, h1, h2, vs, rfl, h3, h4⟩ := R.view d q
    exact ⟨a, vs, h1, h2, h3, h4⟩
  · cases e
theorem Rep.viewDw {K : PySem.W.Frag} {al : List Addr} {S F H : Hp} {σ : L2.St} {g : G} (R : Rep K al S F H σ g) {w : W} {v : V} {ks : List Key} {ts : List W} (d : DenW K al S w v) (e : g.dcw? w = some (ks, ts)) : ∃ a vs, v = .ref a ∧ H a = some (.dK (ks.zip vs)) ∧ ks.length = ts.length ∧ Paired (DenW K al S) ts vs := by
  unfold G.dcw? at e
  split at e
  · rename_i ks' ts' q
    cases e
    obtain ⟨a, o, h1, h2, vs, rfl, h3, h4⟩ := R.view d q
    exact ⟨a, vs, h1, h2, h3, h4⟩
  · cases e
theorem de_get {kk : Nat} (hr : Room kk X.A) (ha : DE X a τa ta) (hb : DE X b τb tb) (hs : NoSl b := by intro _ _; rfl) : DE X (.Subscript a b pos) (tDGet τa τb) (d2 fGet ta tb) := by
  refine ⟨pe_dget (hu_of hr) ha.pe hb.pe hs, fun al S F H σ g Q QV R q k => ?_⟩
  refine ha.r al S F H σ g _ _ R q fun al1 S1 H1 g1 v1 w1 R1 gr1 e1 q1 => ?_
  refine hb.r al1 S1 F H1 σ g1 _ _ R1 q1 fun al2 S2 H2 g2 v2 w2 R2 gr2 e2 q2 => ?_
  unfold fGet at q2
  have gr := gr1.trans gr2
  split at q2
  · rename_i t
    split at q2
    · rename_i kk ek
      have ev := key_den ek e2
      subst ev
      split at q2
      · rename_i ks ts ed
        split at q2
        · rename_i r er
          obtain ⟨p, vs, rfl, h1, h2, h3⟩ := R2.viewD (e1.grow gr2) ed
          obtain ⟨v, h4, h5⟩ := look_some h3 er
          refine ⟨p, v, rfl, ?_, k _ _ _ _ _ (.t r) R2 gr h5 q2⟩
          rw [← h4]; exact DGet.k h1
        · exact q2.elim
      · split at q2
        · rename_i ks ts ed
          split at q2
          · rename_i r er
            obtain ⟨p, vs, rfl, h1, h2, h3⟩ := R2.viewDw (e1.grow gr2) ed
            obtain ⟨v, h4, h5⟩ := look_some h3 er
            refine ⟨p, v, rfl, ?_, k _ _ _ _ _ r R2 gr h5 q2⟩
            rw [← h4]; exact DGet.k h1
          · exact q2.elim
        · exact q2.elim
    · exact q2.elim
  · exact q2.elim
/-- k in d -/
def fDin (neg : Bool) : F2 := fun g y x Q => match y with
  | .t t => (match keyT t with
    | some k => (match g.dct? x with
      | some (ks, ts) => Q (.t (.bl (if neg then !(look ks ts k).isSome else (look ks ts k).isSome))) g
      | none => False)
    | none => False)
  | _ => False
theorem look_valV {K : PySem.W.Frag} {S : Hp} {ks : List Key} {ts : List T} {vs : List V} (k : Key) (p : Paired (Den K S) ts vs) : (valV (ks.zip vs) k).isSome = (look ks ts k).isSome := by
  have q := look_zip (ks := ks) k p
  cases e : valV (ks.zip vs) k <;> cases e2 : look ks ts k <;> rw [e, e2] at q <;> first | rfl | exact q.elim
theorem de_din {kk : Nat} (hr : Room kk X.A) (ha : DE X a τa ta) (hb : DE X b τb tb) (h1 : behindInMarks .In b = false := by rfl) : DE X (.Compare a [.In] [b] pos) (tDIn τa τb) (d2 (fDin false) ta tb) := by
  refine ⟨pe_cmp (pc_din (hu_of hr) ha.pe hb.pe) h1, fun al S F H σ g Q QV R q k => ?_⟩
  refine ha.r al S F H σ g _ _ R q fun al1 S1 H1 g1 v1 w1 R1 gr1 e1 q1 => ?_
  refine hb.r al1 S1 F H1 σ g1 _ _ R1 q1 fun al2 S2 H2 g2 v2 w2 R2 gr2 e2 q2 => ?_
  unfold fDin at q2
  split at q2
  · split at q2
    · rename_i kk ek
      have ev := key_den ek e1
      subst ev
      split at q2
      · rename_i ks ts ed
        obtain ⟨p, vs, rfl, h1, h2, h3⟩ := R2.viewD e2 ed
        refine ⟨p, _, rfl, DGet.k h1, k _ _ _ _ _ (.t (.bl _)) R2 (gr1.trans gr2) (by unfold DenW Den; rfl) ?_⟩
        rw [look_valV kk h3]
        simpa using q2
      · exact q2.elim
    · exact q2.elim
  · exact q2.elim
theorem de_dnotin {kk : Nat} (hr : Room kk X.A) (ha : DE X a τa ta) (hb : DE X b τb tb) (h1 : behindInMarks .NotIn b = false := by rfl) : DE X (.Compare a [.NotIn] [b] pos) (tDNotIn τa τb) (d2 (fDin true) ta tb) := by
  refine ⟨pe_cmp (pc_dnotin (hu_of hr) ha.pe hb.pe) h1, fun al S F H σ g Q QV R q k => ?_⟩
  refine ha.r al S F H σ g _ _ R q fun al1 S1 H1 g1 v1 w1 R1 gr1 e1 q1 => ?_
  refine hb.r al1 S1 F H1 σ g1 _ _ R1 q1 fun al2 S2 H2 g2 v2 w2 R2 gr2 e2 q2 => ?_
  unfold fDin at q2
  split at q2
  · split at q2
    · rename_i kk ek
      have ev := key_den ek e1
      subst ev
      split at q2
      · rename_i ks ts ed
        obtain ⟨p, vs, rfl, h1, h2, h3⟩ := R2.viewD e2 ed
        refine ⟨p, _, rfl, DGet.k h1, k _ _ _ _ _ (.t (.bl _)) R2 (gr1.trans gr2) (by unfold DenW Den; rfl) ?_⟩
        rw [look_valV kk h3]
        simpa using q2
      · exact q2.elim
    · exact q2.elim
  · exact q2.elim
/-- {} as a cell of trees -/
def dNewD : Dt := fun g Q => Q (.h g.mem.length) (g.push (.dt [] []))
theorem de_newD : DE X (.Dict [] [] pos) tDNewK dNewD := by
  refine ⟨pe_dnewK, fun al S F H σ g Q QV R q k => fun p np => ?_⟩
  obtain ⟨R2, gr2, d2⟩ := R.pushC (c := .dt [] []) (o := .dK []) np ⟨[], rfl, rfl, .nil⟩
  exact k _ _ _ _ _ _ R2 gr2 d2 q
def dNewDw : Dt := fun g Q => Q (.h g.mem.length) (g.push (.dw [] []))
theorem de_newDw : DE X (.Dict [] [] pos) tDNewK dNewDw := by
  refine ⟨pe_dnewK, fun al S F H σ g Q QV R q k => fun p np => ?_⟩
  obtain ⟨R2, gr2, d2⟩ := R.pushC (c := .dw [] []) (o := .dK []) np ⟨[], rfl, rfl, .nil⟩
  exact k _ _ _ _ _ _ R2 gr2 d2 q

/-! methods of built-in types -/
abbrev FM := G → W → List W → (W → G → Prop) → Prop
def OpM (K : PySem.W.Frag) (r : V → List V → Hp → VK → Prop) (f : FM) : Prop := ∀ (al : List Addr) (S F H : Hp) (σ : L2.St) (g : G) (x : V) (xs : List V) (wx : W) (ws : List W) (Q : W → G → Prop) (QV : VK), Rep K al S F H σ g → DenW K al S wx x → Paired (DenW K al S) ws xs → f g wx ws Q → Ct K al S F σ Q QV → r x xs H QV
def isL (g : G) (w : W) : Prop := match g.lq? w, g.wseq? w with | some _, _ => True | _, some _ => True | _, _ => False
theorem tyL {K : PySem.W.Frag} {al : List Addr} {S F H : Hp} {σ : L2.St} {g : G} (R : Rep K al S F H σ g) {w : W} {v : V} (d : DenW K al S w v) (h : isL g w) : tyV K "list" v H := by
  unfold isL at h
  split at h
  · rename_i ts e
    obtain ⟨a, vs, rfl, h1, _⟩ := R.viewQ d e
    exact .inl ⟨rfl, _, h1⟩
  · rename_i ts e _h0
    obtain ⟨a, vs, rfl, h1, _⟩ := R.viewW d e
    exact .inl ⟨rfl, _, .inl (.inl h1)⟩
  · exact h.elim
def dM0 (f : FM) (to : Dt) : Dt := fun g Q => to g fun x g1 => isL g1 x ∧ f g1 x [] Q
def dM (f : FM) (to : Dt) (t : DAt) : Dt := fun g Q => to g fun x g1 => isL g1 x ∧ t g1 fun ws g2 => f g2 x ws Q
variable {o : Expr} {τo : TE} {to : Dt} {name : Str} {apos cpos : Pos} {id : String} {r : V → List V → Hp → VK → Prop} {f : FM}
theorem de_m0 (slot : Slot "list" name id) (hty : typeOf (.builtin id) = pure (.type "method_descriptor")) (hm : MtR X id r) (h : OpM X.K r f) (ho : DE X o τo to)
    (hbase : attributeBase o name X.env (eval o X.env) = eval o X.env := by rfl) (hline : (apos.endLine == cpos.line) = true := by rfl) : DE X (.Call (.Attribute o name apos) [] [] cpos) (tBM0 X.K "list" r τo) (dM0 f to) := by
  refine ⟨pe_bm0 PySem.F.plainAttrs_list slot hty hm ho.pe hbase hline, fun al S F H σ g Q QV R q k => ?_⟩
  refine ho.r al S F H σ g _ _ R q fun al1 S1 H1 g1 v1 w1 R1 gr1 e1 q1 => ⟨tyL R1 e1 q1.1, ?_⟩
  exact h al1 S1 F H1 σ g1 v1 [] w1 [] Q QV R1 e1 .nil q1.2 (k.grow gr1)
theorem de_m (slot : Slot "list" name id) (hty : typeOf (.builtin id) = pure (.type "method_descriptor")) (hm : MtR X id r) (h : OpM X.K r f) (ho : DE X o τo to) (ha : DA X (e :: es) τs ts)
    (hbase : attributeBase o name X.env (eval o X.env) = eval o X.env := by rfl)
    (hfew : ((backTo cpos (starEach (e :: es) X.env)).all (fun x => !x.1) && (backToKw cpos (keywordEach [] X.env)).all (fun x => x.1.isSome)
      && decide ((e :: es).length + ([] : List Keyword).length + (if ([] : List Keyword).isEmpty then 0 else 1) < 30)) = true := by rfl)
    (hline : (apos.endLine == cpos.line) = true := by rfl) (hs : starEach (e :: es) X.env = (false, eval e X.env) :: starEach es X.env := by rfl) (hplain : (backTo cpos (starEach es X.env)).any (·.1) = false := by rfl) :
    DE X (.Call (.Attribute o name apos) (e :: es) [] cpos) (tBM X.K "list" r τo τs) (dM f to ts) := by
  refine ⟨pe_bm PySem.F.plainAttrs_list slot hty hm ho.pe ha.pe hbase hfew hline hs hplain, fun al S F H σ g Q QV R q k => ?_⟩
  refine ho.r al S F H σ g _ _ R q fun al1 S1 H1 g1 v1 w1 R1 gr1 e1 q1 => ⟨tyL R1 e1 q1.1, ?_⟩
  refine ha.r al1 S1 F H1 σ g1 _ _ R1 q1.2 fun al2 S2 H2 g2 vs2 ws2 R2 gr2 e2 q2 => ?_
  exact h al2 S2 F H2 σ g2 v1 vs2 w1 ws2 Q QV R2 (e1.grow gr2) e2 q2 (k.grow (gr1.trans gr2))
/-- a list's cell at a handle -/
theorem Rep.cellH {K : PySem.W.Frag} {al : List Addr} {S F H : Hp} {σ : L2.St} {g : G} (R : Rep K al S F H σ g) {n : Nat} {v : V} {c : Cell} (d : DenW K al S (.h n) v) (e : g.mem[n]? = some (some c)) : ∃ a o, v = .ref a ∧ al[n]? = some a ∧ H a = some o ∧ CellOk K al S c o := by
  obtain ⟨a, ea, rfl⟩ := d
  obtain ⟨a', o, h1, h2, h3, h4, h5⟩ := R.cell n c e
  rw [ea] at h1; cases h1
  exact ⟨a, o, rfl, ea, h4, h5⟩
theorem Rep.putC {K : PySem.W.Frag} {al : List Addr} {S F H : Hp} {σ : L2.St} {g : G} (R : Rep K al S F H σ g) {n : Nat} {c0 c : Cell} {a : Addr} {o : HO} (e : g.mem[n]? = some (some c0)) (ea : al[n]? = some a) (ok : CellOk K al S c o) : Rep K al S F (upd H a o) σ (g.put n c) :=
  R.withM (Grow.refl _ _) (R.toRepM.put e ea ok)
def fAppend : FM := fun g x ws Q => match x, ws with
  | .h n, [w] => (match g.mem[n]? with
    | some (some (.lt ts)) => (match w with | .t t => ts.length < sizeLine ∧ Q (.t .non) (g.put n (.lt (ts ++ [t]))) | _ => False)
    | some (some (.lw us)) => us.length < sizeLine ∧ Q (.t .non) (g.put n (.lw (us ++ [w])))
    | _ => False)
  | _, _ => False
theorem opM_append {K : PySem.W.Frag} : OpM K rAppend fAppend := by
  intro al S F H σ g x xs wx ws Q QV R d ds q k
  unfold fAppend at q
  split at q
  · rename_i n w
    obtain ⟨v, rfl, dw⟩ := p1 ds
    split at q
    · rename_i ts e
      split at q
      · rename_i t
        obtain ⟨a, o, rfl, ea, h1, vs, rfl, h2⟩ := R.cellH d e
        refine ⟨a, vs, v, rfl, rfl, h1, by rw [← h2.length]; exact q.1, ?_⟩
        have R2 := R.putC (c := .lt (ts ++ [t])) (o := .lst (vs ++ [v])) e ea ⟨_, rfl, papp h2 (.cons dw .nil)⟩
        exact k _ _ _ _ _ (.t .non) R2 (Grow.refl _ _) (by unfold DenW Den; rfl) q.2
      · exact q.elim
    · rename_i ts e
      obtain ⟨a, o, rfl, ea, h1, vs, rfl, h2⟩ := R.cellH d e
      refine ⟨a, vs, v, rfl, rfl, h1, by rw [← h2.length]; exact q.1, ?_⟩
      have R2 := R.putC (c := .lw (ts ++ [w])) (o := .lst (vs ++ [v])) e ea ⟨_, rfl, papp h2 (.cons dw .nil)⟩
      exact k _ _ _ _ _ (.t .non) R2 (Grow.refl _ _) (by unfold DenW Den; rfl) q.2
    · exact q.elim
  · exact q.elim
theorem de_append (ho : DE X o τo to) (ha : DA X (e :: es) τs ts)
    (hbase : attributeBase o "append" X.env (eval o X.env) = eval o X.env := by rfl)
    (hfew : ((backTo cpos (starEach (e :: es) X.env)).all (fun x => !x.1) && (backToKw cpos (keywordEach [] X.env)).all (fun x => x.1.isSome)
      && decide ((e :: es).length + ([] : List Keyword).length + (if ([] : List Keyword).isEmpty then 0 else 1) < 30)) = true := by rfl)
    (hline : (apos.endLine == cpos.line) = true := by rfl) (hs : starEach (e :: es) X.env = (false, eval e X.env) :: starEach es X.env := by rfl) (hplain : (backTo cpos (starEach es X.env)).any (·.1) = false := by rfl) :
    DE X (.Call (.Attribute o "append" apos) (e :: es) [] cpos) (tBM X.K "list" rAppend τo τs) (dM fAppend to ts) := de_m PySem.F.slot_list_append PySem.F.type_list_append mt_append opM_append ho ha hbase hfew hline hs hplain
/-- xs.pop() -/
def fPop : FM := fun g x ws Q => match x, ws with
  | .h n, [] => (match g.mem[n]? with
    | some (some (.lt ts)) => ∃ t, ts[ts.length - 1]? = some t ∧ Q (.t t) (g.put n (.lt ts.dropLast))
    | some (some (.lw us)) => ∃ u, us[us.length - 1]? = some u ∧ Q u (g.put n (.lw us.dropLast))
    | _ => False)
  | _, _ => False
theorem pdl {α β : Type} {F : α → β → Prop} {xs : List α} {ys : List β} (h : Paired F xs ys) : Paired F xs.dropLast ys.dropLast := by
  rw [List.dropLast_eq_take, List.dropLast_eq_take, h.length]
  exact ptake _ h
theorem opM_pop {K : PySem.W.Frag} : OpM K rPop fPop := by
  intro al S F H σ g x xs wx ws Q QV R d ds q k
  unfold fPop at q
  split at q
  · rename_i n
    cases ds
    split at q
    · rename_i ts e
      obtain ⟨t, et, q⟩ := q
      obtain ⟨a, o, rfl, ea, h1, vs, rfl, h2⟩ := R.cellH d e
      obtain ⟨v, ev, dv⟩ := pget h2 et
      refine ⟨a, vs, v, rfl, rfl, h1, by rw [← h2.length]; exact ev, ?_⟩
      have R2 := R.putC (c := .lt ts.dropLast) (o := .lst vs.dropLast) e ea ⟨_, rfl, pdl h2⟩
      exact k _ _ _ _ _ (.t t) R2 (Grow.refl _ _) dv q
    · rename_i ts e
      obtain ⟨t, et, q⟩ := q
      obtain ⟨a, o, rfl, ea, h1, vs, rfl, h2⟩ := R.cellH d e
      obtain ⟨v, ev, dv⟩ := pget h2 et
      refine ⟨a, vs, v, rfl, rfl, h1, by rw [← h2.length]; exact ev, ?_⟩
      have R2 := R.putC (c := .lw ts.dropLast) (o := .lst vs.dropLast) e ea ⟨_, rfl, pdl h2⟩
      exact k _ _ _ _ _ t R2 (Grow.refl _ _) dv q
    · exact q.elim
  · exact q.elim
theorem de_pop (ho : DE X o τo to) (hbase : attributeBase o "pop" X.env (eval o X.env) = eval o X.env := by rfl) (hline : (apos.endLine == cpos.line) = true := by rfl) : DE X (.Call (.Attribute o "pop" apos) [] [] cpos) (tBM0 X.K "list" rPop τo) (dM0 fPop to) :=
  de_m0 PySem.F.slot_list_pop PySem.F.type_list_pop mt_pop opM_pop ho hbase hline
/-- xs.pop(i) -/
def fPopAt : FM := fun g x ws Q => match x, ws with
  | .h n, [.t (.int i)] => (match g.mem[n]? with
    | some (some (.lt ts)) => ∃ k t, -(2 ^ 63) ≤ i ∧ i < 2 ^ 63 ∧ seqIndex? i ts.length = some k ∧ ts[k]? = some t ∧ Q (.t t) (g.put n (.lt (ts.eraseIdx k)))
    | some (some (.lw ts)) => ∃ k t, -(2 ^ 63) ≤ i ∧ i < 2 ^ 63 ∧ seqIndex? i ts.length = some k ∧ ts[k]? = some t ∧ Q t (g.put n (.lw (ts.eraseIdx k)))
    | _ => False)
  | _, _ => False
theorem opM_popAt {K : PySem.W.Frag} : OpM K rPopAt fPopAt := by
  intro al S F H σ g x xs wx ws Q QV R d ds q k
  unfold fPopAt at q
  split at q
  · rename_i n i
    obtain ⟨vi, rfl, di⟩ := p1 ds
    unfold DenW Den at di
    subst di
    split at q
    · rename_i ts e
      obtain ⟨j, t, b1, b2, b3, et, q⟩ := q
      obtain ⟨a, o, rfl, ea, h1, vs, rfl, h2⟩ := R.cellH d e
      obtain ⟨v, ev, dv⟩ := pget h2 et
      refine ⟨a, vs, i, j, v, rfl, rfl, h1, b1, b2, by rw [← h2.length]; exact b3, ev, ?_⟩
      have R2 := R.putC (c := .lt (ts.eraseIdx j)) (o := .lst (vs.eraseIdx j)) e ea ⟨_, rfl, perase j h2⟩
      exact k _ _ _ _ _ (.t t) R2 (Grow.refl _ _) dv q
    · rename_i ts e
      obtain ⟨j, t, b1, b2, b3, et, q⟩ := q
      obtain ⟨a, o, rfl, ea, h1, vs, rfl, h2⟩ := R.cellH d e
      obtain ⟨v, ev, dv⟩ := pget h2 et
      refine ⟨a, vs, i, j, v, rfl, rfl, h1, b1, b2, by rw [← h2.length]; exact b3, ev, ?_⟩
      have R2 := R.putC (c := .lw (ts.eraseIdx j)) (o := .lst (vs.eraseIdx j)) e ea ⟨_, rfl, perase j h2⟩
      exact k _ _ _ _ _ t R2 (Grow.refl _ _) dv q
    · exact q.elim
  · exact q.elim
theorem de_popAt (ho : DE X o τo to) (ha : DA X (e :: es) τs ts)
    (hbase : attributeBase o "pop" X.env (eval o X.env) = eval o X.env := by rfl)
    (hfew : ((backTo cpos (starEach (e :: es) X.env)).all (fun x => !x.1) && (backToKw cpos (keywordEach [] X.env)).all (fun x => x.1.isSome)
      && decide ((e :: es).length + ([] : List Keyword).length + (if ([] : List Keyword).isEmpty then 0 else 1) < 30)) = true := by rfl)
    (hline : (apos.endLine == cpos.line) = true := by rfl) (hs : starEach (e :: es) X.env = (false, eval e X.env) :: starEach es X.env := by rfl) (hplain : (backTo cpos (starEach es X.env)).any (·.1) = false := by rfl) :
    DE X (.Call (.Attribute o "pop" apos) (e :: es) [] cpos) (tBM X.K "list" rPopAt τo τs) (dM fPopAt to ts) := de_m PySem.F.slot_list_pop PySem.F.type_list_pop mt_popAt opM_popAt ho ha hbase hfew hline hs hplain
/-- xs.insert(i, y) -/
abbrev rInsert : V → List V → Hp → VK → Prop := fun x vs H Q => ∃ (l : Addr) (xs : List V) (i : Int) (y : V), x = .ref l ∧ vs = [.int i, y] ∧ H l = some (.lst xs) ∧ xs.length < sizeLine ∧ 0 ≤ i ∧ i < 2 ^ 63 ∧
    Q .non (upd H l (.lst (xs.take i.toNat ++ [y] ++ xs.drop i.toNat)))
def fInsert : FM := fun g x ws Q => match x, ws with
  | .h n, [.t (.int i), w] => (match g.mem[n]? with
    | some (some (.lt ts)) => (match w with | .t t => ts.length < sizeLine ∧ 0 ≤ i ∧ i < 2 ^ 63 ∧ Q (.t .non) (g.put n (.lt (ts.take i.toNat ++ [t] ++ ts.drop i.toNat))) | _ => False)
    | some (some (.lw ts)) => ts.length < sizeLine ∧ 0 ≤ i ∧ i < 2 ^ 63 ∧ Q (.t .non) (g.put n (.lw (ts.take i.toNat ++ [w] ++ ts.drop i.toNat)))
    | _ => False)
  | _, _ => False
theorem opM_insert {K : PySem.W.Frag} : OpM K rInsert fInsert := by
  intro al S F H σ g x xs wx ws Q QV R d ds q k
  unfold fInsert at q
  split at q
  · rename_i n i w
    obtain ⟨vi, v, rfl, di, dv⟩ := p2 ds
    unfold DenW Den at di
    subst di
    split at q
    · rename_i ts e
      split at q
      · rename_i t
        obtain ⟨b1, b2, b3, q⟩ := q
        obtain ⟨a, o, rfl, ea, h1, vs, rfl, h2⟩ := R.cellH d e
        refine ⟨a, vs, i, v, rfl, rfl, h1, by rw [← h2.length]; exact b1, b2, b3, ?_⟩
        have R2 := R.putC (c := .lt (ts.take i.toNat ++ [t] ++ ts.drop i.toNat)) (o := .lst (vs.take i.toNat ++ [v] ++ vs.drop i.toNat)) e ea ⟨_, rfl, papp (papp (ptake _ h2) (.cons dv .nil)) (pdrop _ h2)⟩
        exact k _ _ _ _ _ (.t .non) R2 (Grow.refl _ _) (by unfold DenW Den; rfl) q
      · exact q.elim
    · rename_i ts e
      obtain ⟨b1, b2, b3, q⟩ := q
      obtain ⟨a, o, rfl, ea, h1, vs, rfl, h2⟩ := R.cellH d e
      refine ⟨a, vs, i, v, rfl, rfl, h1, by rw [← h2.length]; exact b1, b2, b3, ?_⟩
      have R2 := R.putC (c := .lw (ts.take i.toNat ++ [w] ++ ts.drop i.toNat)) (o := .lst (vs.take i.toNat ++ [v] ++ vs.drop i.toNat)) e ea ⟨_, rfl, papp (papp (ptake _ h2) (.cons dv .nil)) (pdrop _ h2)⟩
      exact k _ _ _ _ _ (.t .non) R2 (Grow.refl _ _) (by unfold DenW Den; rfl) q
    · exact q.elim
  · exact q.elim
theorem de_insert (ho : DE X o τo to) (ha : DA X (e :: es) τs ts)
    (hbase : attributeBase o "insert" X.env (eval o X.env) = eval o X.env := by rfl)
    (hfew : ((backTo cpos (starEach (e :: es) X.env)).all (fun x => !x.1) && (backToKw cpos (keywordEach [] X.env)).all (fun x => x.1.isSome)
      && decide ((e :: es).length + ([] : List Keyword).length + (if ([] : List Keyword).isEmpty then 0 else 1) < 30)) = true := by rfl)
    (hline : (apos.endLine == cpos.line) = true := by rfl) (hs : starEach (e :: es) X.env = (false, eval e X.env) :: starEach es X.env := by rfl) (hplain : (backTo cpos (starEach es X.env)).any (·.1) = false := by rfl) :
    DE X (.Call (.Attribute o "insert" apos) (e :: es) [] cpos) (tBM X.K "list" rInsert τo τs) (dM fInsert to ts) := de_m PySem.F.slot_list_insert PySem.F.type_list_insert mt_insert opM_insert ho ha hbase hfew hline hs hplain
/-- xs.clear() -/
def fClear : FM := fun g x ws Q => match x, ws with
  | .h n, [] => (match g.mem[n]? with
    | some (some (.lt ts)) => Q (.t .non) (g.put n (.lt []))
    | some (some (.lw us)) => Q (.t .non) (g.put n (.lw []))
    | _ => False)
  | _, _ => False
theorem opM_clear {K : PySem.W.Frag} : OpM K rClear fClear := by
  intro al S F H σ g x xs wx ws Q QV R d ds q k
  unfold fClear at q
  split at q
  · rename_i n
    cases ds
    split at q
    · rename_i ts e
      obtain ⟨a, o, rfl, ea, h1, vs, rfl, h2⟩ := R.cellH d e
      refine ⟨a, vs, rfl, rfl, h1, ?_⟩
      have R2 := R.putC (c := .lt []) (o := .lst []) e ea ⟨_, rfl, .nil⟩
      exact k _ _ _ _ _ (.t .non) R2 (Grow.refl _ _) (by unfold DenW Den; rfl) q
    · rename_i ts e
      obtain ⟨a, o, rfl, ea, h1, vs, rfl, h2⟩ := R.cellH d e
      refine ⟨a, vs, rfl, rfl, h1, ?_⟩
      have R2 := R.putC (c := .lw []) (o := .lst []) e ea ⟨_, rfl, .nil⟩
      exact k _ _ _ _ _ (.t .non) R2 (Grow.refl _ _) (by unfold DenW Den; rfl) q
    · exact q.elim
  · exact q.elim
theorem de_clear (ho : DE X o τo to) (hbase : attributeBase o "clear" X.env (eval o X.env) = eval o X.env := by rfl) (hline : (apos.endLine == cpos.line) = true := by rfl) : DE X (.Call (.Attribute o "clear" apos) [] [] cpos) (tBM0 X.K "list" rClear τo) (dM0 fClear to) :=
  de_m0 PySem.F.slot_list_clear PySem.F.type_list_clear mt_clear opM_clear ho hbase hline
/-- xs.remove(k), ints -/
def fRemove : FM := fun g x ws Q => match x, ws with
  | .h n, [.t (.int k)] => (match g.mem[n]? with
    | some (some (.lt ts)) => ∃ (ns : List Int) (j : Nat), ts = ns.map T.int ∧ ns[j]? = some k ∧ (∀ m : Nat, m < j → ns[m]? ≠ some k) ∧ Q (.t .non) (g.put n (.lt ((ns.eraseIdx j).map T.int)))
    | _ => False)
  | _, _ => False
theorem den_ints {K : PySem.W.Frag} {S : Hp} : ∀ ns : List Int, Paired (Den K S) (ns.map T.int) (ns.map V.int)
  | [] => .nil
  | n :: ns => .cons (denI n) (den_ints ns)
theorem opM_remove {K : PySem.W.Frag} : OpM K rRemI fRemove := by
  intro al S F H σ g x xs wx ws Q QV R d ds q k
  unfold fRemove at q
  split at q
  · rename_i n i
    obtain ⟨vi, rfl, di⟩ := p1 ds
    unfold DenW Den at di
    subst di
    split at q
    · rename_i ts e
      obtain ⟨ns, j, rfl, b1, b2, q⟩ := q
      obtain ⟨a, o, rfl, ea, h1, vs, rfl, h2⟩ := R.cellH d e
      rw [vals_of_denI h2] at h1
      refine ⟨a, ns, i, j, rfl, rfl, h1, b1, b2, ?_⟩
      have R2 := R.putC (c := .lt ((ns.eraseIdx j).map T.int)) (o := .lst ((ns.eraseIdx j).map V.int)) e ea ⟨_, rfl, den_ints _⟩
      exact k _ _ _ _ _ (.t .non) R2 (Grow.refl _ _) (by unfold DenW Den; rfl) q
    · exact q.elim
  · exact q.elim
theorem de_remove (ho : DE X o τo to) (ha : DA X (e :: es) τs ts)
    (hbase : attributeBase o "remove" X.env (eval o X.env) = eval o X.env := by rfl)
    (hfew : ((backTo cpos (starEach (e :: es) X.env)).all (fun x => !x.1) && (backToKw cpos (keywordEach [] X.env)).all (fun x => x.1.isSome)
      && decide ((e :: es).length + ([] : List Keyword).length + (if ([] : List Keyword).isEmpty then 0 else 1) < 30)) = true := by rfl)
    (hline : (apos.endLine == cpos.line) = true := by rfl) (hs : starEach (e :: es) X.env = (false, eval e X.env) :: starEach es X.env := by rfl) (hplain : (backTo cpos (starEach es X.env)).any (·.1) = false := by rfl) :
    DE X (.Call (.Attribute o "remove" apos) (e :: es) [] cpos) (tBM X.K "list" rRemI τo τs) (dM fRemove to ts) := de_m PySem.F.slot_list_remove PySem.F.type_list_remove mt_remove opM_remove ho ha hbase hfew hline hs hplain
/-- xs.count(k), ints -/
def fCount : FM := fun g x ws Q => match ws with
  | [.t (.int k)] => ∃ ns : List Int, g.lq? x = some (ns.map T.int) ∧ Q (.t (.int (ns.count k : Nat))) g
  | _ => False
theorem opM_count {K : PySem.W.Frag} : OpM K (rCntI K) fCount := by
  intro al S F H σ g x xs wx ws Q QV R d ds q k
  unfold fCount at q
  split at q
  · rename_i i
    obtain ⟨vi, rfl, di⟩ := p1 ds
    unfold DenW Den at di
    subst di
    obtain ⟨ns, e, q⟩ := q
    obtain ⟨a, rfl, h⟩ := R.viewI d e
    exact ⟨a, ns, i, rfl, rfl, h, k.tr R (denI _) q⟩
  · exact q.elim
theorem de_count (ho : DE X o τo to) (ha : DA X (e :: es) τs ts)
    (hbase : attributeBase o "count" X.env (eval o X.env) = eval o X.env := by rfl)
    (hfew : ((backTo cpos (starEach (e :: es) X.env)).all (fun x => !x.1) && (backToKw cpos (keywordEach [] X.env)).all (fun x => x.1.isSome)
      && decide ((e :: es).length + ([] : List Keyword).length + (if ([] : List Keyword).isEmpty then 0 else 1) < 30)) = true := by rfl)
    (hline : (apos.endLine == cpos.line) = true := by rfl) (hs : starEach (e :: es) X.env = (false, eval e X.env) :: starEach es X.env := by rfl) (hplain : (backTo cpos (starEach es X.env)).any (·.1) = false := by rfl) :
    DE X (.Call (.Attribute o "count" apos) (e :: es) [] cpos) (tBM X.K "list" (rCntI X.K) τo τs) (dM fCount to ts) := de_m PySem.F.slot_list_count PySem.F.type_list_count mt_lcount opM_count ho ha hbase hfew hline hs hplain
/-- xs.index(k), ints -/
def fIndex : FM := fun g x ws Q => match ws with
  | [.t (.int k)] => ∃ (ns : List Int) (j : Nat), g.lq? x = some (ns.map T.int) ∧ ns[j]? = some k ∧ (∀ m : Nat, m < j → ns[m]? ≠ some k) ∧ Q (.t (.int j)) g
  | _ => False
theorem opM_index {K : PySem.W.Frag} : OpM K (rIndex K) fIndex := by
  intro al S F H σ g x xs wx ws Q QV R d ds q k
  unfold fIndex at q
  split at q
  · rename_i i
    obtain ⟨vi, rfl, di⟩ := p1 ds
    unfold DenW Den at di
    subst di
    obtain ⟨ns, j, e, b1, b2, q⟩ := q
    obtain ⟨a, rfl, h⟩ := R.viewI d e
    refine ⟨a, ns.map V.int, .int i, j, .int i, rfl, rfl, h, rfl, ?_, by rw [List.getElem?_map, b1]; rfl, by simp [eqV], ?_⟩
    · rw [List.all_eq_true]
      intro v hv
      obtain ⟨n, _, rfl⟩ := List.mem_map.mp hv
      rfl
    · refine ⟨fun m z' hm hz => ?_, k.tr R (denI _) q⟩
      rw [List.getElem?_map] at hz
      cases e2 : ns[m]? with
      | none => rw [e2] at hz; cases hz
      | some n =>
        rw [e2] at hz
        cases hz
        have := b2 m hm
        rw [e2] at this
        simp only [eqV]
        exact beq_eq_false_iff_ne.mpr fun z => this (by rw [z])
  · exact q.elim
theorem de_index (ho : DE X o τo to) (ha : DA X (e :: es) τs ts)
    (hbase : attributeBase o "index" X.env (eval o X.env) = eval o X.env := by rfl)
    (hfew : ((backTo cpos (starEach (e :: es) X.env)).all (fun x => !x.1) && (backToKw cpos (keywordEach [] X.env)).all (fun x => x.1.isSome)
      && decide ((e :: es).length + ([] : List Keyword).length + (if ([] : List Keyword).isEmpty then 0 else 1) < 30)) = true := by rfl)
    (hline : (apos.endLine == cpos.line) = true := by rfl) (hs : starEach (e :: es) X.env = (false, eval e X.env) :: starEach es X.env := by rfl) (hplain : (backTo cpos (starEach es X.env)).any (·.1) = false := by rfl) :
    DE X (.Call (.Attribute o "index" apos) (e :: es) [] cpos) (tBM X.K "list" (rIndex X.K) τo τs) (dM fIndex to ts) := de_m PySem.F.slot_list_index PySem.F.type_list_index mt_index opM_index ho ha hbase hfew hline hs hplain
end
end DL

namespace DL
open PySem PySem.Spec L2

section
variable {X : Cx} {a b c e : Expr} {τa τb : TE} {ta tb : Dt} {pos : Pos} {es rest : List Expr} {τs : TA} {ts : DAt} {τt τu : TT} {tt tu : DTt}
/-! tests -/
def dB (t : Dt) : DTt := fun g Q => t g fun w g' => match w with | .t (.bl b) => Q b g' | _ => False
theorem dt_val (h : DE X e τa ta) (he : ∀ whole, isTrue e X.env whole = (do let v ← whole; standAt e.pos; holding [v] (truthy v)) := by intro _; rfl) : DT X e (L2.tB τa) (dB ta) := by
  refine ⟨pt_val h.pe he, fun al S F H σ g Q QV R q k => ?_⟩
  refine h.r al S F H σ g _ _ R q fun al1 S1 H1 g1 v1 w1 R1 gr1 e1 q1 => ?_
  split at q1
  · rename_i bb
    unfold DenW Den at e1
    exact ⟨bb, e1, k _ _ _ _ _ R1 gr1 q1⟩
  · exact q1.elim
def dNot (t : DTt) : DTt := fun g Q => t g fun c g' => Q (!c) g'
theorem dt_not (h : DT X a τt tt) : DT X (.UnaryOp .Not a pos) (tNot τt) (dNot tt) :=
  ⟨pt_not h.pe, fun al S F H σ g Q QV R q k => h.r al S F H σ g _ _ R q fun al1 S1 H1 g1 b1 R1 gr1 q1 => k _ _ _ _ _ R1 gr1 q1⟩
theorem dt_w (h : DW X a τt tt) : DT X a τt tt := ⟨h.pe.pt, h.r⟩
theorem dw_and1 (h : DT X a τt tt) : DW X (.BoolOp .And [a] pos) τt tt := ⟨pw_and1 h.pe, h.r⟩
theorem dw_or1 (h : DT X a τt tt) : DW X (.BoolOp .Or [a] pos) τt tt := ⟨pw_or1 h.pe, h.r⟩
def dAnd (t u : DTt) : DTt := fun g Q => t g fun c g1 => if c = true then u g1 Q else Q false g1
def dOr (t u : DTt) : DTt := fun g Q => t g fun c g1 => if c = true then Q true g1 else u g1 Q
theorem dw_and (ha : DT X a τt tt) (hb : DW X (.BoolOp .And (b :: rest) pos) τu tu) : DW X (.BoolOp .And (a :: b :: rest) pos) (tAnd τt τu) (dAnd tt tu) := by
  refine ⟨pw_and ha.pe hb.pe, fun al S F H σ g Q QV R q k => ?_⟩
  refine ha.r al S F H σ g _ _ R q fun al1 S1 H1 g1 b1 R1 gr1 q1 => ?_
  cases b1 with
  | true =>
    simp only [if_true] at q1 ⊢
    exact hb.r al1 S1 F H1 σ g1 _ _ R1 q1 fun al2 S2 H2 g2 b2 R2 gr2 q2 => k _ _ _ _ _ R2 (gr1.trans gr2) q2
  | false =>
    simp only [Bool.false_eq_true, if_false] at q1 ⊢
    exact k _ _ _ _ _ R1 gr1 q1
theorem dw_or (ha : DT X a τt tt) (hb : DW X (.BoolOp .Or (b :: rest) pos) τu tu) : DW X (.BoolOp .Or (a :: b :: rest) pos) (tOr τt τu) (dOr tt tu) := by
  refine ⟨pw_or ha.pe hb.pe, fun al S F H σ g Q QV R q k => ?_⟩
  refine ha.r al S F H σ g _ _ R q fun al1 S1 H1 g1 b1 R1 gr1 q1 => ?_
  cases b1 with
  | true =>
    simp only [if_true] at q1 ⊢
    exact k _ _ _ _ _ R1 gr1 q1
  | false =>
    simp only [Bool.false_eq_true, if_false] at q1 ⊢
    exact hb.r al1 S1 F H1 σ g1 _ _ R1 q1 fun al2 S2 H2 g2 b2 R2 gr2 q2 => k _ _ _ _ _ R2 (gr1.trans gr2) q2
def dAndV (ta tb : Dt) : Dt := fun g Q => ta g fun w g1 => match w with | .t (.bl c) => if c = true then tb g1 Q else Q (.t (.bl false)) g1 | _ => False
def dOrV (ta tb : Dt) : Dt := fun g Q => ta g fun w g1 => match w with | .t (.bl c) => if c = true then Q (.t (.bl true)) g1 else tb g1 Q | _ => False
def dNotV (ta : Dt) : Dt := fun g Q => ta g fun w g1 => match w with | .t (.bl c) => Q (.t (.bl (!c))) g1 | _ => False
theorem de_one {op} (h : DE X a τa ta) : DE X (.BoolOp op [a] pos) τa ta := ⟨pe_one h.pe, h.r⟩
theorem de_and (ha : DE X a τa ta) (hb : DE X (.BoolOp .And (b :: rest) pos) τb tb) : DE X (.BoolOp .And (a :: b :: rest) pos) (tAndV τa τb) (dAndV ta tb) := by
  refine ⟨pe_and ha.pe hb.pe, fun al S F H σ g Q QV R q k => ?_⟩
  refine ha.r al S F H σ g _ _ R q fun al1 S1 H1 g1 v1 w1 R1 gr1 e1 q1 => ?_
  split at q1
  · rename_i c
    unfold DenW Den at e1
    refine ⟨c, e1, ?_⟩
    cases c with
    | true =>
      simp only [if_true] at q1 ⊢
      exact hb.r al1 S1 F H1 σ g1 _ _ R1 q1 (k.grow gr1)
    | false =>
      simp only [Bool.false_eq_true, if_false] at q1 ⊢
      exact k _ _ _ _ _ (.t (.bl false)) R1 gr1 (by unfold DenW Den; rfl) q1
  · exact q1.elim
theorem de_or (ha : DE X a τa ta) (hb : DE X (.BoolOp .Or (b :: rest) pos) τb tb) : DE X (.BoolOp .Or (a :: b :: rest) pos) (tOrV τa τb) (dOrV ta tb) := by
  refine ⟨pe_or ha.pe hb.pe, fun al S F H σ g Q QV R q k => ?_⟩
  refine ha.r al S F H σ g _ _ R q fun al1 S1 H1 g1 v1 w1 R1 gr1 e1 q1 => ?_
  split at q1
  · rename_i c
    unfold DenW Den at e1
    refine ⟨c, e1, ?_⟩
    cases c with
    | true =>
      simp only [if_true] at q1 ⊢
      exact k _ _ _ _ _ (.t (.bl true)) R1 gr1 (by unfold DenW Den; rfl) q1
    | false =>
      simp only [Bool.false_eq_true, if_false] at q1 ⊢
      exact hb.r al1 S1 F H1 σ g1 _ _ R1 q1 (k.grow gr1)
  · exact q1.elim
theorem de_not (ha : DE X a τa ta) : DE X (.UnaryOp .Not a pos) (tNotV τa) (dNotV ta) := by
  refine ⟨pe_not ha.pe, fun al S F H σ g Q QV R q k => ?_⟩
  refine ha.r al S F H σ g _ _ R q fun al1 S1 H1 g1 v1 w1 R1 gr1 e1 q1 => ?_
  split at q1
  · rename_i c
    unfold DenW Den at e1
    exact ⟨c, e1, k _ _ _ _ _ (.t (.bl _)) R1 gr1 (by unfold DenW Den; rfl) q1⟩
  · exact q1.elim
def dIf (t : DTt) (ta tb : Dt) : Dt := fun g Q => t g fun c g1 => if c = true then ta g1 Q else tb g1 Q
theorem de_ifExp (hc : DT X c τt tt) (ha : DE X a τa ta) (hb : DE X b τb tb) : DE X (.IfExp c a b pos) (tIf τt τa τb) (dIf tt ta tb) := by
  refine ⟨pe_ifExp hc.pe ha.pe hb.pe, fun al S F H σ g Q QV R q k => ?_⟩
  refine hc.r al S F H σ g _ _ R q fun al1 S1 H1 g1 b1 R1 gr1 q1 => ?_
  cases b1 with
  | true =>
    simp only [if_true] at q1 ⊢
    exact ha.r al1 S1 F H1 σ g1 _ _ R1 q1 (k.grow gr1)
  | false =>
    simp only [Bool.false_eq_true, if_false] at q1 ⊢
    exact hb.r al1 S1 F H1 σ g1 _ _ R1 q1 (k.grow gr1)

/-! calls of defs -/
abbrev Ctr := List W → Sto → (W → Sto → Prop) → Prop
def dsp (K : PySem.W.Frag) (C : Ctr) : Sp := fun vs H Q _ => ∃ (al : List Addr) (S F : Hp) (m : Sto) (ws : List W) (QC : W → Sto → Prop), RepM K al S F H m ∧ Paired (DenW K al S) ws vs ∧ C ws m QC ∧
  ∀ al' S' H' m' v w, RepM K al' S' F H' m' → Grow al S al' S' → DenW K al' S' w v → QC w m' → Q v H'
def dCall (C : Ctr) (t : DAt) : Dt := fun g Q => t g fun ws g1 => C ws g1.mem fun w m' => Q w ⟨g1.sl, m'⟩
theorem der_call {K : PySem.W.Frag} {C : Ctr} {E : XK} (h : DAr K τs ts) : DEr K (tCall (dsp K C) [] E τs) (dCall C ts) := by
  intro al S F H σ g Q QV R q k
  refine h al S F H σ g _ _ R q fun al1 S1 H1 g1 vs ws R1 gr1 e1 q1 => ?_
  rw [List.append_nil]
  refine ⟨al1, S1, F, g1.mem, ws, _, R1.toRepM, e1, q1, fun al2 S2 H2 m2 v w M gr2 d q2 => ?_⟩
  exact k _ _ _ _ _ _ (R1.withM gr2 M) (gr1.trans gr2) d q2
theorem de_call {k : Nat} {f : Addr} {fd : FuncData} {ps : List Str} {C : Ctr} {x : Str} {p : Pos} (F : FnOk X.prog X.w X.K X.mg X.base CX0 k f fd ps (dsp X.K C)) (hr : Room k X.A) (hm : X.mg x = some (.ref f)) (hk : PySem.W.keepIn X.K (.ref f) = true) (hb : Binds X.K fd ps [])
    (ha : DA X (e :: es) τs ts) (hg : Gl X x := by rfl) (hdb : (x == ("__debug__" : Str)) = false := by decide) (he : starEach (e :: es) X.env = (false, eval e X.env) :: starEach es X.env := by rfl) (hpl : (backTo pos (starEach es X.env)).any (·.1) = false := by rfl) :
    DE X (.Call (.Name x p) (e :: es) [] pos) (tCall (dsp X.K C) [] E0 τs) (dCall C ts) :=
  ⟨pe_call F hr hg hm hk hb .nil pass0 ha.pe hdb he hpl, der_call ha.r⟩
end

/-! statements -/
structure De where
  nx : G → Prop
  rt : W → G → Prop
  bk : G → Prop
  ct : G → Prop
abbrev DSt := De → G → Prop
structure Lk (K : PySem.W.Frag) (al : List Addr) (S F : Hp) (D : De) (DV : Ends) : Prop where
  nx : ∀ al' S' H' σ' g', Rep K al' S' F H' σ' g' → Grow al S al' S' → D.nx g' → DV.nx σ' H'
  rt : ∀ al' S' H' σ' g' v w, Rep K al' S' F H' σ' g' → Grow al S al' S' → DenW K al' S' w v → D.rt w g' → DV.rt v H'
  bk : ∀ al' S' H' σ' g', Rep K al' S' F H' σ' g' → Grow al S al' S' → D.bk g' → DV.bk σ' H'
  ct : ∀ al' S' H' σ' g', Rep K al' S' F H' σ' g' → Grow al S al' S' → D.ct g' → DV.ct σ' H'
theorem Lk.grow {K : PySem.W.Frag} {al al1 : List Addr} {S S1 F : Hp} {D : De} {DV : Ends} (k : Lk K al S F D DV) (gr : Grow al S al1 S1) : Lk K al1 S1 F D DV :=
  ⟨fun a s h σ g R g2 q => k.nx a s h σ g R (gr.trans g2) q, fun a s h σ g v w R g2 d q => k.rt a s h σ g v w R (gr.trans g2) d q, fun a s h σ g R g2 q => k.bk a s h σ g R (gr.trans g2) q, fun a s h σ g R g2 q => k.ct a s h σ g R (gr.trans g2) q⟩
def DSr (K : PySem.W.Frag) (τ : TS) (t : DSt) : Prop := ∀ (al : List Addr) (S F H : Hp) (σ : L2.St) (g : G) (D : De) (DV : Ends), Rep K al S F H σ g → t D g → Lk K al S F D DV → τ DV σ H
structure DS (X : Cx) (st : Stmt) (τ : TS) (t : DSt) : Prop where
  pe : PS X st τ
  r : DSr X.K τ t
structure DSs (X : Cx) (st : List Stmt) (τ : TS) (t : DSt) : Prop where
  pe : PSs X st τ
  r : DSr X.K τ t
section
variable {X : Cx} {st : Stmt} {rest : List Stmt} {τ τ' : TS} {t u : DSt} {e : Expr} {τe : TE} {te : Dt} {pos : Pos}
def dNext : DSt := fun D g => D.nx g
theorem r_next {K : PySem.W.Frag} : DSr K tNext dNext := fun al S F H σ g D DV R q k => k.nx _ _ _ _ _ R (Grow.refl _ _) q
theorem dss_nil : DSs X [] tNext dNext := ⟨pss_nil, r_next⟩
def dSeq (t u : DSt) : DSt := fun D g => t { D with nx := u D } g
theorem dss_cons (h1 : DS X st τ t) (h2 : DSs X rest τ' u) : DSs X (st :: rest) (tSeq τ τ') (dSeq t u) := by
  refine ⟨pss_cons h1.pe h2.pe, fun al S F H σ g D DV R q k => ?_⟩
  refine h1.r al S F H σ g { D with nx := u D } { DV with nx := τ' DV } R q ⟨fun al1 S1 H1 σ1 g1 R1 gr1 q1 => ?_, k.rt, k.bk, k.ct⟩
  exact h2.r al1 S1 F H1 σ1 g1 D DV R1 q1 (k.grow gr1)
theorem dss_one (h : DS X st τ t) : DSs X [st] τ t := ⟨pss_one h.pe, h.r⟩
theorem ds_pass : DS X (.Pass pos) tNext dNext := ⟨ps_pass, r_next⟩
def dBreak : DSt := fun D g => D.bk g
def dCont : DSt := fun D g => D.ct g
theorem ds_break : DS X (.Break pos) tBreak dBreak := ⟨ps_break, fun al S F H σ g D DV R q k => k.bk _ _ _ _ _ R (Grow.refl _ _) q⟩
theorem ds_continue : DS X (.Continue pos) tCont dCont := ⟨ps_continue, fun al S F H σ g D DV R q k => k.ct _ _ _ _ _ R (Grow.refl _ _) q⟩
def dNever : DSt := fun _ _ => False
theorem ds_never : DS X st tNever dNever := ⟨ps_never, fun al S F H σ g D DV R q k => q⟩
def dDrop (t : Dt) : DSt := fun D g => t g fun _ g1 => D.nx g1
theorem ds_expr (h : DE X e τe te) (hs : swapsWith e none pos.line X.env = pure false := by rfl) : DS X (.Expr e pos) (tDrop τe) (dDrop te) :=
  ⟨ps_expr h.pe hs, fun al S F H σ g D DV R q k => h.r al S F H σ g _ _ R q fun al1 S1 H1 g1 v1 w1 R1 gr1 e1 q1 => k.nx _ _ _ _ _ R1 gr1 q1⟩
def dRet (t : Dt) : DSt := fun D g => t g D.rt
theorem ds_ret (h : DE X e τe te) : DS X (.Return (some e) pos) (tRet τe) (dRet te) :=
  ⟨ps_ret h.pe, fun al S F H σ g D DV R q k => h.r al S F H σ g _ _ R q fun al1 S1 H1 g1 v1 w1 R1 gr1 e1 q1 => k.rt _ _ _ _ _ _ _ R1 gr1 e1 q1⟩
def dRetN : DSt := fun D g => D.rt (.t .non) g
theorem ds_retN : DS X (.Return none pos) tRetN dRetN := ⟨ps_retN, fun al S F H σ g D DV R q k => k.rt _ _ _ _ _ _ _ R (Grow.refl _ _) (by unfold DenW Den; rfl) q⟩
def dIfS (c : DTt) (t u : DSt) : DSt := fun D g => c g fun b g1 => if b = true then t D g1 else u D g1
theorem ds_if {c : Expr} {A B : List Stmt} {τc : TT} {tc : DTt} (hc : DT X c τc tc) (ha : DSs X A τ t) (hb : DSs X B τ' u) : DS X (.If c A B pos) (tIfS τc τ τ') (dIfS tc t u) := by
  refine ⟨ps_if hc.pe ha.pe hb.pe, fun al S F H σ g D DV R q k => ?_⟩
  refine hc.r al S F H σ g _ _ R q fun al1 S1 H1 g1 b1 R1 gr1 q1 => ?_
  cases b1 with
  | true =>
    simp only [if_true] at q1 ⊢
    exact ha.r al1 S1 F H1 σ g1 _ _ R1 q1 (k.grow gr1)
  | false =>
    simp only [Bool.false_eq_true, if_false] at q1 ⊢
    exact hb.r al1 S1 F H1 σ g1 _ _ R1 q1 (k.grow gr1)
/-! targets -/
abbrev DGt := W → G → (G → Prop) → Prop
def DGr (K : PySem.W.Frag) (τ : TG) (t : DGt) : Prop := ∀ (al : List Addr) (S F H : Hp) (σ : L2.St) (g : G) (v : V) (w : W) (Q : G → Prop) (QV : L2.St → Hp → Prop), Rep K al S F H σ g → DenW K al S w v → t w g Q →
  (∀ al' S' H' σ' g', Rep K al' S' F H' σ' g' → Grow al S al' S' → Q g' → QV σ' H') → τ v σ H QV
structure DG (X : Cx) (tg : Expr) (τ : TG) (t : DGt) : Prop where
  pe : PG X tg τ
  r : DGr X.K τ t
abbrev DGst := List T → G → (G → Prop) → Prop
structure DGs (X : Cx) (tg : List Expr) (τ : TGs) (t : DGst) : Prop where
  pe : PGs X tg τ
  r : ∀ (al : List Addr) (S F H : Hp) (σ : L2.St) (g : G) (vs : List V) (ws : List T) (Q : G → Prop) (QV : L2.St → Hp → Prop), Rep X.K al S F H σ g → Paired (Den X.K S) ws vs → t ws g Q →
    (∀ al' S' H' σ' g', Rep X.K al' S' F H' σ' g' → Grow al S al' S' → Q g' → QV σ' H') → τ vs σ H QV
def dgN (i : Nat) : DGt := fun w g Q => Q (g.set i w)
theorem dg_name (i : Nat) {x : Str} {ps : Pos} (hN : X.N.Nodup) (hi : X.N[i]? = some x := by rfl) (hx : Loc X.env.scope x := by first | exact Or.inl rfl | exact Or.inr rfl) (hf : X.fn x = true ∨ X.env.scope.names.lookup x = some .local := by first | exact .inl rfl | exact .inr rfl | assumption) : DG X (.Name x ps) (gName i) (dgN i) :=
  ⟨pg_name hN hi hx hf, fun al S F H σ g v w Q QV R d q k => k _ _ _ _ _ (R.setSlot d) (Grow.refl _ _) q⟩
def dgNil : DGst := fun ws g Q => match ws with | [] => Q g | _ => False
def dgCons (t : DGt) (u : DGst) : DGst := fun ws g Q => match ws with | w :: r => t (.t w) g fun g1 => u r g1 Q | _ => False
theorem dgs_nil : DGs X [] gNil dgNil := by
  refine ⟨pgs_nil, fun al S F H σ g vs ws Q QV R d q k => ?_⟩
  cases d with
  | nil => exact ⟨rfl, k _ _ _ _ _ R (Grow.refl _ _) q⟩
  | cons _ _ => exact q.elim
theorem dgs_cons {e : Expr} {es : List Expr} {τ1 : TG} {t1 : DGt} {τ2 : TGs} {t2 : DGst} (h1 : DG X e τ1 t1) (h2 : DGs X es τ2 t2)
    (hs : (assignEach (e :: es) X.env).map (·.2) = assign e X.env :: (assignEach es X.env).map (·.2) := by rfl) : DGs X (e :: es) (gCons τ1 τ2) (dgCons t1 t2) := by
  refine ⟨pgs_cons h1.pe h2.pe hs, fun al S F H σ g vs ws Q QV R d q k => ?_⟩
  cases d with
  | nil => exact q.elim
  | cons d1 d2 =>
    refine ⟨_, _, rfl, ?_⟩
    refine h1.r al S F H σ g _ (.t _) _ _ R d1 q fun al1 S1 H1 σ1 g1 R1 gr1 q1 => ?_
    exact h2.r al1 S1 F H1 σ1 g1 _ _ Q QV R1 (Denp.grow gr1.s d2) q1 fun al2 S2 H2 σ2 g2 R2 gr2 q2 => k _ _ _ _ _ R2 (gr1.trans gr2) q2
def dgTup (n : Nat) (t : DGst) : DGt := fun w g Q => match w with | .t (.tup ts) => ts.length = n ∧ t ts g Q | _ => False
theorem dg_tup {es : List Expr} {kk : Nat} {ps : Pos} {τ1 : TGs} {t1 : DGst} {n : Nat} (hc : X.calm = true) (h : DGs X es τ1 t1)
    (hn : (assignEach es X.env).length = n := by rfl) (hst : (assignEach es X.env).findIdx? (·.1) = none := by rfl) : DG X (.Tuple es kk ps) (gTup X.K n τ1) (dgTup n t1) := by
  refine ⟨pg_tup hc h.pe hn hst, fun al S F H σ g v w Q QV R d q k => ?_⟩
  unfold dgTup at q
  split at q
  · rename_i ts
    unfold DenW Den at d
    obtain ⟨p, vs, rfl, h1, h2⟩ := d
    have h2' := Dens.iff.mp h2
    exact ⟨p, vs, rfl, seqT R.same h1, by rw [← h2'.length]; exact q.1, h.r al S F H σ g vs ts Q QV R h2' q.2 k⟩
  · exact q.elim
/-- x[i] = v, x a list's cell -/
def dgSub (to ti : Dt) : DGt := fun w g Q => to g fun o g1 => ti g1 fun i g2 => match o, i with
  | .h n, .t (.int z) => (match g2.mem[n]? with
    | some (some (.lt ts)) => (match w with | .t tw => ∃ j, ixN ts.length z = some j ∧ Q (g2.put n (.lt (ts.set j tw))) | _ => False)
    | some (some (.lw us)) => ∃ j, ixN us.length z = some j ∧ Q (g2.put n (.lw (us.set j w)))
    | _ => False)
  | _, _ => False
theorem dg_sub {o i : Expr} {τo τi : TE} {to ti : Dt} {ps : Pos} (ho : DE X o τo to) (hi : DE X i τi ti)
    (ha : ∀ v, assign (.Subscript o i ps) X.env v = (do
      let ov ← holding [v] (eval o X.env)
      let iv ← holding [v, ov] (eval i X.env)
      standAt ps
      holding [v, ov, iv] (setItem ov iv v)
      release [v, ov, iv] []) := by intro _; rfl) : DG X (.Subscript o i ps) (gSub τo τi rSetL) (dgSub to ti) := by
  refine ⟨pg_sub ho.pe hi.pe set_list ha, fun al S F H σ g v w Q QV R d q k => ?_⟩
  refine ho.r al S F H σ g _ _ R q fun al1 S1 H1 g1 v1 w1 R1 gr1 e1 q1 => ?_
  refine hi.r al1 S1 F H1 σ g1 _ _ R1 q1 fun al2 S2 H2 g2 v2 w2 R2 gr2 e2 q2 => ?_
  have gr := gr1.trans gr2
  split at q2
  · rename_i n z
    unfold DenW Den at e2
    subst e2
    split at q2
    · rename_i ts em
      split at q2
      · rename_i tw
        obtain ⟨j, hj, q2⟩ := q2
        obtain ⟨p, o, rfl, ea, h1, vs, rfl, h2⟩ := R2.cellH (e1.grow gr2) em
        refine ⟨p, vs, z, j, rfl, rfl, h1, by rw [← h2.length]; exact hj, ?_⟩
        have dt : Den X.K S2 tw v := d.grow gr
        exact k _ _ _ _ _ (R2.putC (c := .lt (ts.set j tw)) (o := .lst (vs.set j v)) em ea ⟨_, rfl, pset dt j h2⟩) gr q2
      · exact q2.elim
    · rename_i us em
      obtain ⟨j, hj, q2⟩ := q2
      obtain ⟨p, o, rfl, ea, h1, vs, rfl, h2⟩ := R2.cellH (e1.grow gr2) em
      refine ⟨p, vs, z, j, rfl, rfl, h1, by rw [← h2.length]; exact hj, ?_⟩
      exact k _ _ _ _ _ (R2.putC (c := .lw (us.set j w)) (o := .lst (vs.set j v)) em ea ⟨_, rfl, pset (d.grow gr) j h2⟩) gr q2
    · exact q2.elim
  · exact q2.elim
def dAsg (te : Dt) (t : DGt) : DSt := fun D g => te g fun w g1 => t w g1 D.nx
theorem ds_asg {tg : Expr} {τg : TG} {tg' : DGt} (he : DE X e τe te) (hg : DG X tg τg tg') (hs : swapsWithSole [tg] e pos.line X.env = pure false := by rfl) (hw : swappedStores [tg] e X.env = pure none := by rfl)
    (h1 : (assignEach [tg] X.env).map (·.2) = [assign tg X.env] := by rfl) : DS X (.Assign [tg] e pos) (tAsg τe τg) (dAsg te tg') := by
  refine ⟨ps_asg he.pe hg.pe hs hw h1, fun al S F H σ g D DV R q k => ?_⟩
  refine he.r al S F H σ g _ _ R q fun al1 S1 H1 g1 v1 w1 R1 gr1 e1 q1 => ?_
  exact hg.r al1 S1 F H1 σ g1 v1 w1 _ _ R1 e1 q1 fun al2 S2 H2 σ2 g2 R2 gr2 q2 => k.nx _ _ _ _ _ R2 (gr1.trans gr2) q2
theorem ds_set (i : Nat) {x : Str} {ps : Pos} (hN : X.N.Nodup) (he : DE X e τe te) (hi : X.N[i]? = some x := by rfl) (hx : Loc X.env.scope x := by first | exact Or.inl rfl | exact Or.inr rfl) (hs : swapsWith e (some (.Name x ps)) pos.line X.env = pure false := by rfl) (hf : X.fn x = true ∨ X.env.scope.names.lookup x = some .local := by first | exact .inl rfl | exact .inr rfl | assumption) :
    DS X (.Assign [.Name x ps] e pos) (tAsg τe (gName i)) (dAsg te (dgN i)) := by
  refine ⟨ps_set hN hi hx he.pe hs hf, fun al S F H σ g D DV R q k => ?_⟩
  refine he.r al S F H σ g _ _ R q fun al1 S1 H1 g1 v1 w1 R1 gr1 e1 q1 => ?_
  exact k.nx _ _ _ _ _ (R1.setSlot e1) gr1 q1
/-- x += e, x -= e: ints -/
def dAug (i : Nat) (f : Int → Int → Int) (te : Dt) : DSt := fun D g => match g.sl[i]? with
  | some (some (.t (.int a))) => te g fun w g1 => (match w with | .t (.int b) => D.nx (g1.set i (.t (.int (f a b)))) | _ => False)
  | _ => False
theorem ds_aug (i : Nat) {f : Int → Int → Int} {op : Operator} {x : Str} {ps : Pos} (hop : PIp X op (ipI f)) (hN : X.N.Nodup) (he : DE X e τe te) (hi : X.N[i]? = some x := by rfl) (hx : Loc X.env.scope x := by first | exact Or.inl rfl | exact Or.inr rfl) (hf : X.fn x = true ∨ X.env.scope.names.lookup x = some .local := by first | exact .inl rfl | exact .inr rfl | assumption) :
    DS X (.AugAssign (.Name x ps) op e pos) (tAug i τe (ipI f)) (dAug i f te) := by
  refine ⟨ps_aug hN hi hx he.pe hop hf, fun al S F H σ g D DV R q k => ?_⟩
  unfold dAug at q
  split at q
  · rename_i z ez
    obtain ⟨v, hv, dv⟩ := R.slot i _ ez
    refine ⟨v, hv, ?_⟩
    refine he.r al S F H σ g _ _ R q fun al1 S1 H1 g1 v1 w1 R1 gr1 e1 q1 => ?_
    split at q1
    · rename_i y
      unfold DenW Den at e1 dv
      exact ⟨z, y, dv, e1, k.nx _ _ _ _ _ (R1.setSlot (w := .t (.int (f z y))) (by unfold DenW Den; rfl)) gr1 q1⟩
    · exact q1.elim
  · exact q.elim
/-- d[k] = v, d a dict's cell -/
def dDput (td ty tv : Dt) : DSt := fun D g => tv g fun w g1 => td g1 fun o g2 => ty g2 fun y g3 => match o, y with
  | .h n, .t ky => (match keyT ky with
    | some k => (match g3.mem[n]? with
      | some (some (.dt ks ts)) => (match w with | .t tw => ks.length < sizeLine ∧ D.nx (g3.put n (.dt (putKs ks k) (putXs ks ts k tw))) | _ => False)
      | some (some (.dw ks us)) => ks.length < sizeLine ∧ D.nx (g3.put n (.dw (putKs ks k) (putXs ks us k w)))
      | _ => False)
    | none => False)
  | _, _ => False
theorem ds_dput {o i : Expr} {τd τy : TE} {td ty : Dt} {ps : Pos} {kk : Nat} (hr : Room kk X.A) (ho : DE X o τd td) (hi : DE X i τy ty) (hv : DE X e τe te) (hs : swapsWith e (some (.Subscript o i ps)) pos.line X.env = pure false := by rfl) :
    DS X (.Assign [.Subscript o i ps] e pos) (sDPut τd τy τe) (dDput td ty te) := by
  refine ⟨ps_dput (hu_of hr) ho.pe hi.pe hv.pe hs, fun al S F H σ g D DV R q k => ?_⟩
  refine hv.r al S F H σ g _ _ R q fun al1 S1 H1 g1 v1 w1 R1 gr1 e1 q1 => ?_
  refine ho.r al1 S1 F H1 σ g1 _ _ R1 q1 fun al2 S2 H2 g2 v2 w2 R2 gr2 e2 q2 => ?_
  refine hi.r al2 S2 F H2 σ g2 _ _ R2 q2 fun al3 S3 H3 g3 v3 w3 R3 gr3 e3 q3 => ?_
  have gr := gr1.trans (gr2.trans gr3)
  split at q3
  · rename_i n ky
    split at q3
    · rename_i key ek
      have ev := key_den ek e3
      subst ev
      split at q3
      · rename_i ks ts em
        split at q3
        · rename_i tw
          obtain ⟨p, o, rfl, ea, h1, vs, rfl, h2, h3⟩ := R3.cellH (e2.grow gr3) em
          have hl : ks.length = vs.length := by rw [h2, h3.length]
          have dt : Den X.K S3 tw v1 := e1.grow (gr2.trans gr3)
          have hz : (ks.zip vs).length < sizeLine := by rw [List.length_zip, ← hl, Nat.min_self]; exact q3.1
          refine ⟨p, _, rfl, DPut.k h1 hz, ?_⟩
          rw [putK_zip hl]
          refine k.nx _ _ _ _ _ (R3.putC (c := .dt (putKs ks key) (putXs ks ts key tw)) em ea ⟨_, rfl, putX_len h2, putX_pair dt h3⟩) gr q3.2
        · exact q3.elim
      · rename_i ks ts em
        obtain ⟨p, o, rfl, ea, h1, vs, rfl, h2, h3⟩ := R3.cellH (e2.grow gr3) em
        have hl : ks.length = vs.length := by rw [h2, h3.length]
        have dt := e1.grow (gr2.trans gr3)
        have hz : (ks.zip vs).length < sizeLine := by rw [List.length_zip, ← hl, Nat.min_self]; exact q3.1
        refine ⟨p, _, rfl, DPut.k h1 hz, ?_⟩
        rw [putK_zip hl]
        refine k.nx _ _ _ _ _ (R3.putC (c := .dw (putKs ks key) (putXs ks ts key w1)) em ea ⟨_, rfl, putX_len h2, putX_pair dt h3⟩) gr q3.2
      · exact q3.elim
    · exact q3.elim
  · exact q3.elim
/-! while -/
def dWhile (c : DTt) (tb : DSt) : DSt := fun D g => ∃ I : Nat → G → Prop, (∃ m, I m g) ∧ ∀ m g', I m g' → c g' fun b g1 => if b = true then tb { D with nx := fun g2 => ∃ m', m' < m ∧ I m' g2, ct := fun g2 => ∃ m', m' < m ∧ I m' g2, bk := D.nx } g1 else D.nx g1
theorem ds_while {c : Expr} {body : List Stmt} {τc : TT} {tc : DTt} (hc : DT X c τc tc) (hb : DSs X body τ t) (hp : PassesOwn (model X.prog X.w) X.A X.env X.xe := by exact PassesOwn.never) : DS X (.While c body [] pos) (tWhile τc τ) (dWhile tc t) := by
  refine ⟨ps_while hp hc.pe hb.pe, fun al S F H σ g D DV R q k => ?_⟩
  obtain ⟨I, ⟨m0, i0⟩, turn⟩ := q
  refine ⟨fun m σ' H' => ∃ al' S' g', Rep X.K al' S' F H' σ' g' ∧ Grow al S al' S' ∧ I m g', ⟨m0, al, S, g, R, Grow.refl _ _, i0⟩, ?_⟩
  rintro m σ1 H1 ⟨al1, S1, g1, R1, gr1, i1⟩
  refine hc.r al1 S1 F H1 σ1 g1 _ _ R1 (turn m g1 i1) fun al2 S2 H2 g2 b2 R2 gr2 q2 => ?_
  have gr := gr1.trans gr2
  cases b2 with
  | true =>
    simp only [if_true] at q2 ⊢
    refine ⟨fun σ' H' => ∃ m' al' S' g', m' < m ∧ Rep X.K al' S' F H' σ' g' ∧ Grow al S al' S' ∧ I m' g', fun σ' H' ⟨m', al', S', g', hm, R', gr', i'⟩ => ⟨m', hm, al', S', g', R', gr', i'⟩, ?_⟩
    refine hb.r al2 S2 F H2 σ1 g2 _ _ R2 q2 ⟨fun al' S' H' σ' g' R' gr' ⟨m', hm, i'⟩ => ⟨m', al', S', g', hm, R', gr.trans gr', i'⟩, fun al' S' H' σ' g' v w R' gr' d' q' => k.rt _ _ _ _ _ _ _ R' (gr.trans gr') d' q', fun al' S' H' σ' g' R' gr' q' => k.nx _ _ _ _ _ R' (gr.trans gr') q', fun al' S' H' σ' g' R' gr' ⟨m', hm, i'⟩ => ⟨m', al', S', g', hm, R', gr.trans gr', i'⟩⟩
  | false =>
    simp only [Bool.false_eq_true, if_false] at q2 ⊢
    exact k.nx _ _ _ _ _ R2 gr q2
/-! what is walked -/
def IterOk (K : PySem.W.Frag) (J : It) (ws : List W) (St : G → Prop) (al : List Addr) (S : Hp) : Prop := ∀ (al' : List Addr) (S' F' H' : Hp) (σ' : L2.St) (g' : G) (i : Nat), Rep K al' S' F' H' σ' g' → Grow al S al' S' → St g' →
  (∀ w, ws[i]? = some w → J.go i H' ∧ ∀ x H'', J.yld i H' x H'' → ∃ al'' S'', Rep K al'' S'' F' H'' σ' g' ∧ Grow al' S' al'' S'' ∧ DenW K al'' S'' w x) ∧ (ws.length ≤ i → J.stop i H')
abbrev DIt := G → (List W → (G → Prop) → G → Prop) → Prop
structure DI (X : Cx) (tg iter : Expr) (wi : TI) (t : DIt) : Prop where
  pe : PI X tg iter wi
  r : ∀ (al : List Addr) (S F H : Hp) (σ : L2.St) (g : G) (Q : List W → (G → Prop) → G → Prop) (QV : It → Hp → Prop), Rep X.K al S F H σ g → t g Q →
    (∀ al' S' H' g' J ws St, Rep X.K al' S' F H' σ g' → Grow al S al' S' → IterOk X.K J ws St al' S' → Q ws St g' → QV J H') → wi σ H QV
def diL (t : Dt) : DIt := fun g Q => t g fun w g1 => match g1.lq? w with
  | some ts => Q (ts.map W.t) (fun g' => g'.lq? w = some ts) g1
  | none => (match g1.wseq? w with | some ws => Q ws (fun g' => g'.wseq? w = some ws) g1 | none => False)
variable {tg iter : Expr}
theorem di_list (h : DE X iter τe te) : DI X tg iter (iList X.K τe) (diL te) := by
  refine ⟨pi_list h.pe, fun al S F H σ g Q QV R q k => ?_⟩
  refine h.r al S F H σ g _ _ R q fun al1 S1 H1 g1 v1 w1 R1 gr1 e1 q1 => ?_
  split at q1
  · rename_i ts e
    obtain ⟨a, vs, rfl, h1, h2⟩ := R1.viewQ e1 e
    refine ⟨a, rfl, ⟨vs, h1⟩, k _ _ _ _ _ _ _ R1 gr1 ?_ q1⟩
    intro al' S' F' H' σ' g' i R' gr' st
    obtain ⟨a', vs', ea, h3, h4⟩ := R'.viewQ (e1.grow gr') st
    cases ea
    refine ⟨fun w hw => ?_, fun hi => ?_⟩
    · rw [List.getElem?_map] at hw
      cases et : ts[i]? with
      | none => rw [et] at hw; cases hw
      | some t =>
        rw [et] at hw; cases hw
        obtain ⟨v, ev, dv⟩ := pget h4 et
        refine ⟨⟨vs', v, h3, ev⟩, fun x H'' ⟨eH, hx⟩ => ?_⟩
        subst eH
        have := hx vs' h3
        rw [ev] at this; cases this
        exact ⟨al', S', R', Grow.refl _ _, dv⟩
    · refine ⟨vs', h3, ?_⟩
      rw [List.length_map, h4.length] at hi
      exact hi
  · split at q1
    · rename_i ws e
      obtain ⟨a, vs, rfl, h1, h2⟩ := R1.viewW e1 e
      refine ⟨a, rfl, ⟨vs, .inl (.inl h1)⟩, k _ _ _ _ _ _ _ R1 gr1 ?_ q1⟩
      intro al' S' F' H' σ' g' i R' gr' st
      obtain ⟨a', vs', ea, h3, h4⟩ := R'.viewW (e1.grow gr') st
      cases ea
      refine ⟨fun w hw => ?_, fun hi => ?_⟩
      · obtain ⟨v, ev, dv⟩ := pget h4 hw
        refine ⟨⟨vs', v, .inl (.inl h3), ev⟩, fun x H'' ⟨eH, hx⟩ => ?_⟩
        subst eH
        have := hx vs' (.inl (.inl h3))
        rw [ev] at this; cases this
        exact ⟨al', S', R', Grow.refl _ _, dv⟩
      · refine ⟨vs', .inl (.inl h3), ?_⟩
        rw [h4.length] at hi
        exact hi
    · exact q1.elim
def diT (t : Dt) : DIt := fun g Q => t g fun w g1 => match w with | .t (.tup ts) => Q (ts.map W.t) (fun _ => True) g1 | _ => False
theorem di_tup (h : DE X iter τe te) : DI X tg iter (iTup X.K τe) (diT te) := by
  refine ⟨pi_tup h.pe, fun al S F H σ g Q QV R q k => ?_⟩
  refine h.r al S F H σ g _ _ R q fun al1 S1 H1 g1 v1 w1 R1 gr1 e1 q1 => ?_
  split at q1
  · rename_i ts
    have e0 := e1
    unfold DenW Den at e1
    obtain ⟨a, vs, rfl, h1, h2⟩ := e1
    refine ⟨a, rfl, ⟨vs, seqT R1.same h1⟩, k _ _ _ _ _ _ _ R1 gr1 ?_ q1⟩
    intro al' S' F' H' σ' g' i R' gr' _
    have h3 := seqT R'.same (seqT gr'.s h1)
    have h4 := Denp.grow gr'.s (Dens.iff.mp h2)
    refine ⟨fun w hw => ?_, fun hi => ?_⟩
    · rw [List.getElem?_map] at hw
      cases et : ts[i]? with
      | none => rw [et] at hw; cases hw
      | some t =>
        rw [et] at hw; cases hw
        obtain ⟨v, ev, dv⟩ := pget h4 et
        refine ⟨⟨vs, v, h3, ev⟩, fun x H'' ⟨eH, hx⟩ => ?_⟩
        subst eH
        have := hx vs h3
        rw [ev] at this; cases this
        exact ⟨al', S', R', Grow.refl _ _, dv⟩
    · refine ⟨vs, h3, ?_⟩
      rw [List.length_map, h4.length] at hi
      exact hi
  · exact q1.elim
def rgW (lo : Int) (n : Nat) : List W := (List.range n).map fun k => W.t (.int (lo + (k : Nat)))
theorem iter_range {K : PySem.W.Frag} {al : List Addr} {S : Hp} (lo : Int) (n : Nat) : IterOk K (Itr lo n) (rgW lo n) (fun _ => True) al S := by
  intro al' S' F' H' σ' g' i R' gr' _
  unfold rgW
  refine ⟨fun w hw => ?_, fun hi => ?_⟩
  · rw [List.getElem?_map] at hw
    by_cases hi : i < n
    · rw [List.getElem?_range hi] at hw
      cases hw
      refine ⟨hi, fun x H'' ⟨eH, ex⟩ => ?_⟩
      subst eH ex
      exact ⟨al', S', R', Grow.refl _ _, by unfold DenW Den; rfl⟩
    · rw [List.getElem?_eq_none (by simpa using hi)] at hw; cases hw
  · rw [List.length_map, List.length_range] at hi
    exact hi
def diR1 (t : DAt) : DIt := fun g Q => t g fun ws g1 => match ws with | [.t (.int j)] => (-(2 ^ 62) ≤ j ∧ j < 2 ^ 62) ∧ Q (rgW 0 j.toNat) (fun _ => True) g1 | _ => False
def diR2 (t : DAt) : DIt := fun g Q => t g fun ws g1 => match ws with | [.t (.int i), .t (.int j)] => (-(2 ^ 62) ≤ i ∧ i < 2 ^ 62 ∧ -(2 ^ 62) ≤ j ∧ j < 2 ^ 62) ∧ Q (rgW i (j - i).toNat) (fun _ => True) g1 | _ => False
theorem di_range1 {a : Expr} {τs : TA} {ts : DAt} {p : Pos} (hm : X.mg "range" = none) (ha : DA X [a] τs ts) (hg : Gl X "range" := by rfl) (hs : starEach [a] X.env = [(false, eval a X.env)] := by rfl) : DI X tg (.Call (.Name "range" p) [a] [] pos) (iRng1 τs) (diR1 ts) := by
  refine ⟨pi_range1 hg hm ha.pe hs, fun al S F H σ g Q QV R q k => ?_⟩
  refine ha.r al S F H σ g _ _ R q fun al1 S1 H1 g1 vs ws R1 gr1 e1 q1 => ?_
  split at q1
  · obtain ⟨v, rfl, d⟩ := p1 e1
    unfold DenW Den at d
    subst d
    exact ⟨_, rfl, q1.1.1, q1.1.2, k _ _ _ _ _ _ _ R1 gr1 (iter_range _ _) q1.2⟩
  · exact q1.elim
theorem di_range2 {a b : Expr} {τs : TA} {ts : DAt} {p : Pos} (hm : X.mg "range" = none) (ha : DA X [a, b] τs ts) (hg : Gl X "range" := by rfl) (hs : starEach [a, b] X.env = [(false, eval a X.env), (false, eval b X.env)] := by rfl) (hs2 : starEach [b] X.env = [(false, eval b X.env)] := by rfl) : DI X tg (.Call (.Name "range" p) [a, b] [] pos) (iRng2 τs) (diR2 ts) := by
  refine ⟨pi_range2 hg hm ha.pe hs hs2, fun al S F H σ g Q QV R q k => ?_⟩
  refine ha.r al S F H σ g _ _ R q fun al1 S1 H1 g1 vs ws R1 gr1 e1 q1 => ?_
  split at q1
  · obtain ⟨u, v, rfl, d1, d2⟩ := p2 e1
    unfold DenW Den at d1 d2
    subst d1 d2
    exact ⟨_, _, rfl, q1.1, k _ _ _ _ _ _ _ R1 gr1 (iter_range _ _) q1.2⟩
  · exact q1.elim
/-! for -/
def dFor (it : DIt) (gt : DGt) (tb : DSt) : DSt := fun D g => it g fun ws St g1 => ∃ I : Nat → G → Prop, I 0 g1 ∧ (∀ i g', I i g' → St g') ∧
  (∀ i w g', ws[i]? = some w → I i g' → gt w g' fun g2 => tb { D with nx := I (i + 1), ct := I (i + 1), bk := D.nx } g2) ∧ (∀ g', I ws.length g' → D.nx g')
theorem ds_for {body : List Stmt} {wi : TI} {it : DIt} {τg : TG} {gt : DGt} (hc : X.calm = true) (hi : DI X tg iter wi it) (hg : DG X tg τg gt) (hb : DSs X body τ t) (hp : PassesOwn (model X.prog X.w) X.A X.env X.xe := by exact PassesOwn.never)
    (hs : ∀ x, foldedSetIterable iter X.env x = pure x := by intro _; rfl) : DS X (.For tg iter body [] pos) (tFor wi τg τ) (dFor it gt t) := by
  refine ⟨ps_for hp hc hi.pe hg.pe hb.pe hs, fun al S F H σ g D DV R q k => ?_⟩
  refine hi.r al S F H σ g _ _ R q fun al1 S1 H1 g1 J ws St R1 gr1 ok q1 => ?_
  obtain ⟨I, i0, hst, turn, done⟩ := q1
  refine ⟨fun i m σ' H' => ∃ al' S' g', Rep X.K al' S' F H' σ' g' ∧ Grow al1 S1 al' S' ∧ I i g' ∧ i + m = ws.length, ⟨ws.length, al1, S1, g1, R1, Grow.refl _ _, i0, by omega⟩, ?_⟩
  rintro i m σ2 H2 ⟨al2, S2, g2, R2, gr2, i2, em⟩
  obtain ⟨hgo, hstop⟩ := ok al2 S2 F H2 σ2 g2 i R2 gr2 (hst i g2 i2)
  by_cases hi : i < ws.length
  · have hw : ws[i]? = some ws[i] := List.getElem?_eq_getElem hi
    obtain ⟨go, hy⟩ := hgo _ hw
    refine .inr ⟨go, fun σ' H' => ∃ al' S' g', Rep X.K al' S' F H' σ' g' ∧ Grow al1 S1 al' S' ∧ I (i + 1) g', fun σ' H' ⟨al', S', g', R', gr', i'⟩ => ⟨m - 1, by omega, al', S', g', R', gr', i', by omega⟩, fun x H' y => ?_⟩
    obtain ⟨al3, S3, R3, gr3, d3⟩ := hy x H' y
    refine hg.r al3 S3 F H' σ2 g2 x _ _ _ R3 d3 (turn i _ g2 hw i2) fun al4 S4 H4 σ4 g4 R4 gr4 q4 => ?_
    have gr := gr2.trans (gr3.trans gr4)
    exact hb.r al4 S4 F H4 σ4 g4 _ _ R4 q4 ⟨fun al' S' H' σ' g' R' gr' i' => ⟨al', S', g', R', gr.trans gr', i'⟩, fun al' S' H' σ' g' v w R' gr' d' q' => k.rt _ _ _ _ _ _ _ R' (gr1.trans (gr.trans gr')) d' q', fun al' S' H' σ' g' R' gr' q' => k.nx _ _ _ _ _ R' (gr1.trans (gr.trans gr')) q', fun al' S' H' σ' g' R' gr' i' => ⟨al', S', g', R', gr.trans gr', i'⟩⟩
  · refine .inl ⟨hstop (by omega), ?_⟩
    have e : i = ws.length := by omega
    subst e
    exact k.nx _ _ _ _ _ R2 (gr1.trans gr2) (done g2 i2)
end
end DL

namespace DL
open PySem PySem.Spec L2

/-! the frame: cells that nobody here touches -/
section
variable {K : PySem.W.Frag} {al : List Addr} {S F H : Hp} {m : Sto} {σ : L2.St} {g : G}
theorem upd_at {F : Hp} {D b : Addr} {o : HO} : upd F D o b = if b = D then some o else F b := rfl
theorem RepM.frNew (R : RepM K al S F H m) {D : Addr} {o : HO} (nD : H D = none) : RepM K al S (upd F D o) (upd H D o) m := by
  refine ⟨fun b u e => ?_, fun b u e => ?_, fun b u e => ?_, R.len, fun n c e => ?_, R.inj⟩
  · rw [upd_ne (ne_of_none (R.same _ _ e) nD)]; exact R.same b u e
  · by_cases hb : b = D
    · subst hb; rw [upd_same] at e ⊢; exact e
    · rw [upd_ne hb] at e ⊢; exact R.fr b u e
  · rw [upd_ne (ne_of_none (R.same _ _ e) nD)]; exact R.dis b u e
  · obtain ⟨a, o', h1, h2, h3, h4, h5⟩ := R.cell n c e
    have na : a ≠ D := ne_of_none h4 nD
    exact ⟨a, o', h1, h2, by rw [upd_ne na]; exact h3, by rw [upd_ne na]; exact h4, h5⟩
theorem RepM.frPut {D : Addr} {o o' : HO} (R : RepM K al S (upd F D o) H m) : RepM K al S (upd F D o') (upd H D o') m := by
  have hS : ∀ b u, S b = some u → b ≠ D := fun b u e z => by subst z; have := R.dis b u e; rw [upd_same] at this; cases this
  refine ⟨fun b u e => ?_, fun b u e => ?_, fun b u e => ?_, R.len, fun n c e => ?_, R.inj⟩
  · rw [upd_ne (hS b u e)]; exact R.same b u e
  · by_cases hb : b = D
    · subst hb; rw [upd_same] at e ⊢; exact e
    · rw [upd_ne hb] at e ⊢; exact R.fr b u (by rw [upd_ne hb]; exact e)
  · have := R.dis b u e
    rw [upd_ne (hS b u e)] at this ⊢; exact this
  · obtain ⟨a, o2, h1, h2, h3, h4, h5⟩ := R.cell n c e
    have na : a ≠ D := fun z => by subst z; rw [upd_same] at h3; cases h3
    exact ⟨a, o2, h1, h2, by rw [upd_ne na] at h3 ⊢; exact h3, by rw [upd_ne na]; exact h4, h5⟩
/-- the framed thing becomes stable -/
theorem RepM.frS {D : Addr} {o : HO} (R : RepM K al S (upd F D o) H m) (nF : F D = none) : RepM K al (upd S D o) F H m ∧ Grow al S al (upd S D o) := by
  have hS : ∀ b u, S b = some u → b ≠ D := fun b u e z => by subst z; have := R.dis b u e; rw [upd_same] at this; cases this
  have gr : Grow al S al (upd S D o) := ⟨⟨[], by simp⟩, fun b u e => by rw [upd_ne (hS b u e)]; exact e⟩
  refine ⟨⟨fun b u e => ?_, fun b u e => ?_, fun b u e => ?_, R.len, fun n c e => ?_, R.inj⟩, gr⟩
  · by_cases hb : b = D
    · subst hb; rw [upd_same] at e; cases e; exact R.fr _ _ upd_same
    · rw [upd_ne hb] at e; exact R.same b u e
  · exact R.fr b u (by rw [upd_ne (ne_of_none e nF)]; exact e)
  · by_cases hb : b = D
    · subst hb; exact nF
    · rw [upd_ne hb] at e
      have := R.dis b u e
      rw [upd_ne hb] at this; exact this
  · obtain ⟨a, o2, h1, h2, h3, h4, h5⟩ := R.cell n c e
    have na : a ≠ D := fun z => by subst z; rw [upd_same] at h3; cases h3
    exact ⟨a, o2, h1, by rw [upd_ne na]; exact h2, by rw [upd_ne na] at h3; exact h3, h4, h5.grow gr⟩
/-- the framed thing becomes a cell -/
theorem RepM.frC {D : Addr} {o : HO} {c : Cell} (R : RepM K al S (upd F D o) H m) (nF : F D = none) (ok : CellOk K (al ++ [D]) S c o) : RepM K (al ++ [D]) S F H (m ++ [some c]) ∧ Grow al S (al ++ [D]) S := by
  have hS : ∀ b u, S b = some u → b ≠ D := fun b u e z => by subst z; have := R.dis b u e; rw [upd_same] at this; cases this
  have nS : S D = none := by
    cases e : S D with
    | none => rfl
    | some u => exact absurd rfl (hS D u e)
  have gr : Grow al S (al ++ [D]) S := ⟨⟨[D], rfl⟩, Same.refl S⟩
  have hold : ∀ (n : Nat) (c' : Cell), (m ++ [some c])[n]? = some (some c') → (n < m.length ∧ m[n]? = some (some c')) ∨ (n = m.length ∧ c' = c) := fun n c' e => by
    rcases Nat.lt_or_ge n m.length with q | q
    · rw [List.getElem?_append_left q] at e; exact .inl ⟨q, e⟩
    · rw [List.getElem?_append_right q] at e
      rcases Nat.eq_or_lt_of_le q with q' | q'
      · subst q'; simp at e; exact .inr ⟨rfl, e.symm⟩
      · rw [List.getElem?_eq_none (by simp; omega)] at e; cases e
  have atE : (al ++ [D])[m.length]? = some D := by rw [List.getElem?_append_right (by rw [R.len]; exact Nat.le_refl _), R.len]; simp
  have atN : ∀ (n : Nat), n < m.length → (al ++ [D])[n]? = al[n]? := fun n hn => List.getElem?_append_left (by rw [R.len]; exact hn)
  have notD : ∀ (n : Nat) (c' : Cell), m[n]? = some (some c') → al[n]? ≠ some D := fun n c' e z => by
    obtain ⟨a, o2, h1, h2, h3, h4, h5⟩ := R.cell n c' e
    rw [z] at h1; cases h1; rw [upd_same] at h3; cases h3
  refine ⟨⟨R.same, fun b u e => R.fr b u (by rw [upd_ne (ne_of_none e nF)]; exact e), fun b u e => ?_, by simp [R.len], fun n c' e => ?_, fun n k c1 c2 a e1 e2 e3 e4 => ?_⟩, gr⟩
  · have := R.dis b u e
    rw [upd_ne (hS b u e)] at this; exact this
  · rcases hold n c' e with ⟨hn, e'⟩ | ⟨rfl, rfl⟩
    · obtain ⟨a, o2, h1, h2, h3, h4, h5⟩ := R.cell n c' e'
      have na : a ≠ D := fun z => by subst z; rw [upd_same] at h3; cases h3
      exact ⟨a, o2, by rw [atN n hn]; exact h1, h2, by rw [upd_ne na] at h3; exact h3, h4, h5.grow gr⟩
    · exact ⟨D, o, atE, nS, nF, R.fr _ _ upd_same, ok⟩
  · rcases hold n c1 e1 with ⟨hn, e1'⟩ | ⟨rfl, rfl⟩
    · rcases hold k c2 e2 with ⟨hk, e2'⟩ | ⟨rfl, rfl⟩
      · rw [atN n hn] at e3; rw [atN k hk] at e4
        exact R.inj n k c1 c2 a e1' e2' e3 e4
      · rw [atN n hn] at e3; rw [atE] at e4; cases e4
        exact absurd e3 (notD n c1 e1')
    · rcases hold k c2 e2 with ⟨hk, e2'⟩ | ⟨rfl, rfl⟩
      · rw [atN k hk] at e4; rw [atE] at e3; cases e3
        exact absurd e4 (notD k c2 e2')
      · rfl
end
/-! slots of a block -/
theorem wipe_get {σ : L2.St} {j : Nat} : ∀ {vs : List Nat}, j < σ.length → (wipe σ vs)[j]? = if j ∈ vs then some none else σ[j]?
  | [], _ => by simp [wipe]
  | v :: vs, h => by
    have ih := wipe_get (vs := vs) h
    unfold wipe
    by_cases e : v = j
    · subst e
      rw [List.getElem?_set_self (by rw [wipe_length]; exact h)]
      simp
    · rw [List.getElem?_set_ne e, ih]
      by_cases m : j ∈ vs
      · simp [m]
      · have : j ∉ v :: vs := by simp [m, Ne.symm e]
        simp only [m, this, if_false]
theorem wipe_eq {σ σ' : L2.St} {vs : List Nat} (hl : σ'.length = σ.length) (h : ∀ j, j ∉ vs → σ'[j]? = σ[j]?) : wipe σ' vs = wipe σ vs := by
  refine List.ext_getElem? fun j => ?_
  by_cases hj : j < σ.length
  · rw [wipe_get hj, wipe_get (by omega)]
    by_cases m : j ∈ vs
    · simp [m]
    · simp [m, h j m]
  · rw [List.getElem?_eq_none (by rw [wipe_length]; omega), List.getElem?_eq_none (by rw [wipe_length]; omega)]
theorem wipeW_len (sl : List (Option W)) : ∀ vs : List Nat, (wipeW sl vs).length = sl.length
  | [] => rfl
  | v :: vs => by unfold wipeW; rw [List.length_set, wipeW_len sl vs]
theorem wipeW_some {sl : List (Option W)} {i : Nat} {x : W} : ∀ {vs : List Nat}, (wipeW sl vs)[i]? = some (some x) → sl[i]? = some (some x) ∧ i ∉ vs
  | [], h => ⟨h, by simp⟩
  | v :: vs, h => by
    unfold wipeW at h
    by_cases hi : v = i
    · subst hi
      by_cases hv : v < (wipeW sl vs).length
      · rw [List.getElem?_set_self hv] at h; cases h
      · rw [List.getElem?_eq_none (by simpa using hv)] at h; cases h
    · rw [List.getElem?_set_ne hi] at h
      obtain ⟨h1, h2⟩ := wipeW_some h
      exact ⟨h1, by simp only [List.mem_cons, not_or]; exact ⟨fun e => hi e.symm, h2⟩⟩
/-- the block's names get back what they held -/
def rsW (orig cur : List (Option W)) : List Nat → List (Option W)
  | [] => cur
  | v :: vs => (rsW orig cur vs).set v (orig.getD v none)
theorem rsW_len (orig cur : List (Option W)) : ∀ vs : List Nat, (rsW orig cur vs).length = cur.length
  | [] => rfl
  | v :: vs => by unfold rsW; rw [List.length_set, rsW_len orig cur vs]
theorem rsW_some {orig cur : List (Option W)} {i : Nat} {x : W} : ∀ {vs : List Nat}, (rsW orig cur vs)[i]? = some (some x) → (i ∈ vs ∧ orig[i]? = some (some x)) ∨ (i ∉ vs ∧ cur[i]? = some (some x))
  | [], h => .inr ⟨by simp, h⟩
  | v :: vs, h => by
    unfold rsW at h
    by_cases hi : v = i
    · subst hi
      by_cases hv : v < (rsW orig cur vs).length
      · rw [List.getElem?_set_self hv] at h
        refine .inl ⟨by simp, ?_⟩
        rw [List.getD_eq_getElem?_getD] at h
        cases e : orig[v]? with
        | none => rw [e] at h; cases h
        | some o => rw [e] at h; exact h
      · rw [List.getElem?_eq_none (by simpa using hv)] at h; cases h
    · rw [List.getElem?_set_ne hi] at h
      rcases rsW_some h with ⟨h1, h2⟩ | ⟨h1, h2⟩
      · exact .inl ⟨by simp [h1], h2⟩
      · exact .inr ⟨by simp only [List.mem_cons, not_or]; exact ⟨fun e => hi e.symm, h1⟩, h2⟩
def G.rs (g g0 : G) (vs : List Nat) : G := ⟨rsW g0.sl g.sl vs, g.mem⟩
section
variable {K : PySem.W.Frag} {al al' : List Addr} {S S' F H H' : Hp} {σ : L2.St} {g g' : G} {vs : List Nat}
theorem Rep.wiped (R : Rep K al S F H σ g) : Rep K al S F H (wipe σ vs) (g.wipe vs) := by
  refine ⟨R.toRepM, by rw [wipe_length]; show (wipeW g.sl vs).length = _; rw [wipeW_len]; exact R.slen, fun i w e => ?_⟩
  obtain ⟨h1, h2⟩ := wipeW_some e
  obtain ⟨v, hv, d⟩ := R.slot i w h1
  refine ⟨v, ?_, d⟩
  rw [wipe_get (by
    rcases Nat.lt_or_ge i σ.length with q | q
    · exact q
    · rw [List.getElem?_eq_none q] at hv; cases hv), if_neg h2]
  exact hv
theorem Rep.restored {F' : Hp} (R : Rep K al S F H σ g) (gr : Grow al S al' S') (R' : Rep K al' S' F' H' (wipe σ vs) g') : Rep K al' S' F' H' σ (g'.rs g vs) := by
  refine ⟨R'.toRepM, by show (rsW g.sl g'.sl vs).length = _; rw [rsW_len, R'.slen, wipe_length], fun i w e => ?_⟩
  rcases rsW_some e with ⟨h1, h2⟩ | ⟨h1, h2⟩
  · obtain ⟨v, hv, d⟩ := R.slot i w h2
    exact ⟨v, hv, d.grow gr⟩
  · obtain ⟨v, hv, d⟩ := R'.slot i w h2
    exact ⟨v, (wipe_some hv).1, d⟩
end
/-! list comprehensions -/
structure CG (X : Cx) (tg : Expr) (τ : TG) (t : DGt) (vs : List Nat) : Prop where
  pe : PG X tg τ
  r : ∀ (al : List Addr) (S F H : Hp) (σ : L2.St) (g : G) (v : V) (w : W) (Q : G → Prop) (QV : L2.St → Hp → Prop), Rep X.K al S F H σ g → DenW X.K al S w v → t w g Q →
    (∀ al' S' H' σ' g', Rep X.K al' S' F H' σ' g' → Grow al S al' S' → (σ'.length = σ.length ∧ ∀ j, j ∉ vs → σ'[j]? = σ[j]?) → Q g' → QV σ' H') → τ v σ H QV
structure CGs (X : Cx) (tg : List Expr) (τ : TGs) (t : DGst) (vs : List Nat) : Prop where
  pe : PGs X tg τ
  r : ∀ (al : List Addr) (S F H : Hp) (σ : L2.St) (g : G) (vs' : List V) (ws : List T) (Q : G → Prop) (QV : L2.St → Hp → Prop), Rep X.K al S F H σ g → Paired (Den X.K S) ws vs' → t ws g Q →
    (∀ al' S' H' σ' g', Rep X.K al' S' F H' σ' g' → Grow al S al' S' → (σ'.length = σ.length ∧ ∀ j, j ∉ vs → σ'[j]? = σ[j]?) → Q g' → QV σ' H') → τ vs' σ H QV
structure DTs (X : Cx) (ifs : List Expr) (τ : TT) (t : DTt) : Prop where
  pe : PTs X ifs τ
  r : DTr X.K τ t
section
variable {X : Cx} {e : Expr} {τe : TE} {te : Dt} {pos : Pos} {tg iter : Expr} {vs : List Nat}
theorem cg_name (i : Nat) {x : Str} {ps : Pos} (hN : X.N.Nodup) (hi : X.N[i]? = some x := by rfl) (hv : i ∈ vs := by decide) (hx : Loc X.env.scope x := by first | exact Or.inl rfl | exact Or.inr rfl) (hf : X.fn x = true ∨ X.env.scope.names.lookup x = some .local := by first | exact .inl rfl | exact .inr rfl | assumption) : CG X (.Name x ps) (gName i) (dgN i) vs :=
  ⟨pg_name hN hi hx hf, fun al S F H σ g v w Q QV R d q k => k _ _ _ _ _ (R.setSlot d) (Grow.refl _ _) ⟨by simp, fun j hj => List.getElem?_set_ne (fun z => hj (by subst z; exact hv))⟩ q⟩
theorem cgs_nil : CGs X [] gNil dgNil vs := by
  refine ⟨pgs_nil, fun al S F H σ g vs ws Q QV R d q k => ?_⟩
  cases d with
  | nil => exact ⟨rfl, k _ _ _ _ _ R (Grow.refl _ _) ⟨rfl, fun _ _ => rfl⟩ q⟩
  | cons _ _ => exact q.elim
theorem cgs_cons {e : Expr} {es : List Expr} {τ1 : TG} {t1 : DGt} {τ2 : TGs} {t2 : DGst} (h1 : CG X e τ1 t1 vs) (h2 : CGs X es τ2 t2 vs)
    (hs : (assignEach (e :: es) X.env).map (·.2) = assign e X.env :: (assignEach es X.env).map (·.2) := by rfl) : CGs X (e :: es) (gCons τ1 τ2) (dgCons t1 t2) vs := by
  refine ⟨pgs_cons h1.pe h2.pe hs, fun al S F H σ g vs ws Q QV R d q k => ?_⟩
  cases d with
  | nil => exact q.elim
  | cons d1 d2 =>
    refine ⟨_, _, rfl, ?_⟩
    refine h1.r al S F H σ g _ (.t _) _ _ R d1 q fun al1 S1 H1 σ1 g1 R1 gr1 s1 q1 => ?_
    exact h2.r al1 S1 F H1 σ1 g1 _ _ Q QV R1 (Denp.grow gr1.s d2) q1 fun al2 S2 H2 σ2 g2 R2 gr2 s2 q2 => k _ _ _ _ _ R2 (gr1.trans gr2) ⟨s2.1.trans s1.1, fun j hj => (s2.2 j hj).trans (s1.2 j hj)⟩ q2
theorem cg_tup {es : List Expr} {kk : Nat} {ps : Pos} {τ1 : TGs} {t1 : DGst} {n : Nat} (hc : X.calm = true) (h : CGs X es τ1 t1 vs)
    (hn : (assignEach es X.env).length = n := by rfl) (hst : (assignEach es X.env).findIdx? (·.1) = none := by rfl) : CG X (.Tuple es kk ps) (gTup X.K n τ1) (dgTup n t1) vs := by
  refine ⟨pg_tup hc h.pe hn hst, fun al S F H σ g v w Q QV R d q k => ?_⟩
  unfold dgTup at q
  split at q
  · rename_i ts
    unfold DenW Den at d
    obtain ⟨p, vs, rfl, h1, h2⟩ := d
    have h2' := Dens.iff.mp h2
    exact ⟨p, vs, rfl, seqT R.same h1, by rw [← h2'.length]; exact q.1, h.r al S F H σ g vs ts Q QV R h2' q.2 k⟩
  · exact q.elim
def dYes : DTt := fun g Q => Q true g
theorem dts_nil : DTs X [] tYes dYes := ⟨pts_nil, fun al S F H σ g Q QV R q k => k _ _ _ _ _ R (Grow.refl _ _) q⟩
theorem dts_one {c : Expr} {τ : TT} {t : DTt} (h : DT X c τ t) : DTs X [c] τ t := ⟨pts_one h.pe, h.r⟩
theorem Rep.withM2 {K : PySem.W.Frag} {al al' : List Addr} {S S' F F' H H' : Hp} {σ : L2.St} {g : G} (R : Rep K al S F H σ g) {m' : Sto} (gr : Grow al S al' S') (M : RepM K al' S' F' H' m') : Rep K al' S' F' H' σ ⟨g.sl, m'⟩ :=
  ⟨M, R.slen, fun i w e => let ⟨v, h1, h2⟩ := R.slot i w e; ⟨v, h1, h2.grow gr⟩⟩
abbrev Fin3 := List W → G → (W → G → Prop) → Prop
def FinOk (K : PySem.W.Frag) (fin : Fin3) : Prop := ∀ (al : List Addr) (S F H : Hp) (σ : L2.St) (g : G) (acc : List W) (accV : List V) (D : Addr) (Q : W → G → Prop), Rep K al S (upd F D (.lst accV)) H σ g → F D = none → Paired (DenW K al S) acc accV → fin acc g Q →
  ∃ al' S' w g', Rep K al' S' F H σ g' ∧ Grow al S al' S' ∧ DenW K al' S' w (.ref D) ∧ Q w g'
def finT : Fin3 := fun acc g Q => ∃ ts : List T, acc = ts.map W.t ∧ Q (.t (.lst ts)) g
def finH : Fin3 := fun acc g Q => ∃ ts : List T, acc = ts.map W.t ∧ Q (.h g.mem.length) (g.push (.lt ts))
def finW : Fin3 := fun acc g Q => Q (.h g.mem.length) (g.push (.lw acc))
theorem denT_map {K : PySem.W.Frag} {al : List Addr} {S : Hp} {ts : List T} {vs : List V} (h : Paired (DenW K al S) (ts.map W.t) vs) : Paired (Den K S) ts vs := (pmapL W.t).mp h
theorem fin_T {K : PySem.W.Frag} : FinOk K finT := by
  intro al S F H σ g acc accV D Q R nF d q
  obtain ⟨ts, rfl, q⟩ := q
  obtain ⟨M, gr⟩ := R.toRepM.frS nF
  refine ⟨al, _, .t (.lst ts), g, R.withM2 gr M, gr, ?_, q⟩
  unfold DenW Den
  exact ⟨D, accV, rfl, upd_same, Dens.iff.mpr (Denp.grow gr.s (denT_map d))⟩
theorem fin_H {K : PySem.W.Frag} : FinOk K finH := by
  intro al S F H σ g acc accV D Q R nF d q
  obtain ⟨ts, rfl, q⟩ := q
  obtain ⟨M, gr⟩ := R.toRepM.frC (c := .lt ts) nF ⟨accV, rfl, denT_map d⟩
  refine ⟨_, S, .h g.mem.length, _, R.withM2 gr M, gr, ⟨D, ?_, rfl⟩, q⟩
  rw [List.getElem?_append_right (by rw [R.len]; exact Nat.le_refl _), R.len]; simp
theorem fin_W {K : PySem.W.Frag} : FinOk K finW := by
  intro al S F H σ g acc accV D Q R nF d q
  obtain ⟨M, gr⟩ := R.toRepM.frC (c := .lw acc) nF ⟨accV, rfl, DenWs.grow ⟨⟨[D], rfl⟩, Same.refl _⟩ d⟩
  refine ⟨_, S, .h g.mem.length, _, R.withM2 gr M, gr, ⟨D, ?_, rfl⟩, q⟩
  rw [List.getElem?_append_right (by rw [R.len]; exact Nat.le_refl _), R.len]; simp
def dLc (fin : Fin3) (it : DIt) (gt : DGt) (tt : DTt) (te : Dt) (vs : List Nat) : Dt := fun g Q => it g fun ws St g1 => ∃ I : Nat → List W → G → Prop, I 0 [] (g1.wipe vs) ∧ (∀ i acc g', I i acc g' → St g' ∧ acc.length ≤ i) ∧
  (∀ i acc w g', ws[i]? = some w → I i acc g' → gt w g' fun g2 => tt g2 fun b g3 => if b = true then te g3 fun y g4 => I (i + 1) (acc ++ [y]) (g4.wipe vs) else I (i + 1) acc (g3.wipe vs)) ∧
  ws.length ≤ sizeLine ∧ (∀ acc g', I ws.length acc g' → fin acc (g'.rs g1 vs) Q)
theorem der_lc {K : PySem.W.Frag} {fin : Fin3} {wi : TI} {it : DIt} {τg : TG} {gt : DGt} {τt : TT} {tt : DTt} {τe : TE} {te : Dt} {vs : List Nat} (hf : FinOk K fin)
    (hi : ∀ (al : List Addr) (S F H : Hp) (σ : L2.St) (g : G) (Q : List W → (G → Prop) → G → Prop) (QV : It → Hp → Prop), Rep K al S F H σ g → it g Q →
      (∀ al' S' H' g' J ws St, Rep K al' S' F H' σ g' → Grow al S al' S' → IterOk K J ws St al' S' → Q ws St g' → QV J H') → wi σ H QV)
    (hg : ∀ (al : List Addr) (S F H : Hp) (σ : L2.St) (g : G) (v : V) (w : W) (Q : G → Prop) (QV : L2.St → Hp → Prop), Rep K al S F H σ g → DenW K al S w v → gt w g Q →
      (∀ al' S' H' σ' g', Rep K al' S' F H' σ' g' → Grow al S al' S' → (σ'.length = σ.length ∧ ∀ j, j ∉ vs → σ'[j]? = σ[j]?) → Q g' → QV σ' H') → τg v σ H QV)
    (ht : DTr K τt tt) (he : DEr K τe te) : DEr K (tLc wi τg τt τe vs) (dLc fin it gt tt te vs) := by
  intro al S F H σ g Q QV R q k
  refine hi al S F H σ g _ _ R q fun al1 S1 H1 g1 J ws St R1 gr1 ok q1 => fun D nD => ?_
  obtain ⟨I, i0, hst, turn, hz, done⟩ := q1
  have nF : F D = none := R1.fr.free nD
  have R1w : Rep K al1 S1 (upd F D (.lst [])) (upd H1 D (.lst [])) (wipe σ vs) (g1.wipe vs) :=
    let R2 := R1.wiped (vs := vs)
    ⟨R2.toRepM.frNew nD, R2.slen, R2.slot⟩
  refine ⟨fun i m H' => ∃ al' S' g' acc accV, Rep K al' S' (upd F D (.lst accV)) H' (wipe σ vs) g' ∧ Grow al1 S1 al' S' ∧ Paired (DenW K al' S') acc accV ∧ I i acc g' ∧ i + m = ws.length,
    ⟨ws.length, al1, S1, _, [], [], R1w, Grow.refl _ _, .nil, i0, by omega⟩, ?_⟩
  rintro i m H2 ⟨al2, S2, g2, acc, accV, R2, gr2, d2, i2, em⟩
  obtain ⟨st2, hl2⟩ := hst i acc g2 i2
  obtain ⟨hgo, hstop⟩ := ok al2 S2 _ H2 _ g2 i R2 gr2 st2
  by_cases hi : i < ws.length
  · have hw : ws[i]? = some ws[i] := List.getElem?_eq_getElem hi
    obtain ⟨go, hy⟩ := hgo _ hw
    refine .inr ⟨go, fun H' => ∃ al' S' g' acc accV, Rep K al' S' (upd F D (.lst accV)) H' (wipe σ vs) g' ∧ Grow al1 S1 al' S' ∧ Paired (DenW K al' S') acc accV ∧ I (i + 1) acc g', fun H' ⟨al', S', g', acc, accV, R', gr', d', i'⟩ => ⟨m - 1, by omega, al', S', g', acc, accV, R', gr', d', i', by omega⟩, fun x H' y => ?_⟩
    obtain ⟨al3, S3, R3, gr3, d3⟩ := hy x H' y
    refine hg al3 S3 _ H' _ g2 x _ _ _ R3 d3 (turn i acc _ g2 hw i2) fun al4 S4 H4 σ4 g4 R4 gr4 s4 q4 => ?_
    have hwp : wipe σ4 vs = wipe σ vs := by
      have h1 : wipe σ4 vs = wipe (wipe σ vs) vs := wipe_eq s4.1 s4.2
      rw [h1]
      refine wipe_eq (wipe_length _ _) fun j hj => ?_
      by_cases hl : j < σ.length
      · rw [wipe_get hl, if_neg hj]
      · rw [List.getElem?_eq_none (by rw [wipe_length]; omega), List.getElem?_eq_none (by omega)]
    refine ⟨hwp, ?_⟩
    refine ht al4 S4 _ H4 σ4 g4 _ _ R4 q4 fun al5 S5 H5 g5 b R5 gr5 q5 => ?_
    have gr := gr2.trans (gr3.trans (gr4.trans gr5))
    have grd := gr3.trans (gr4.trans gr5)
    cases b with
    | false =>
      simp only [Bool.false_eq_true, if_false] at q5 ⊢
      have R5' := R5.wiped (vs := vs)
      rw [hwp] at R5'
      exact ⟨al5, S5, _, acc, accV, R5', gr, DenWs.grow grd d2, q5⟩
    | true =>
      simp only [if_true] at q5 ⊢
      refine he al5 S5 _ H5 σ4 g5 _ _ R5 q5 fun al6 S6 H6 g6 v w R6 gr6 d6 q6 => ?_
      have eD : H6 D = some (.lst accV) := R6.fr _ _ upd_same
      refine ⟨accV, eD, ?_, ?_⟩
      · rw [← d2.length]; omega
      · have R6' := R6.wiped (vs := vs)
        rw [hwp] at R6'
        exact ⟨al6, S6, _, acc ++ [w], accV ++ [v], ⟨R6'.toRepM.frPut, R6'.slen, R6'.slot⟩, gr.trans gr6, papp (DenWs.grow (grd.trans gr6) d2) (.cons d6 .nil), q6⟩
  · refine .inl ⟨hstop (by omega), ?_⟩
    have e : i = ws.length := by omega
    subst e
    have R3 := R1.restored gr2 R2
    obtain ⟨al4, S4, w, g4, R4, gr4, d4, q4⟩ := hf al2 S2 F H2 σ _ acc accV D Q R3 nF d2 (done acc g2 i2)
    exact k _ _ _ _ _ _ R4 (gr1.trans (gr2.trans gr4)) d4 q4
variable {elt : Expr} {ifs : List Expr} {scope : Scope} {own : List (Str × Nat)} {wi : TI} {it : DIt} {τg : TG} {gt : DGt} {τt : TT} {tt : DTt} {fin : Fin3}
theorem de_lc (hf : FinOk X.K fin) (hc : X.calm = true) (hN : X.N.Nodup) (hi : DI X tg iter wi it) (ok : BlkOk X.N X.env.scope scope own)
    (hg : ∀ (s : Shared) (H : Hp) (C : Addr) (cl : List (Str × Addr)) (fp : List Addr), CG (X.blk s H scope (compEnvC scope cl C X.env) fp) tg τg gt (own.map (·.2))) (ht : ∀ (s : Shared) (H : Hp) (C : Addr) (cl : List (Str × Addr)) (fp : List Addr), DTs (X.blk s H scope (compEnvC scope cl C X.env) fp) ifs τt tt)
    (he : ∀ (s : Shared) (H : Hp) (C : Addr) (cl : List (Str × Addr)) (fp : List Addr), DE (X.blk s H scope (compEnvC scope cl C X.env) fp) elt τe te) (s0 : Shared) (hs : ∀ x, foldedSetIterable iter X.env x = pure x := by intro _; rfl) :
    DE X (.ListComp elt [⟨tg, iter, ifs, 0⟩] scope pos) (tLc wi τg τt τe (own.map (·.2))) (dLc fin it gt tt te (own.map (·.2))) :=
  ⟨pe_lc hc hN hi.pe ok (fun s H C cl fp => (hg s H C cl fp).pe) (fun s H C cl fp => (ht s H C cl fp).pe) (fun s H C cl fp => (he s H C cl fp).pe) hs,
    der_lc hf hi.r (hg s0 (fun _ => none) 0 [] []).r (ht s0 (fun _ => none) 0 [] []).r (he s0 (fun _ => none) 0 [] []).r⟩
theorem ds_setLc (i : Nat) {y : Str} {py spos : Pos} (hf : FinOk X.K fin) (hc : X.calm = true) (hN : X.N.Nodup) (hi : DI X tg iter wi it) (ok : BlkOk X.N X.env.scope scope own)
    (hg : ∀ (s : Shared) (H : Hp) (C : Addr) (cl : List (Str × Addr)) (fp : List Addr), CG (X.blk s H scope (compEnvC scope cl C X.env) fp) tg τg gt (own.map (·.2))) (ht : ∀ (s : Shared) (H : Hp) (C : Addr) (cl : List (Str × Addr)) (fp : List Addr), DTs (X.blk s H scope (compEnvC scope cl C X.env) fp) ifs τt tt)
    (he : ∀ (s : Shared) (H : Hp) (C : Addr) (cl : List (Str × Addr)) (fp : List Addr), DE (X.blk s H scope (compEnvC scope cl C X.env) fp) elt τe te) (s0 : Shared) (hy : X.N[i]? = some y := by rfl) (hyl : X.env.scope.names.lookup y = some .local := by rfl)
    (hsw : swapsWith (.ListComp elt [⟨tg, iter, ifs, 0⟩] scope pos) (some (.Name y py)) spos.line X.env = pure true := by exact sw_true rfl rfl rfl (by decide +kernel)) (hs : ∀ x, foldedSetIterable iter X.env x = pure x := by intro _; rfl) :
    DS X (.Assign [.Name y py] (.ListComp elt [⟨tg, iter, ifs, 0⟩] scope pos) spos) (tAsg (tLc wi τg τt τe (own.map (·.2))) (gName i)) (dAsg (dLc fin it gt tt te (own.map (·.2))) (dgN i)) := by
  refine ⟨ps_setLc hc hN hy hyl hsw hi.pe ok (fun s H C cl fp => (hg s H C cl fp).pe) (fun s H C cl fp => (ht s H C cl fp).pe) (fun s H C cl fp => (he s H C cl fp).pe) hs, fun al S F H σ g D DV R q k => ?_⟩
  refine der_lc hf hi.r (hg s0 (fun _ => none) 0 [] []).r (ht s0 (fun _ => none) 0 [] []).r (he s0 (fun _ => none) 0 [] []).r al S F H σ g _ _ R q fun al1 S1 H1 g1 v1 w1 R1 gr1 e1 q1 => ?_
  exact k.nx _ _ _ _ _ (R1.setSlot e1) gr1 q1
end
end DL

namespace DL
open PySem PySem.Spec L2

/-! renaming of handles -/
def W.up (r : List Nat) : W → Option W
  | .t x => some (.t x)
  | .h n => match r[n]? with | some j => some (.h j) | none => none
def ups (r : List Nat) : List W → Option (List W)
  | [] => some []
  | w :: ws => match w.up r, ups r ws with | some w', some ws' => some (w' :: ws') | _, _ => none
def Cell.up (r : List Nat) : Cell → Option Cell
  | .lt ts => some (.lt ts)
  | .dt ks ts => some (.dt ks ts)
  | .lw ws => match ups r ws with | some ws' => some (.lw ws') | none => none
  | .dw ks ws => match ups r ws with | some ws' => some (.dw ks ws') | none => none
  | .tw ws => match ups r ws with | some ws' => some (.tw ws') | none => none
  | .ob n fs ws => match ups r ws with | some ws' => some (.ob n fs ws') | none => none
  | .dp ks ts => some (.dp ks ts)
def cups (r : List Nat) : List Cell → Option (List Cell)
  | [] => some []
  | w :: ws => match w.up r, cups r ws with | some w', some ws' => some (w' :: ws') | _, _ => none
theorem cups_get {r : List Nat} : ∀ {cs cs' : List Cell} {i : Nat} {c : Cell}, cups r cs = some cs' → cs[i]? = some c → ∃ c', cs'[i]? = some c' ∧ c.up r = some c'
  | [], _, _, _, _, h => by simp at h
  | d :: cs, cs', i, c, e, h => by
    unfold cups at e
    split at e
    · rename_i d' ds' e1 e2
      cases e
      cases i with
      | zero => simp at h; subst h; exact ⟨d', by simp, e1⟩
      | succ i =>
        obtain ⟨c', h1, h2⟩ := cups_get e2 (by simpa using h)
        exact ⟨c', by simpa using h1, h2⟩
    · cases e
theorem cups_len {r : List Nat} : ∀ {cs cs' : List Cell}, cups r cs = some cs' → cs'.length = cs.length
  | [], _, e => by cases e; rfl
  | d :: cs, cs', e => by
    unfold cups at e
    split at e
    · rename_i d' ds' e1 e2
      cases e
      simp [cups_len e2]
    · cases e
def alOf (al : List Addr) (r : List Nat) : List Addr := r.map fun j => al.getD j 0
section
variable {K : PySem.W.Frag} {al al' : List Addr} {S S' F H H' : Hp} {m : Sto} {r : List Nat}
/-- al1 at i is al at r i -/
def Emb (al1 al : List Addr) (r : List Nat) : Prop := ∀ (i j : Nat), r[i]? = some j → al1[i]? = al[j]?
theorem emb_of (hr : ∀ j ∈ r, j < al.length) : Emb (alOf al r) al r := by
  intro i j e
  have hj := hr j (List.mem_of_getElem? e)
  unfold alOf
  rw [List.getElem?_map, e, Option.map_some, List.getD_eq_getElem?_getD, List.getElem?_eq_getElem hj]
  rfl
theorem denW_dn {al1 : List Addr} (em : Emb al1 al r) : ∀ {w' w : W} {v : V}, w'.up r = some w → (DenW K al1 S w' v ↔ DenW K al S w v)
  | .t x, w, v, e => by cases e; exact Iff.rfl
  | .h n, w, v, e => by
    unfold W.up at e
    dsimp only at e
    split at e
    · rename_i j ej
      cases e
      unfold DenW
      dsimp only
      rw [em n j ej]
    · cases e
theorem denWs_dn {al1 : List Addr} (em : Emb al1 al r) : ∀ {ws' ws : List W} {vs : List V}, ups r ws' = some ws → (Paired (DenW K al1 S) ws' vs ↔ Paired (DenW K al S) ws vs)
  | [], ws, vs, e => by
    cases e
    constructor
    · intro h; cases h; exact .nil
    · intro h; cases h; exact .nil
  | w' :: ws', ws, vs, e => by
    unfold ups at e
    split at e
    · rename_i w ws2 e1 e2
      cases e
      constructor
      · intro h
        cases h with
        | cons h1 h2 => exact .cons ((denW_dn em e1).mp h1) ((denWs_dn em e2).mp h2)
      · intro h
        cases h with
        | cons h1 h2 => exact .cons ((denW_dn em e1).mpr h1) ((denWs_dn em e2).mpr h2)
    · cases e
theorem cell_dn {al1 : List Addr} (em : Emb al1 al r) {c' c : Cell} {o : HO} (e : c'.up r = some c) : CellOk K al1 S c' o ↔ CellOk K al S c o := by
  cases c' with
  | lt ts => cases e; exact Iff.rfl
  | dt ks ts => cases e; exact Iff.rfl
  | dp ks ts => cases e; exact Iff.rfl
  | lw ws =>
    unfold Cell.up at e
    dsimp only at e
    split at e
    · rename_i ws2 e2
      cases e
      exact ⟨fun ⟨vs, h, p⟩ => ⟨vs, h, (denWs_dn em e2).mp p⟩, fun ⟨vs, h, p⟩ => ⟨vs, h, (denWs_dn em e2).mpr p⟩⟩
    · cases e
  | tw ws =>
    unfold Cell.up at e
    dsimp only at e
    split at e
    · rename_i ws2 e2
      cases e
      exact ⟨fun ⟨vs, h, p⟩ => ⟨vs, h, (denWs_dn em e2).mp p⟩, fun ⟨vs, h, p⟩ => ⟨vs, h, (denWs_dn em e2).mpr p⟩⟩
    · cases e
  | ob n fs ws =>
    unfold Cell.up at e
    dsimp only at e
    split at e
    · rename_i ws2 e2
      cases e
      have hl : ∀ {ws' ws : List W}, ups r ws' = some ws → ws'.length = ws.length := by
        intro ws'
        induction ws' with
        | nil => intro ws e; cases e; rfl
        | cons w' ws' ih =>
          intro ws e
          unfold ups at e
          split at e
          · rename_i w ws2 e1 e2
            cases e
            simp [ih e2]
          · cases e
      exact ⟨fun ⟨C, dx, vs, n, h, l, p⟩ => ⟨C, dx, vs, n, h, by rw [l, hl e2], (denWs_dn em e2).mp p⟩, fun ⟨C, dx, vs, n, h, l, p⟩ => ⟨C, dx, vs, n, h, by rw [l, hl e2], (denWs_dn em e2).mpr p⟩⟩
    · cases e
  | dw ks ws =>
    unfold Cell.up at e
    dsimp only at e
    split at e
    · rename_i ws2 e2
      cases e
      have hl : ∀ {ws' ws : List W}, ups r ws' = some ws → ws'.length = ws.length := by
        intro ws'
        induction ws' with
        | nil => intro ws e; cases e; rfl
        | cons w' ws' ih =>
          intro ws e
          unfold ups at e
          split at e
          · rename_i w ws2 e1 e2
            cases e
            simp [ih e2]
          · cases e
      exact ⟨fun ⟨vs, h, l, p⟩ => ⟨vs, h, by rw [l, hl e2], (denWs_dn em e2).mp p⟩, fun ⟨vs, h, l, p⟩ => ⟨vs, h, by rw [l, hl e2], (denWs_dn em e2).mpr p⟩⟩
    · cases e
theorem nodup_get {r : List Nat} (h : r.Nodup) {i k j : Nat} (a : r[i]? = some j) (b : r[k]? = some j) : i = k := by
  obtain ⟨h1, e1⟩ := List.getElem?_eq_some_iff.mp a
  obtain ⟨h2, e2⟩ := List.getElem?_eq_some_iff.mp b
  exact (List.getElem_inj h).mp (e1.trans e2.symm)
/-- a part of the store by itself -/
theorem RepM.sub (R : RepM K al S F H m) {m2 : List Cell} (nd : r.Nodup) (hr : ∀ j ∈ r, j < m.length) (hl : r.length = m2.length)
    (hc : ∀ (i : Nat) (c' : Cell), m2[i]? = some c' → ∃ j c, r[i]? = some j ∧ c'.up r = some c ∧ m[j]? = some (some c)) : RepM K (alOf al r) S F H (m2.map some) := by
  have em : Emb (alOf al r) al r := emb_of fun j hj => by rw [R.len]; exact hr j hj
  have at2 : ∀ (n : Nat) (c : Cell), (m2.map some)[n]? = some (some c) → m2[n]? = some c := fun n c e => by
    rw [List.getElem?_map] at e
    cases q : m2[n]? with
    | none => rw [q] at e; cases e
    | some d => rw [q] at e; cases e; rfl
  refine ⟨R.same, R.fr, R.dis, by unfold alOf; simp [hl], fun n c e => ?_, fun n k c d a e1 e2 e3 e4 => ?_⟩
  · obtain ⟨j, c2, h1, h2, h3⟩ := hc n c (at2 n c e)
    obtain ⟨a, o, g1, g2, g3, g4, g5⟩ := R.cell j c2 h3
    exact ⟨a, o, by rw [em n j h1]; exact g1, g2, g3, g4, (cell_dn em h2).mpr g5⟩
  · obtain ⟨j, c2, h1, h2, h3⟩ := hc n c (at2 n c e1)
    obtain ⟨j', c3, h4, h5, h6⟩ := hc k d (at2 k d e2)
    rw [em n j h1] at e3
    rw [em k j' h4] at e4
    have := R.inj j j' c2 c3 a h3 h6 e3 e4
    subst this
    exact nodup_get nd h1 h4
end
/-! a def's contract: what is handed in (trees, and handles of the cells handed in), the cells; what is handed back, the cells behind, new cells -/
abbrev SC := List W → List Cell → (W → List Cell → List Cell → Prop) → Prop
def sps (K : PySem.W.Frag) (C : SC) : Sp := fun vs H Q _ => ∃ (al : List Addr) (S F : Hp) (m0 : List Cell) (ws : List W) (QC : W → List Cell → List Cell → Prop), RepM K al S F H (m0.map some) ∧ Paired (DenW K al S) ws vs ∧ C ws m0 QC ∧
  ∀ al2 S' H' m1 cs v w, RepM K (al ++ al2) S' F H' ((m1 ++ cs).map some) → m1.length = m0.length → Same S S' → DenW K (al ++ al2) S' w v → QC w m1 cs → Q v H'
/-- what the body hands back, as the contract tells it -/
def FinS (n0 : Nat) (QC : W → List Cell → List Cell → Prop) (w : W) (g : G) : Prop := ∃ (ks : List Nat) (m1 cs : List Cell) (w' : W), (List.range n0 ++ ks).Nodup ∧ (∀ j ∈ List.range n0 ++ ks, j < g.mem.length) ∧ w'.up (List.range n0 ++ ks) = some w ∧ m1.length = n0 ∧ cs.length = ks.length ∧
  (∀ (i : Nat) (c' : Cell), (m1 ++ cs)[i]? = some c' → ∃ j c, (List.range n0 ++ ks)[i]? = some j ∧ c'.up (List.range n0 ++ ks) = some c ∧ g.mem[j]? = some (some c)) ∧ QC w' m1 cs
theorem alOf_range {al al1 more : List Addr} {n0 : Nat} (h : al1 = al ++ more) (hl : al.length = n0) (ks : List Nat) : alOf al1 (List.range n0 ++ ks) = al ++ alOf al1 ks := by
  unfold alOf
  rw [List.map_append]
  congr 1
  refine List.ext_getElem? fun i => ?_
  rw [List.getElem?_map]
  by_cases hi : i < n0
  · rw [List.getElem?_range hi, Option.map_some, List.getD_eq_getElem?_getD, h, List.getElem?_append_left (by omega), List.getElem?_eq_getElem (by omega)]
    rfl
  · rw [List.getElem?_eq_none (by simpa using hi), List.getElem?_eq_none (by omega)]
    rfl
section
variable {P : Program} {w : World} {K : PySem.W.Frag} {mg : Str → Option Value} {base : Heap}
theorem sps_fin {al alF : List Addr} {S S' F H' : Hp} {g : G} {m0 : List Cell} {QC : W → List Cell → List Cell → Prop} {σ : L2.St} {u : W} {v : V} {Q : VK} (R : Rep K alF S' F H' σ g) (gr : Grow al S alF S') (hl : al.length = m0.length) (d : DenW K alF S' u v) (q : FinS m0.length QC u g)
    (k : ∀ al2 S' H' m1 cs v w, RepM K (al ++ al2) S' F H' ((m1 ++ cs).map some) → m1.length = m0.length → Same S S' → DenW K (al ++ al2) S' w v → QC w m1 cs → Q v H') : Q v H' := by
  obtain ⟨ks, m1, cs, u', nd, lt, hu, l1, l2, hc, q⟩ := q
  obtain ⟨⟨more, ea⟩, sS⟩ := gr
  have M := R.toRepM.sub (m2 := m1 ++ cs) nd lt (by simp [l1, l2]) hc
  have em : Emb (alOf alF (List.range m0.length ++ ks)) alF (List.range m0.length ++ ks) := emb_of fun j hj => by rw [R.len]; exact lt j hj
  have d' := (denW_dn (K := K) (S := S') (v := v) em hu).mpr d
  rw [alOf_range ea hl ks] at M d'
  exact k _ _ _ m1 cs v u' M l1 sS d' q
theorem start_rep {al : List Addr} {S F H : Hp} {m0 : Sto} {ws : List W} {vs : List V} {N : List Str} (M : RepM K al S F H m0) (d : Paired (DenW K al S) ws vs) : Rep K al S F H (L2.start N vs) ⟨ws.map some ++ List.replicate (N.length - ws.length) none, m0⟩ := by
  refine ⟨M, by unfold L2.start; simp [d.length], fun i u e => ?_⟩
  dsimp only at e
  rcases Nat.lt_or_ge i ws.length with hi | hi
  · rw [List.getElem?_append_left (by simpa using hi), List.getElem?_map] at e
    cases eu : ws[i]? with
    | none => rw [eu] at e; cases e
    | some u' =>
      rw [eu] at e; cases e
      obtain ⟨v, hv, dv⟩ := pget d eu
      refine ⟨v, ?_, dv⟩
      unfold L2.start
      rw [List.getElem?_append_left (by rw [List.length_map, ← d.length]; exact hi), List.getElem?_map, hv]
      rfl
  · rw [List.getElem?_append_right (by simpa using hi), List.getElem?_replicate] at e
    split at e <;> cases e
/-- THE RULE for a def's body -/
theorem dfn_ok {x qual : Str} {st : Stmt} {f : Addr} {fd : FuncData} {N ps : List Str} {k : Nat} {C : SC} (Fn : Fun K x qual st f fd) (Sc : FnScope N ps (defScope st)) (hlen : ∀ ws m Q, C ws m Q → ws.length = ps.length)
    (hb : ∀ (cdv : Value) (A : Around) (outer : List Env) (s : Shared) (H : Hp) (E : XK), Room k (A.deeper (PyProof.Rows.envOfC qual (defScope st) s.heap.objs.size f cdv)) →
      ∃ τ t, DSs (cxOf CX0 P w K mg base N qual (defScope st) f cdv A outer s H E).nox (defBody st) τ t ∧ ∀ ws m QC, C ws m QC → t ⟨FinS m.length QC (.t .non), FinS m.length QC, fun _ => False, fun _ => False⟩ ⟨ws.map some ++ List.replicate (N.length - ws.length) none, m.map some⟩) :
    FnOk P w K mg base CX0 (k + 1) f fd ps (sps K C) := by
  refine Fn.ok Sc (fun vs H Q E h => ?_) fun cdv A outer s H vs Q E hr h => ?_
  · obtain ⟨al, S, F, m0, ws, QC, _, d, c, _⟩ := h
    rw [← d.length]; exact hlen _ _ _ c
  · obtain ⟨al, S, F, m0, ws, QC, M, d, c, q⟩ := h
    obtain ⟨τ, t, D, ht⟩ := hb cdv A outer s H E hr
    refine ⟨τ, D.pe, ?_⟩
    have hl : al.length = m0.length := by rw [M.len, List.length_map]
    have R := start_rep (N := N) M d
    refine D.r al S F H _ _ _ _ R (ht ws m0 QC c) ⟨fun al' S' H' σ' g' R' gr' q' => ?_, fun al' S' H' σ' g' v u R' gr' d' q' => ?_, fun _ _ _ _ _ _ _ z => z.elim, fun _ _ _ _ _ _ _ z => z.elim⟩
    · exact sps_fin R' gr' hl (by unfold DenW Den; rfl) q' q
    · exact sps_fin R' gr' hl d' q' q
end
/-! the caller -/
def setAll (m : Sto) : List Nat → List Cell → Sto
  | j :: r, c :: cs => (setAll m r cs).set j (some c)
  | _, _ => m
theorem setAll_len (m : Sto) : ∀ (r : List Nat) (cs : List Cell), (setAll m r cs).length = m.length
  | [], _ => by unfold setAll; rfl
  | _ :: _, [] => by unfold setAll; rfl
  | j :: r, c :: cs => by unfold setAll; rw [List.length_set, setAll_len m r cs]
theorem setAll_out (m : Sto) {n : Nat} : ∀ (r : List Nat) (cs : List Cell), n ∉ r → (setAll m r cs)[n]? = m[n]?
  | [], _, _ => by unfold setAll; rfl
  | _ :: _, [], _ => by unfold setAll; rfl
  | j :: r, c :: cs, h => by
    unfold setAll
    rw [List.getElem?_set_ne (fun z => h (by subst z; simp)), setAll_out m r cs fun z => h (by simp [z])]
theorem setAll_in (m : Sto) : ∀ (r : List Nat) (cs : List Cell) {i j : Nat}, r.Nodup → (∀ j ∈ r, j < m.length) → r.length = cs.length → r[i]? = some j → ∃ c, cs[i]? = some c ∧ (setAll m r cs)[j]? = some (some c)
  | [], cs, i, j, _, _, _, h => by simp at h
  | _ :: _, [], i, j, _, _, hl, h => by simp at hl
  | j0 :: r, c :: cs, i, j, nd, lt, hl, h => by
    unfold setAll
    obtain ⟨n1, n2⟩ := List.nodup_cons.mp nd
    cases i with
    | zero =>
      simp at h
      subst h
      exact ⟨c, by simp, List.getElem?_set_self (by rw [setAll_len]; exact lt j0 (by simp))⟩
    | succ i =>
      obtain ⟨c', h1, h2⟩ := setAll_in m r cs (i := i) (j := j) n2 (fun j hj => lt j (by simp [hj])) (by simpa using hl) (by simpa using h)
      refine ⟨c', by simpa using h1, ?_⟩
      rw [List.getElem?_set_ne]
      · exact h2
      · intro z
        subst z
        exact n1 (List.mem_of_getElem? (by simpa using h))
/-- the general call: r tells which cells are handed in -/
def dCallS (C : SC) (t : DAt) : Dt := fun g Q => t g fun ws g1 => ∃ (r : List Nat) (m0 : List Cell) (ws0 : List W), r.Nodup ∧ r.length = m0.length ∧ ups r ws0 = some ws ∧
  (∀ (i : Nat) (c : Cell), m0[i]? = some c → ∃ j c', r[i]? = some j ∧ c.up r = some c' ∧ g1.mem[j]? = some (some c')) ∧
  C ws0 m0 fun w m1 cs => ∃ w' m1' cs', w.up (r ++ (List.range cs.length).map (g1.mem.length + ·)) = some w' ∧ cups (r ++ (List.range cs.length).map (g1.mem.length + ·)) m1 = some m1' ∧ cups (r ++ (List.range cs.length).map (g1.mem.length + ·)) cs = some cs' ∧
    Q w' ⟨g1.sl, setAll g1.mem r m1' ++ cs'.map some⟩
section
variable {K : PySem.W.Frag} {τs : TA} {ts : DAt}
open Classical in
/-- the cells that are not handed in lie still -/
noncomputable def frOf (al : List Addr) (F H : Hp) (m : Sto) (r : List Nat) : Hp := fun a => if (F a).isSome = true ∨ ∃ (n : Nat) (c : Cell), m[n]? = some (some c) ∧ n ∉ r ∧ al[n]? = some a then H a else none
theorem callS_at {C : SC} {E : XK} {al1 : List Addr} {S1 F H1 : Hp} {σ : L2.St} {g1 : G} {vs : List V} {ws : List W} {Q : W → G → Prop} {QV : VK} (R1 : Rep K al1 S1 F H1 σ g1) (e1 : Paired (DenW K al1 S1) ws vs)
    (q1 : ∃ (r : List Nat) (m0 : List Cell) (ws0 : List W), r.Nodup ∧ r.length = m0.length ∧ ups r ws0 = some ws ∧
  (∀ (i : Nat) (c : Cell), m0[i]? = some c → ∃ j c', r[i]? = some j ∧ c.up r = some c' ∧ g1.mem[j]? = some (some c')) ∧
  C ws0 m0 fun w m1 cs => ∃ w' m1' cs', w.up (r ++ (List.range cs.length).map (g1.mem.length + ·)) = some w' ∧ cups (r ++ (List.range cs.length).map (g1.mem.length + ·)) m1 = some m1' ∧ cups (r ++ (List.range cs.length).map (g1.mem.length + ·)) cs = some cs' ∧
    Q w' ⟨g1.sl, setAll g1.mem r m1' ++ cs'.map some⟩)
    (k : Ct K al1 S1 F σ Q QV) : sps K C vs H1 QV E := by
  have gr1 := Grow.refl al1 S1
  obtain ⟨r, m0, ws0, nd, hl, hu, hc, q1⟩ := q1
  have lt : ∀ j ∈ r, j < g1.mem.length := fun j hj => by
    obtain ⟨i, hi⟩ := List.getElem?_of_mem hj
    have him : i < m0.length := by
      rw [← hl]
      exact (List.getElem?_eq_some_iff.mp hi).1
    obtain ⟨j', c', h1, h2, h3⟩ := hc i _ (List.getElem?_eq_getElem him)
    rw [hi] at h1; cases h1
    exact (List.getElem?_eq_some_iff.mp h3).1
  have em : Emb (alOf al1 r) al1 r := emb_of fun j hj => by rw [R1.len]; exact lt j hj
  have M0 := R1.toRepM.sub (m2 := m0) nd lt hl hc
  have hF : ∀ a u, F a = some u → frOf al1 F H1 g1.mem r a = some u := fun a u e => by
    unfold frOf
    rw [if_pos (.inl (by rw [e]; rfl))]
    exact R1.fr a u e
  have hN : ∀ a, frOf al1 F H1 g1.mem r a = none → F a = none := fun a e => by
    cases q : F a with
    | none => rfl
    | some u => rw [hF a u q] at e; cases e
  have M1 : RepM K (alOf al1 r) S1 (frOf al1 F H1 g1.mem r) H1 (m0.map some) := by
    refine ⟨M0.same, fun a u e => ?_, fun a u e => ?_, M0.len, fun n c e => ?_, M0.inj⟩
    · unfold frOf at e
      split at e
      · exact e
      · cases e
    · unfold frOf
      rw [if_neg]
      rintro (z | ⟨n, c, z1, z2, z3⟩)
      · rw [R1.dis a u e] at z; cases z
      · obtain ⟨a', o, g1', g2, g3, g4, g5⟩ := R1.cell n c z1
        rw [z3] at g1'; cases g1'
        rw [e] at g2; cases g2
    · obtain ⟨a, o, h1, h2, h3, h4, h5⟩ := M0.cell n c e
      refine ⟨a, o, h1, h2, ?_, h4, h5⟩
      unfold frOf
      rw [if_neg]
      rintro (z | ⟨n', c', z1, z2, z3⟩)
      · rw [h3] at z; cases z
      · have e' : m0[n]? = some c := by
          rw [List.getElem?_map] at e
          cases q : m0[n]? with
          | none => rw [q] at e; cases e
          | some d => rw [q] at e; cases e; rfl
        obtain ⟨j, c2, y1, y2, y3⟩ := hc n c e'
        rw [em n j y1] at h1
        have := R1.inj n' j c' c2 a z1 y3 z3 h1
        subst this
        exact z2 (List.mem_of_getElem? y1)
  refine ⟨alOf al1 r, S1, frOf al1 F H1 g1.mem r, m0, ws0, _, M1, (denWs_dn em hu).mpr e1, q1, fun al2 S2 H2 m1 cs v w M2 l2 sS d2 q2 => ?_⟩
  obtain ⟨w', m1', cs', hw, hm1, hcs, q2⟩ := q2
  have lA : (alOf al1 r).length = r.length := by unfold alOf; simp
  have l3 : al2.length = cs.length := by
    have := M2.len
    rw [List.length_append, lA, List.length_map, List.length_append, l2, hl] at this
    omega
  have em2 : Emb (alOf al1 r ++ al2) (al1 ++ al2) (r ++ (List.range cs.length).map (g1.mem.length + ·)) := by
    intro i j e
    rcases Nat.lt_or_ge i r.length with hi | hi
    · rw [List.getElem?_append_left hi] at e
      rw [List.getElem?_append_left (by rw [lA]; exact hi), em i j e, List.getElem?_append_left (by rw [R1.len]; exact lt j (List.mem_of_getElem? e))]
    · rw [List.getElem?_append_right hi, List.getElem?_map] at e
      cases q : (List.range cs.length)[i - r.length]? with
      | none => rw [q] at e; cases e
      | some z =>
        rw [q] at e
        have hz : i - r.length < cs.length := by
          have := (List.getElem?_eq_some_iff.mp q).1
          simpa using this
        rw [List.getElem?_range hz] at q
        cases q
        have e : g1.mem.length + (i - r.length) = j := Option.some.inj e
        subst e
        rw [List.getElem?_append_right (by rw [lA]; exact hi), List.getElem?_append_right (by rw [R1.len]; omega), lA, R1.len]
        congr 1
        omega
  have gr2 : Grow al1 S1 (al1 ++ al2) S2 := ⟨⟨al2, rfl⟩, sS⟩
  have lm : (setAll g1.mem r m1').length = g1.mem.length := setAll_len _ _ _
  have lm1 : r.length = m1'.length := by rw [cups_len hm1, l2, hl]
  have lcs : cs'.length = cs.length := cups_len hcs
  -- where a cell of the new store stands
  have whr : ∀ (n : Nat) (c : Cell), (setAll g1.mem r m1' ++ cs'.map some)[n]? = some (some c) → (n < g1.mem.length ∧ n ∉ r ∧ g1.mem[n]? = some (some c)) ∨ ∃ (i : Nat) (c0 : Cell), (m1 ++ cs)[i]? = some c0 ∧ c0.up (r ++ (List.range cs.length).map (g1.mem.length + ·)) = some c ∧ (r ++ (List.range cs.length).map (g1.mem.length + ·))[i]? = some n := fun n c e => by
    rcases Nat.lt_or_ge n g1.mem.length with hn | hn
    · rw [List.getElem?_append_left (by rw [lm]; exact hn)] at e
      by_cases hr : n ∈ r
      · obtain ⟨i, hi⟩ := List.getElem?_of_mem hr
        obtain ⟨c2, h1, h2⟩ := setAll_in g1.mem r m1' nd lt lm1 hi
        rw [e] at h2; cases h2
        have him : i < m1.length := by
          rw [l2, ← hl]
          exact (List.getElem?_eq_some_iff.mp hi).1
        obtain ⟨c3, h3, h4⟩ := cups_get hm1 (List.getElem?_eq_getElem him)
        rw [h1] at h3; cases h3
        refine .inr ⟨i, _, by rw [List.getElem?_append_left him]; exact List.getElem?_eq_getElem him, h4, ?_⟩
        rw [List.getElem?_append_left (List.getElem?_eq_some_iff.mp hi).1]
        exact hi
      · rw [setAll_out _ _ _ hr] at e
        exact .inl ⟨hn, hr, e⟩
    · rw [List.getElem?_append_right (by rw [lm]; exact hn), lm, List.getElem?_map] at e
      cases q : cs'[n - g1.mem.length]? with
      | none => rw [q] at e; cases e
      | some d =>
        rw [q] at e; cases e
        have hi : n - g1.mem.length < cs.length := by
          rw [← lcs]
          exact (List.getElem?_eq_some_iff.mp q).1
        obtain ⟨c3, h3, h4⟩ := cups_get hcs (List.getElem?_eq_getElem hi)
        rw [q] at h3; cases h3
        refine .inr ⟨r.length + (n - g1.mem.length), _, ?_, h4, ?_⟩
        · rw [List.getElem?_append_right (by rw [l2, ← hl]; omega), show r.length + (n - g1.mem.length) - m1.length = n - g1.mem.length by rw [l2, ← hl]; omega]
          exact List.getElem?_eq_getElem hi
        · rw [List.getElem?_append_right (by omega), show r.length + (n - g1.mem.length) - r.length = n - g1.mem.length by omega, List.getElem?_map, List.getElem?_range hi, Option.map_some]
          congr 1
          omega
  have at2 : ∀ (i : Nat) (c0 : Cell), (m1 ++ cs)[i]? = some c0 → ((m1 ++ cs).map some)[i]? = some (some c0) := fun i c0 e => by rw [List.getElem?_map, e]; rfl
  have frz : ∀ (n : Nat) (c : Cell) (a : Addr) , n ∉ r → g1.mem[n]? = some (some c) → al1[n]? = some a → ∃ o, H1 a = some o ∧ frOf al1 F H1 g1.mem r a = some o ∧ S1 a = none ∧ F a = none ∧ CellOk K al1 S1 c o := fun n c a hn e ea => by
    obtain ⟨a', o, g1', g2, g3, g4, g5⟩ := R1.cell n c e
    rw [ea] at g1'; cases g1'
    refine ⟨o, g4, ?_, g2, g3, g5⟩
    unfold frOf
    rw [if_pos (.inr ⟨n, c, e, hn, ea⟩)]
    exact g4
  have M3 : RepM K (al1 ++ al2) S2 F H2 (setAll g1.mem r m1' ++ cs'.map some) := by
    refine ⟨M2.same, fun a u e => M2.fr a u (hF a u e), fun a u e => hN a (M2.dis a u e), ?_, fun n c e => ?_, fun n n' c c' a e1 e2 e3 e4 => ?_⟩
    · rw [List.length_append, List.length_append, lm, List.length_map, lcs, R1.len, l3]
    · rcases whr n c e with ⟨hn, hr, e'⟩ | ⟨i, c0, h1, h2, h3⟩
      · have ha : ∃ a, al1[n]? = some a := ⟨_, List.getElem?_eq_getElem (by rw [R1.len]; exact hn)⟩
        obtain ⟨a, ea⟩ := ha
        obtain ⟨o, y1, y2, y3, y4, y5⟩ := frz n c a hr e' ea
        refine ⟨a, o, gr2.get ea, ?_, y4, M2.fr a o y2, y5.grow gr2⟩
        cases q : S2 a with
        | none => rfl
        | some u => have := M2.dis a u q; rw [y2] at this; cases this
      · obtain ⟨a, o, y1, y2, y3, y4, y5⟩ := M2.cell i c0 (at2 i c0 h1)
        exact ⟨a, o, by rw [← em2 i n h3]; exact y1, y2, hN a y3, y4, (cell_dn em2 h2).mp y5⟩
    · rcases whr n c e1 with ⟨hn, hr, e'⟩ | ⟨i, c0, h1, h2, h3⟩
      · have ea1 : al1[n]? = some a := by rw [List.getElem?_append_left (by rw [R1.len]; exact hn)] at e3; exact e3
        rcases whr n' c' e2 with ⟨hn', hr', e''⟩ | ⟨i, c0, h1, h2, h3⟩
        · have ea2 : al1[n']? = some a := by rw [List.getElem?_append_left (by rw [R1.len]; exact hn')] at e4; exact e4
          exact R1.inj n n' c c' a e' e'' ea1 ea2
        · obtain ⟨o, y1, y2, y3, y4, y5⟩ := frz n c a hr e' ea1
          obtain ⟨a', o', z1, z2, z3, z4, z5⟩ := M2.cell i c0 (at2 i c0 h1)
          rw [em2 i n' h3, e4] at z1; cases z1
          rw [y2] at z3; cases z3
      · rcases whr n' c' e2 with ⟨hn', hr', e''⟩ | ⟨i', c0', h1', h2', h3'⟩
        · have ea2 : al1[n']? = some a := by rw [List.getElem?_append_left (by rw [R1.len]; exact hn')] at e4; exact e4
          obtain ⟨o, y1, y2, y3, y4, y5⟩ := frz n' c' a hr' e'' ea2
          obtain ⟨a', o', z1, z2, z3, z4, z5⟩ := M2.cell i c0 (at2 i c0 h1)
          rw [em2 i n h3, e3] at z1; cases z1
          rw [y2] at z3; cases z3
        · have := M2.inj i i' c0 c0' a (at2 i c0 h1) (at2 i' c0' h1') (by rw [em2 i n h3]; exact e3) (by rw [em2 i' n' h3']; exact e4)
          subst this
          rw [h3] at h3'
          exact Option.some.inj h3'
  exact k _ _ _ _ _ w' (R1.withM2 gr2 M3) (gr1.trans gr2) ((denW_dn em2 hw).mp d2) q2
theorem der_callS {C : SC} {E : XK} (h : DAr K τs ts) : DEr K (tCall (sps K C) [] E τs) (dCallS C ts) := by
  intro al S F H σ g Q QV R q k
  refine h al S F H σ g _ _ R q fun al1 S1 H1 g1 vs ws R1 gr1 e1 q1 => ?_
  rw [List.append_nil]
  exact callS_at R1 e1 q1 (k.grow gr1)
/-! pure defs: trees in, a tree or a fresh cell out -/
inductive R0 where
  | t (x : T) | f (c : Cell)
abbrev PC := List T → (R0 → Prop) → Prop
def PC.s (C : PC) : SC := fun ws m QC => ∃ ts, treesW ws = some ts ∧ m = [] ∧ C ts fun r => match r with
  | .t t => QC (.t t) [] []
  | .f c => QC (.h 0) [] [c]
def Cell.plain : Cell → Bool
  | .lt _ => true
  | .dt _ _ => true
  | _ => false
theorem up_plain {c : Cell} (h : c.plain = true) (r : List Nat) : c.up r = some c := by
  cases c <;> first | rfl | cases h
/-- a fresh cell handed back is taken as a tree -/
def dCallT (C : PC) (t : DAt) : Dt := fun g Q => t g fun ws g1 => match treesW ws with
  | some ts => C ts fun r => match r with
    | .t t => Q (.t t) g1
    | .f c => (match c.tree with | some t => Q (.t t) g1 | none => False)
  | none => False
/-- .. as a cell -/
def dCallH (C : PC) (t : DAt) : Dt := fun g Q => t g fun ws g1 => match treesW ws with
  | some ts => C ts fun r => match r with
    | .t t => Q (.t t) g1
    | .f c => c.plain = true ∧ Q (.h g1.mem.length) (g1.push c)
  | none => False
theorem ups_trees : ∀ {ws : List W} {ts : List T}, treesW ws = some ts → ups [] ws = some ws
  | [], _, _ => rfl
  | .t x :: ws, ts, e => by
    unfold treesW at e
    cases q : treesW ws with
    | none => rw [q] at e; cases e
    | some us =>
      unfold ups
      rw [ups_trees q]
      rfl
  | .h n :: ws, ts, e => by cases e
/-- the caller's own part behind a call that was handed no cell -/
theorem RepM.back {al : List Addr} {S S' F H H' : Hp} {m : Sto} (R : RepM K al S F H m) (sS : Same S S') (h1 : Same S' H') (h2 : Same (frOf al F H m []) H') (h3 : ∀ a o, S' a = some o → frOf al F H m [] a = none) : RepM K al S' F H' m := by
  have hF : ∀ a u, F a = some u → frOf al F H m [] a = some u := fun a u e => by
    unfold frOf
    rw [if_pos (.inl (by rw [e]; rfl))]
    exact R.fr a u e
  refine ⟨h1, fun a u e => h2 a u (hF a u e), fun a u e => ?_, R.len, fun n c e => ?_, R.inj⟩
  · cases q : F a with
    | none => rfl
    | some v => have := h3 a u e; rw [hF a v q] at this; cases this
  · obtain ⟨a, o, g1, g2, g3, g4, g5⟩ := R.cell n c e
    have q : frOf al F H m [] a = some o := by
      unfold frOf
      rw [if_pos (.inr ⟨n, c, e, by simp, g1⟩)]
      exact g4
    refine ⟨a, o, g1, ?_, g3, h2 a o q, g5.grow ⟨⟨[], by simp⟩, sS⟩⟩
    cases q2 : S' a with
    | none => rfl
    | some u => have := h3 a u q2; rw [q] at this; cases this
theorem RepM.none0 {al : List Addr} {S F H : Hp} {m : Sto} (R : RepM K al S F H m) : RepM K [] S (frOf al F H m []) H (([] : List Cell).map some) := by
  refine ⟨R.same, fun a u e => ?_, fun a u e => ?_, rfl, fun n c e => by simp at e, fun n k c d a e => by simp at e⟩
  · unfold frOf at e
    split at e
    · exact e
    · cases e
  · unfold frOf
    rw [if_neg]
    rintro (z | ⟨n, c, z1, z2, z3⟩)
    · rw [R.dis a u e] at z; cases z
    · obtain ⟨a', o, g1', g2, g3, g4, g5⟩ := R.cell n c z1
      rw [z3] at g1'; cases g1'
      rw [e] at g2; cases g2
theorem treesW_eq : ∀ {ws : List W} {ts : List T}, treesW ws = some ts → ws = ts.map W.t
  | [], _, e => by cases e; rfl
  | .h n :: ws, _, e => by cases e
  | .t x :: ws, ts, e => by
    unfold treesW at e
    cases q : treesW ws with
    | none => rw [q] at e; cases e
    | some us =>
      rw [q] at e
      cases e
      rw [treesW_eq q]
      rfl
theorem denW_trees {al al' : List Addr} {S : Hp} : ∀ {ws : List W} {ts : List T} {vs : List V}, treesW ws = some ts → Paired (DenW K al S) ws vs → Paired (DenW K al' S) ws vs
  | [], _, _, _, h => by cases h; exact .nil
  | .t x :: ws, ts, vs, e, h => by
    unfold treesW at e
    cases q : treesW ws with
    | none => rw [q] at e; cases e
    | some us =>
      cases h with
      | cons h1 h2 => exact .cons h1 (denW_trees q h2)
  | .h n :: ws, ts, vs, e, h => by cases e
theorem der_callT {C : PC} {E : XK} (h : DAr K τs ts) : DEr K (tCall (sps K C.s) [] E τs) (dCallT C ts) := by
  intro al S F H σ g Q QV R q k
  refine h al S F H σ g _ _ R q fun al1 S1 H1 g1 vs ws R1 gr1 e1 q1 => ?_
  rw [List.append_nil]
  split at q1
  · rename_i us eu
    refine ⟨[], S1, frOf al1 F H1 g1.mem [], [], ws, fun w m1 cs => match w, cs with | .t t, [] => Q (.t t) g1 | .h 0, [c] => (match c.tree with | some t => Q (.t t) g1 | none => False) | _, _ => False, R1.toRepM.none0, denW_trees eu e1, ⟨us, eu, rfl, ?_⟩, fun al2 S2 H2 m1 cs v w M2 l2 sS d2 q2 => ?_⟩
    · have e : (fun r : R0 => match r with | .t t => Q (.t t) g1 | .f c => (match c.tree with | some t => Q (.t t) g1 | none => False)) = (fun r : R0 => match r with | .t t => (fun (w : W) (m1 cs : List Cell) => match w, cs with | .t t, [] => Q (.t t) g1 | .h 0, [c] => (match c.tree with | some t => Q (.t t) g1 | none => False) | _, _ => False) (.t t) [] [] | .f c => (fun (w : W) (m1 cs : List Cell) => match w, cs with | .t t, [] => Q (.t t) g1 | .h 0, [c] => (match c.tree with | some t => Q (.t t) g1 | none => False) | _, _ => False) (.h 0) [] [c]) := by
        funext r
        cases r <;> rfl
      rw [← e]
      exact q1
    · rw [List.nil_append] at M2 d2
      have lm : m1 = [] := List.length_eq_zero_iff.mp l2
      subst lm
      split at q2
      · rename_i t
        exact k _ _ _ _ _ (.t t) (R1.withM2 ⟨⟨[], by simp⟩, sS⟩ (R1.toRepM.back sS M2.same M2.fr M2.dis)) (gr1.trans ⟨⟨[], by simp⟩, sS⟩) d2 q2
      · rename_i c
        split at q2
        · rename_i t et
          obtain ⟨a, o, S3, h1, rfl, h3, M3, gr3, h4⟩ := M2.frz (n := 0) (c := c) rfl
          obtain ⟨a', ha, rfl⟩ := d2
          rw [h1] at ha; cases ha
          have dt : Den K (upd S2 a o) t (.ref a) := by
            cases c with
            | lt ts =>
              cases et
              obtain ⟨vs, rfl, h5⟩ := h3
              unfold Den
              exact ⟨a, vs, rfl, h4, Dens.iff.mpr (Denp.grow gr3.s h5)⟩
            | dt ks ts =>
              cases et
              obtain ⟨vs, rfl, h5, h6⟩ := h3
              unfold Den
              exact ⟨a, vs, rfl, h4, h5, Dens.iff.mpr (Denp.grow gr3.s h6)⟩
            | _ => cases et
          have sS' := sS.trans gr3.s
          exact k _ _ _ _ _ (.t t) (R1.withM2 ⟨⟨[], by simp⟩, sS'⟩ (R1.toRepM.back sS' M3.same M3.fr M3.dis)) (gr1.trans ⟨⟨[], by simp⟩, sS'⟩) dt q2
        · exact q2.elim
      · exact q2.elim
  · exact q1.elim
theorem der_callH {C : PC} {E : XK} (h : DAr K τs ts) : DEr K (tCall (sps K C.s) [] E τs) (dCallH C ts) := by
  intro al S F H σ g Q QV R q k
  refine h al S F H σ g _ _ R q fun al1 S1 H1 g1 vs ws R1 gr1 e1 q1 => ?_
  rw [List.append_nil]
  split at q1
  · rename_i us eu
    refine ⟨[], S1, frOf al1 F H1 g1.mem [], [], ws, fun w m1 cs => match w, cs with | .t t, [] => Q (.t t) g1 | .h 0, [c] => c.plain = true ∧ Q (.h g1.mem.length) (g1.push c) | _, _ => False, R1.toRepM.none0, denW_trees eu e1, ⟨us, eu, rfl, ?_⟩, fun al2 S2 H2 m1 cs v w M2 l2 sS d2 q2 => ?_⟩
    · have e : (fun r : R0 => match r with | .t t => Q (.t t) g1 | .f c => c.plain = true ∧ Q (.h g1.mem.length) (g1.push c)) = (fun r : R0 => match r with | .t t => (fun (w : W) (m1 cs : List Cell) => match w, cs with | .t t, [] => Q (.t t) g1 | .h 0, [c] => c.plain = true ∧ Q (.h g1.mem.length) (g1.push c) | _, _ => False) (.t t) [] [] | .f c => (fun (w : W) (m1 cs : List Cell) => match w, cs with | .t t, [] => Q (.t t) g1 | .h 0, [c] => c.plain = true ∧ Q (.h g1.mem.length) (g1.push c) | _, _ => False) (.h 0) [] [c]) := by
        funext r
        cases r <;> rfl
      rw [← e]
      exact q1
    · rw [List.nil_append] at M2 d2
      have lm : m1 = [] := List.length_eq_zero_iff.mp l2
      subst lm
      split at q2
      · rename_i t
        exact k _ _ _ _ _ (.t t) (R1.withM2 ⟨⟨[], by simp⟩, sS⟩ (R1.toRepM.back sS M2.same M2.fr M2.dis)) (gr1.trans ⟨⟨[], by simp⟩, sS⟩) d2 q2
      · rename_i c
        obtain ⟨hp, q2⟩ := q2
        obtain ⟨a, o, h1, h2, h3, h4, h5⟩ := M2.cell 0 c rfl
        obtain ⟨a', ha, rfl⟩ := d2
        rw [h1] at ha; cases ha
        have M4 := R1.toRepM.back sS M2.same M2.fr M2.dis
        have h6 : CellOk K (al1 ++ [a]) S2 c o := by
          cases c with
          | lt ts => exact h5
          | dt ks ts => exact h5
          | _ => cases hp
        have nF : F a = none := by
          cases q : F a with
          | none => rfl
          | some u =>
            unfold frOf at h3
            rw [if_pos (.inl (by rw [q]; rfl))] at h3
            have := R1.fr a u q
            rw [this] at h3; cases h3
        -- the cell as a framed thing, then a cell
        have M5 : RepM K al1 S2 (upd F a o) H2 g1.mem := by
          refine ⟨M4.same, fun b u e => ?_, fun b u e => ?_, M4.len, fun n c' e => ?_, M4.inj⟩
          · by_cases hb : b = a
            · subst hb; rw [upd_same] at e; cases e; exact h4
            · rw [upd_ne hb] at e; exact M4.fr b u e
          · rw [upd_ne (fun z => by subst z; rw [h2] at e; cases e)]; exact M4.dis b u e
          · obtain ⟨b, o', y1, y2, y3, y4, y5⟩ := M4.cell n c' e
            refine ⟨b, o', y1, y2, ?_, y4, y5⟩
            rw [upd_ne]
            · exact y3
            · intro z
              subst z
              have : frOf al1 F H1 g1.mem [] b ≠ none := by
                obtain ⟨b', o2, z1, z2, z3, z4, z5⟩ := R1.cell n c' e
                rw [y1] at z1; cases z1
                unfold frOf
                rw [if_pos (.inr ⟨n, c', e, by simp, y1⟩), z4]
                simp
              exact this h3
        obtain ⟨M6, gr6⟩ := M5.frC (c := c) nF h6
        have gr : Grow al1 S1 (al1 ++ [a]) S2 := ⟨⟨[a], rfl⟩, sS⟩
        refine k _ _ _ _ _ (.h g1.mem.length) (R1.withM2 gr M6) (gr1.trans gr) ⟨a, ?_, rfl⟩ q2
        rw [List.getElem?_append_right (by rw [R1.len]; exact Nat.le_refl _), R1.len]; simp
      · exact q2.elim
  · exact q1.elim
end
section
variable {X : Cx} {e : Expr} {es : List Expr} {τs : TA} {ts : DAt} {pos : Pos}
theorem de_callS {k : Nat} {f : Addr} {fd : FuncData} {ps : List Str} {C : SC} {x : Str} {p : Pos} (F : FnOk X.prog X.w X.K X.mg X.base CX0 k f fd ps (sps X.K C)) (hr : Room k X.A) (hm : X.mg x = some (.ref f)) (hk : PySem.W.keepIn X.K (.ref f) = true) (hb : Binds X.K fd ps [])
    (ha : DA X (e :: es) τs ts) (hg : Gl X x := by rfl) (hdb : (x == ("__debug__" : Str)) = false := by decide) (he : starEach (e :: es) X.env = (false, eval e X.env) :: starEach es X.env := by rfl) (hpl : (backTo pos (starEach es X.env)).any (·.1) = false := by rfl) :
    DE X (.Call (.Name x p) (e :: es) [] pos) (tCall (sps X.K C) [] E0 τs) (dCallS C ts) :=
  ⟨pe_call F hr hg hm hk hb .nil pass0 ha.pe hdb he hpl, der_callS ha.r⟩
theorem de_callT {k : Nat} {f : Addr} {fd : FuncData} {ps : List Str} {C : PC} {x : Str} {p : Pos} (F : FnOk X.prog X.w X.K X.mg X.base CX0 k f fd ps (sps X.K C.s)) (hr : Room k X.A) (hm : X.mg x = some (.ref f)) (hk : PySem.W.keepIn X.K (.ref f) = true) (hb : Binds X.K fd ps [])
    (ha : DA X (e :: es) τs ts) (hg : Gl X x := by rfl) (hdb : (x == ("__debug__" : Str)) = false := by decide) (he : starEach (e :: es) X.env = (false, eval e X.env) :: starEach es X.env := by rfl) (hpl : (backTo pos (starEach es X.env)).any (·.1) = false := by rfl) :
    DE X (.Call (.Name x p) (e :: es) [] pos) (tCall (sps X.K C.s) [] E0 τs) (dCallT C ts) :=
  ⟨pe_call F hr hg hm hk hb .nil pass0 ha.pe hdb he hpl, der_callT ha.r⟩
theorem de_callH {k : Nat} {f : Addr} {fd : FuncData} {ps : List Str} {C : PC} {x : Str} {p : Pos} (F : FnOk X.prog X.w X.K X.mg X.base CX0 k f fd ps (sps X.K C.s)) (hr : Room k X.A) (hm : X.mg x = some (.ref f)) (hk : PySem.W.keepIn X.K (.ref f) = true) (hb : Binds X.K fd ps [])
    (ha : DA X (e :: es) τs ts) (hg : Gl X x := by rfl) (hdb : (x == ("__debug__" : Str)) = false := by decide) (he : starEach (e :: es) X.env = (false, eval e X.env) :: starEach es X.env := by rfl) (hpl : (backTo pos (starEach es X.env)).any (·.1) = false := by rfl) :
    DE X (.Call (.Name x p) (e :: es) [] pos) (tCall (sps X.K C.s) [] E0 τs) (dCallH C ts) :=
  ⟨pe_call F hr hg hm hk hb .nil pass0 ha.pe hdb he hpl, der_callH ha.r⟩
end
/-! the ends of a pure def's body -/
def FinP (C : R0 → Prop) : W → G → Prop := fun w g => match w with
  | .t t => C (.t t)
  | .h n => match g.mem[n]? with | some (some c) => c.plain = true ∧ C (.f c) | _ => False
theorem finP_s {C : R0 → Prop} {QC : W → List Cell → List Cell → Prop} (hC : ∀ r, C r → match r with | .t t => QC (.t t) [] [] | .f c => QC (.h 0) [] [c]) {w : W} {g : G} (h : FinP C w g) : FinS 0 QC w g := by
  unfold FinP at h
  split at h
  · rename_i t
    exact ⟨[], [], [], .t t, by simp, by simp, rfl, rfl, rfl, fun i c e => by simp at e, hC _ h⟩
  · rename_i n
    split at h
    · rename_i c em
      obtain ⟨hp, h⟩ := h
      have hn : n < g.mem.length := (List.getElem?_eq_some_iff.mp em).1
      refine ⟨[n], [], [c], .h 0, by simp, by simpa using hn, rfl, rfl, rfl, fun i c' e => ?_, hC _ h⟩
      cases i with
      | zero =>
        simp at e
        subst e
        exact ⟨n, c, rfl, up_plain hp _, em⟩
      | succ i => simp at e
    · exact h.elim
section
variable {P : Program} {w : World} {K : PySem.W.Frag} {mg : Str → Option Value} {base : Heap}
/-- THE RULE for a pure def -/
theorem pfn_ok {x qual : Str} {st : Stmt} {f : Addr} {fd : FuncData} {N ps : List Str} {k : Nat} {C : PC} (Fn : Fun K x qual st f fd) (Sc : FnScope N ps (defScope st)) (hlen : ∀ ts Q, C ts Q → ts.length = ps.length)
    (hb : ∀ (cdv : Value) (A : Around) (outer : List Env) (s : Shared) (H : Hp) (E : XK), Room k (A.deeper (PyProof.Rows.envOfC qual (defScope st) s.heap.objs.size f cdv)) →
      ∃ τ t, DSs (cxOf CX0 P w K mg base N qual (defScope st) f cdv A outer s H E).nox (defBody st) τ t ∧ ∀ ts Q, C ts Q → t ⟨FinP Q (.t .non), FinP Q, fun _ => False, fun _ => False⟩ ⟨ts.map (fun t => some (W.t t)) ++ List.replicate (N.length - ts.length) none, []⟩) :
    FnOk P w K mg base CX0 (k + 1) f fd ps (sps K C.s) := by
  refine Fn.ok Sc (fun vs H Q E h => ?_) fun cdv A outer s H vs Q E hr h => ?_
  · obtain ⟨al, S, F, m0, ws, QC, _, d, ⟨ts, e, _, c⟩, _⟩ := h
    rw [← d.length, treesW_eq e, List.length_map]
    exact hlen _ _ c
  · obtain ⟨al, S, F, m0, ws, QC, M, d, ⟨ts, e, rfl, c⟩, q⟩ := h
    obtain ⟨τ, t, D, ht⟩ := hb cdv A outer s H E hr
    refine ⟨τ, D.pe, ?_⟩
    have hl : al.length = ([] : List Cell).length := by rw [M.len, List.length_map]
    have R := start_rep (N := N) M d
    have ew := treesW_eq e
    subst ew
    have hw : (ts.map W.t).map some = ts.map (fun t => some (W.t t)) := by rw [List.map_map]; rfl
    rw [hw, List.length_map] at R
    have q0 := ht ts _ c
    refine D.r al S F H _ _ _ _ R q0 ⟨fun al' S' H' σ' g' R' gr' q' => ?_, fun al' S' H' σ' g' v u R' gr' d' q' => ?_, fun _ _ _ _ _ _ _ z => z.elim, fun _ _ _ _ _ _ _ z => z.elim⟩
    · exact sps_fin (u := .t .non) (QC := QC) R' gr' hl (by unfold DenW Den; rfl) (finP_s (C := fun r => match r with | .t t => QC (.t t) [] [] | .f c => QC (.h 0) [] [c]) (fun r hr => hr) q') q
    · exact sps_fin (QC := QC) R' gr' hl d' (finP_s (C := fun r => match r with | .t t => QC (.t t) [] [] | .f c => QC (.h 0) [] [c]) (fun r hr => hr) q') q
end
end DL

namespace DL
open PySem PySem.Spec L2

section
variable {X : Cx} {a b e : Expr} {τa τb τe : TE} {ta tb te : Dt} {pos : Pos} {es : List Expr} {τs : TA} {ts : DAt}
def fNeg : F1 := fun g x Q => match x with | .t (.int i) => Q (.t (.int (-i))) g | _ => False
def fRep : F2 := fun g x y Q => match g.seqL? x, y with
  | some xs, .t (.int k) => (-(2 ^ 63) ≤ k ∧ k < 2 ^ 63 ∧ xs.length * k.toNat ≤ sizeLine) ∧ Q (.t (.lst (List.replicate k.toNat xs).flatten)) g
  | _, _ => False
theorem prep {α β : Type} {F : α → β → Prop} {xs : List α} {ys : List β} (p : Paired F xs ys) : ∀ n : Nat, Paired F (List.replicate n xs).flatten (List.replicate n ys).flatten
  | 0 => .nil
  | n + 1 => by
    rw [List.replicate_succ, List.replicate_succ, List.flatten_cons, List.flatten_cons]
    exact papp p (prep p n)
theorem op2_rep {K : PySem.W.Frag} : Op2 K rRep fRep := by
  intro al S F H σ g x y wx wy Q QV R dx dy q k
  unfold fRep at q
  split at q
  · rename_i xs z ex
    obtain ⟨a, vs, rfl, h1, h2⟩ := R.viewL dx ex
    unfold DenW Den at dy
    refine ⟨a, z, vs, rfl, dy, h1, q.1.1, q.1.2.1, by rw [← h2.length]; exact q.1.2.2, fun p np => ?_⟩
    obtain ⟨R1, gr, d⟩ := R.layL np (prep h2 z.toNat)
    exact k _ _ _ _ _ _ R1 gr d q.2
  · exact q.elim
theorem de_rep (ha : DE X a τa ta) (hb : DE X b τb tb) : DE X (.BinOp a .Mult b pos) (tOp rRep τa τb) (d2 fRep ta tb) := de_op op_rep op2_rep ha hb
/-- lists of handles put together: a new cell -/
def G.wl? (g : G) (w : W) : Option (List W) := match g.cell? w with | some (.lt ts) => some (ts.map W.t) | some (.lw ws) => some ws | _ => none
theorem Rep.viewWl {K : PySem.W.Frag} {al : List Addr} {S F H : Hp} {σ : L2.St} {g : G} (R : Rep K al S F H σ g) {w : W} {v : V} {ws : List W} (d : DenW K al S w v) (e : g.wl? w = some ws) : ∃ a vs, v = .ref a ∧ H a = some (.lst vs) ∧ Paired (DenW K al S) ws vs := by
  unfold G.wl? at e
  split at e
  · rename_i ts q
    cases e
    obtain ⟨a, o, h1, h2, vs, rfl, h3⟩ := R.view d q
    exact ⟨a, vs, h1, h2, (pmapL W.t).mpr h3⟩
  · rename_i ts q
    cases e
    obtain ⟨a, o, h1, h2, vs, rfl, h3⟩ := R.view d q
    exact ⟨a, vs, h1, h2, h3⟩
  · cases e
def fAddW : F2 := fun g x y Q => match g.wl? x, g.wl? y with
  | some xs, some ys => xs.length + ys.length ≤ sizeLine ∧ Q (.h g.mem.length) (g.push (.lw (xs ++ ys)))
  | _, _ => False
theorem op2_addW {K : PySem.W.Frag} : Op2 K rCat fAddW := by
  intro al S F H σ g x y wx wy Q QV R dx dy q k
  unfold fAddW at q
  split at q
  · rename_i xs ys ex ey
    obtain ⟨a, vs, rfl, h1, h2⟩ := R.viewWl dx ex
    obtain ⟨b, us, rfl, h3, h4⟩ := R.viewWl dy ey
    refine ⟨a, b, vs, us, rfl, rfl, h1, h3, by rw [← h2.length, ← h4.length]; exact q.1, fun p np => ?_⟩
    obtain ⟨R1, gr, d⟩ := R.pushC (c := .lw (xs ++ ys)) (o := .lst (vs ++ us)) np ⟨_, rfl, DenWs.grow ⟨⟨[p], rfl⟩, Same.refl _⟩ (papp h2 h4)⟩
    exact k _ _ _ _ _ _ R1 gr d q.2
  · exact q.elim
theorem de_addW (ha : DE X a τa ta) (hb : DE X b τb tb) : DE X (.BinOp a .Add b pos) (tOp rCat τa τb) (d2 fAddW ta tb) := de_op op_cat op2_addW ha hb
/-- xs[::-1] -/
def fRev : F1 := fun g x Q => match g.lq? x with | some ts => Q (.t (.lst ts.reverse)) g | none => False
theorem de_rev {k : Nat} {p1 p2 p3 : Pos} (ha : DE X a τa ta) : DE X (.Subscript a (.Slice none none (some (.UnaryOp .USub (.Constant (.int 1) k p1) p2)) p3) pos) (tRevL X.K τa) (d1 fRev ta) := by
  refine ⟨pe_revL ha.pe, fun al S F H σ g Q QV R q k => ?_⟩
  refine ha.r al S F H σ g _ _ R q fun al1 S1 H1 g1 v1 w1 R1 gr1 e1 q1 => ?_
  unfold fRev at q1
  split at q1
  · rename_i us eu
    obtain ⟨a, vs, rfl, h1, h2⟩ := R1.viewQ e1 eu
    refine ⟨a, vs, rfl, h1, fun p np => ?_⟩
    obtain ⟨R2, gr2, d2⟩ := R1.layL np (prev h2)
    exact k _ _ _ _ _ _ R2 (gr1.trans gr2) d2 q1
  · exact q1.elim
/-- slices as new cells -/
def dSlH (t : Dt) (l u : DOt) : Dt := fun g Q => t g fun x g1 => l g1 fun lo g2 => u g2 fun hi g3 => match g3.lq? x with
  | some ts => Q (.h g3.mem.length) (g3.push (.lt (cut ts lo hi)))
  | none => False
theorem de_slH {lo hi : Option Expr} {τl τh : TO} {tl th : DOt} {p2 : Pos} (ha : DE X a τa ta) (hl : DO X lo τl tl) (hh : DO X hi τh th) : DE X (.Subscript a (.Slice lo hi none p2) pos) (tSl (rSlL X.K) τa τl τh) (dSlH ta tl th) := by
  refine ⟨pe_slice sl_list ha.pe hl.pe hh.pe, fun al S F H σ g Q QV R q k => ?_⟩
  refine ha.r al S F H σ g _ _ R q fun al1 S1 H1 g1 v1 w1 R1 gr1 e1 q1 => ?_
  refine hl.r al1 S1 F H1 σ g1 _ _ R1 q1 fun al2 S2 H2 g2 b2 R2 gr2 q2 => ?_
  refine hh.r al2 S2 F H2 σ g2 _ _ R2 q2 fun al3 S3 H3 g3 b3 R3 gr3 q3 => ?_
  split at q3
  · rename_i ts e
    obtain ⟨a, vs, rfl, h1, h2⟩ := R3.viewQ (e1.grow (gr2.trans gr3)) e
    refine ⟨a, vs, rfl, h1, fun p np => ?_⟩
    have hp : Paired (Den X.K S3) (cut ts b2 b3) (cutV vs b2 b3) := by
      unfold cut cutV
      rw [h2.length]
      exact ptake _ (pdrop _ h2)
    obtain ⟨R4, gr4, d⟩ := R3.pushC (c := .lt (cut ts b2 b3)) (o := .lst (cutV vs b2 b3)) np ⟨_, rfl, hp⟩
    exact k _ _ _ _ _ _ R4 (gr1.trans (gr2.trans (gr3.trans gr4))) d q3
  · exact q3.elim
/-- a written dict: a new cell -/
structure DP (X : Cx) (pos : Pos) (keys : List (Option Expr)) (values : List Expr) (trs : List (TE × TE)) (ts : List (Dt × Dt)) : Prop where
  pe : PPs X pos keys values trs
  r : ∀ (al : List Addr) (S F H : Hp) (σ : L2.St) (g : G) (Q : List (Key × T) → G → Prop) (QV : List (V × V) → Hp → Prop), Rep X.K al S F H σ g → (ts.foldr (fun (p : Dt × Dt) (r : G → (List (Key × T) → G → Prop) → Prop) => fun g Q => p.1 g fun w g1 => match w with | .t kt => (match keyT kt with | some k => p.2 g1 fun w2 g2 => (match w2 with | .t x => r g2 fun ps g3 => Q ((k, x) :: ps) g3 | _ => False) | none => False) | _ => False) (fun g Q => Q [] g)) g Q →
    (∀ al' S' H' g' ps (kvs : List (Key × V)), Rep X.K al' S' F H' σ g' → Grow al S al' S' → Paired (fun (p : Key × T) (q : Key × V) => p.1 = q.1 ∧ Den X.K S' p.2 q.2) ps kvs → Q ps g' → QV (kvs.map fun kv => (kV kv.1, kv.2)) H') → tPairs trs σ H QV
theorem dp_nil : DP X pos [] [] [] [] := ⟨pps_nil, fun al S F H σ g Q QV R q k => k al S H g [] [] R (Grow.refl _ _) .nil q⟩
theorem dp_cons {ks : List (Option Expr)} {vs : List Expr} {trs : List (TE × TE)} {us : List (Dt × Dt)} (ha : DE X a τa ta) (hb : DE X b τb tb) (hr : DP X pos ks vs trs us) : DP X pos (some a :: ks) (b :: vs) ((τa, τb) :: trs) ((ta, tb) :: us) := by
  refine ⟨pps_cons ha.pe hb.pe hr.pe, fun al S F H σ g Q QV R q k => ?_⟩
  rw [List.foldr_cons] at q
  refine ha.r al S F H σ g _ _ R q fun al1 S1 H1 g1 v1 w1 R1 gr1 e1 q1 => ?_
  split at q1
  · split at q1
    · rename_i kt key ek
      have ev := key_den ek e1
      subst ev
      refine hb.r al1 S1 F H1 σ g1 _ _ R1 q1 fun al2 S2 H2 g2 v2 w2 R2 gr2 e2 q2 => ?_
      split at q2
      · rename_i x
        refine hr.r al2 S2 F H2 σ g2 _ _ R2 q2 fun al3 S3 H3 g3 ps kvs R3 gr3 pr q3 => ?_
        have dx : Den X.K S3 x v2 := Den.mono gr3.s x v2 e2
        exact k al3 S3 H3 g3 _ ((key, v2) :: kvs) R3 (gr1.trans (gr2.trans gr3)) (.cons ⟨rfl, dx⟩ pr) q3
      · exact q2.elim
    · exact q1.elim
  · exact q1.elim
def mergeT (ps : List (Key × T)) (acc : List Key × List T) : List Key × List T := ps.foldl (fun acc p => (putKs acc.1 p.1, putXs acc.1 acc.2 p.1 p.2)) acc
def dDisp (us : List (Dt × Dt)) : Dt := fun g Q => (us.foldr (fun (p : Dt × Dt) (r : G → (List (Key × T) → G → Prop) → Prop) => fun g Q => p.1 g fun w g1 => match w with | .t kt => (match keyT kt with | some k => p.2 g1 fun w2 g2 => (match w2 with | .t x => r g2 fun ps g3 => Q ((k, x) :: ps) g3 | _ => False) | none => False) | _ => False) (fun g Q => Q [] g)) g fun ps g' =>
  ps.length ≤ 15 ∧ Q (.h g'.mem.length) (g'.push (.dt (mergeT ps ([], [])).1 (mergeT ps ([], [])).2))
theorem merge_zip {K : PySem.W.Frag} {S : Hp} : ∀ {ps : List (Key × T)} {kvs : List (Key × V)} {ks : List Key} {us : List T} {vs : List V}, Paired (fun (p : Key × T) (q : Key × V) => p.1 = q.1 ∧ Den K S p.2 q.2) ps kvs → ks.length = us.length → Paired (Den K S) us vs →
    ∃ vs', mergeK (ks.zip vs) kvs = (mergeT ps (ks, us)).1.zip vs' ∧ (mergeT ps (ks, us)).1.length = (mergeT ps (ks, us)).2.length ∧ Paired (Den K S) (mergeT ps (ks, us)).2 vs'
  | [], _, ks, us, vs, .nil, hl, p => ⟨vs, rfl, hl, p⟩
  | q :: ps, kv :: kvs, ks, us, vs, .cons ⟨h1, h2⟩ t, hl, p => by
    obtain ⟨k1, x⟩ := q
    obtain ⟨k2, v⟩ := kv
    cases h1
    have hv : ks.length = vs.length := by rw [hl, p.length]
    have ih := merge_zip (ks := putKs ks k1) (us := putXs ks us k1 x) (vs := putXs ks vs k1 v) t (putX_len hl) (putX_pair h2 p)
    unfold mergeK at ih ⊢
    rw [List.foldl_cons]
    dsimp only
    rw [putK_zip hv]
    exact ih
theorem de_disp {keys : List (Option Expr)} {values : List Expr} {trs : List (TE × TE)} {us : List (Dt × Dt)} (h : DP X pos keys values trs us) (hall : keys.all (·.isSome) = true) (hl : keys.length = values.length) (h0 : keys ≠ [])
    (h15 : keys.length ≤ 15) : DE X (.Dict keys values pos) (tDisp trs) (dDisp us) := by
  refine ⟨pe_disp h.pe hall hl h0 h15, fun al S F H σ g Q QV R q k => fun p np => ?_⟩
  have nF : F p = none := R.fr.free np
  have R1 : Rep X.K al S (upd F p (.dK [])) (upd H p (.dK [])) σ g := ⟨R.toRepM.frNew np, R.slen, R.slot⟩
  refine h.r al S _ _ σ g _ _ R1 q fun al1 S1 H1 g1 ps kvs R2 gr2 pr q2 => ?_
  have eD : H1 p = some (.dK []) := R2.fr _ _ upd_same
  refine ⟨eD, kvs, rfl, by rw [← pr.length]; exact q2.1, ?_⟩
  obtain ⟨vs', h1, h2, h3⟩ := merge_zip (ks := []) (us := []) (vs := []) pr rfl .nil
  have h1 : mergeK [] kvs = (mergeT ps ([], [])).1.zip vs' := h1
  rw [h1]
  have R3 := R2.toRepM.frPut (o' := .dK ((mergeT ps ([], [])).1.zip vs'))
  obtain ⟨M, gr3⟩ := R3.frC (c := .dt (mergeT ps ([], [])).1 (mergeT ps ([], [])).2) nF ⟨vs', rfl, h2, h3⟩
  refine k _ _ _ _ _ (.h g1.mem.length) (R2.withM2 gr3 M) (gr2.trans gr3) ⟨p, ?_, rfl⟩ q2.2
  rw [List.getElem?_append_right (by rw [R2.len]; exact Nat.le_refl _), R2.len]; simp
/-- a, b = x, y -/
def dPar (i j : Nat) (t : DAt) : DSt := fun D g => t g fun ws g1 => match ws with | [u, v] => D.nx ((g1.set i u).set j v) | _ => False
theorem ds_par (i j : Nat) {x y : Str} {px py pt : Pos} {kt k2 pt2} (hN : X.N.Nodup) (ha : DA X [a, b] τs ts) (hc : X.calm = true := by rfl) (hi : X.N[i]? = some x := by rfl) (hj : X.N[j]? = some y := by rfl) (hij : i ≠ j := by decide)
    (hx : X.env.scope.names.lookup x = some .local := by rfl) (hy : X.env.scope.names.lookup y = some .local := by rfl)
    (hw : swappedStores [.Tuple [.Name x px, .Name y py] kt pt] (.Tuple [a, b] k2 pt2) X.env = pure (some [x, y]) := by rfl)
    (hs : swapsWithSole [.Tuple [.Name x px, .Name y py] kt pt] (.Tuple [a, b] k2 pt2) pos.line X.env = pure false := by rfl) :
    DS X (.Assign [.Tuple [.Name x px, .Name y py] kt pt] (.Tuple [a, b] k2 pt2) pos) (tPar i j τs) (dPar i j ts) := by
  refine ⟨ps_par hc hN hi hj hij hx hy ha.pe hw hs, fun al S F H σ g D DV R q k => ?_⟩
  refine ha.r al S F H σ g _ _ R q fun al1 S1 H1 g1 vs ws R1 gr1 e1 q1 => ?_
  unfold dPar at q
  split at q1
  · rename_i u v
    obtain ⟨vu, vv, rfl, d1, d2⟩ := p2 e1
    exact ⟨vu, vv, rfl, k.nx _ _ _ _ _ ((R1.setSlot d1).setSlot d2) gr1 q1⟩
  · exact q1.elim
/-- d[k] += e, ints -/
def dDaug (f : Int → Int → Int) (td ty tv : Dt) : DSt := fun D g => td g fun o g1 => ty g1 fun y g2 => match o, y with
  | .h n, .t ky => (match keyT ky with
    | some k => (match g2.mem[n]? with
      | some (some (.dt ks ts)) => (match look ks ts k with
        | some (.int z) => tv g2 fun w g3 => (match w with | .t (.int d) => g3.mem[n]? = some (some (.dt ks ts)) ∧ ks.length < sizeLine ∧ D.nx (g3.put n (.dt (putKs ks k) (putXs ks ts k (.int (f z d))))) | _ => False)
        | _ => False)
      | _ => False)
    | none => False)
  | _, _ => False
theorem ds_daug {o i : Expr} {τd τy : TE} {td ty : Dt} {tpos : Pos} {op : Operator} {f : Int → Int → Int} {rd : V → V → Hp → VK → Prop} {kk : Nat} (hr : Room kk X.A) (hop : InOp X op (fun x y H Q => ∃ i j, x = .int i ∧ y = .int j ∧ Q (.int (f i j)) H)) (ho : DE X o τd td) (hi : DE X i τy ty) (hv : DE X e τe te)
    (ha : ∀ ov iv new, augStore i ov iv new = (do holding [new, ov, iv] (setItem ov iv new); release [new, ov, iv] []; pure .next) := by intros; rfl) :
    DS X (.AugAssign (.Subscript o i tpos) op e pos) (sDAug τd τy τe (fun x y H Q => ∃ i j, x = .int i ∧ y = .int j ∧ Q (.int (f i j)) H)) (dDaug f td ty te) := by
  refine ⟨ps_daug (hu_of hr) ho.pe hi.pe hv.pe hop ha, fun al S F H σ g D DV R q k => ?_⟩
  refine ho.r al S F H σ g _ _ R q fun al1 S1 H1 g1 v1 w1 R1 gr1 e1 q1 => ?_
  refine hi.r al1 S1 F H1 σ g1 _ _ R1 q1 fun al2 S2 H2 g2 v2 w2 R2 gr2 e2 q2 => ?_
  split at q2
  · rename_i n ky
    split at q2
    · rename_i key ek
      have ev := key_den ek e2
      subst ev
      split at q2
      · rename_i ks ts em
        split at q2
        · rename_i z ez
          obtain ⟨p, o, rfl, ea, h1, vs, rfl, h2, h3⟩ := R2.cellH (e1.grow gr2) em
          obtain ⟨v, h4, h5⟩ := look_some h3 ez
          unfold Den at h5
          subst h5
          refine ⟨p, .int z, rfl, ?_, ?_⟩
          · rw [← h4]; exact DGet.k h1
          · refine hv.r al2 S2 F H2 σ g2 _ _ R2 q2 fun al3 S3 H3 g3 v3 w3 R3 gr3 e3 q3 => ?_
            split at q3
            · rename_i d
              unfold DenW Den at e3
              obtain ⟨em3, hz, q3⟩ := q3
              obtain ⟨p', o', ep, ea', h1', vs', rfl, h2', h3'⟩ := R3.cellH (e1.grow (gr2.trans gr3)) em3
              cases ep
              have hl : ks.length = vs'.length := by rw [h2', h3'.length]
              refine ⟨z, d, rfl, e3, _, DPut.k h1' (by rw [List.length_zip, ← hl, Nat.min_self]; exact hz), ?_⟩
              rw [putK_zip hl]
              exact k.nx _ _ _ _ _ (R3.putC (c := .dt (putKs ks key) (putXs ks ts key (.int (f z d)))) em3 ea' ⟨_, rfl, putX_len h2', putX_pair (denI _) h3'⟩) (gr1.trans (gr2.trans gr3)) q3
            · exact q3.elim
        · exact q2.elim
      · exact q2.elim
    · exact q2.elim
  · exact q2.elim
/-- xs[i], by values -/
theorem get_list : PGet X (rIxL X.K) := by
  intro pins s σ H x y v u Q I rx ry h
  obtain ⟨p, xs, i, z, rfl, rfl, hq, he, q⟩ := h
  cases rx
  obtain ⟨t, rfl⟩ := ry
  obtain ⟨its, r, pl, hz⟩ := I.list hq
  obtain ⟨j, h1, h2, h3, h4, h5⟩ := atI_get he
  obtain ⟨w, ew, rw'⟩ := r.get h2
  have hl := r.length
  have hn := line63
  have fin : EP X pins σ Q w s := ⟨z, H, I, rw', q⟩
  by_cases h0 : 0 ≤ i
  · have hj : i.toNat = j := by
      rw [seqIndex_of h0 h5] at h1
      exact Option.some.inj h1
    exact wpAny_getItem_list pl.isList h0 (by omega) (by rw [hj]; simpa using ew) fin
  · have hj : (i + (its.toArray.size : Int)).toNat = j := by
      rw [seqIndex_neg (by omega) h4] at h1
      rw [List.size_toArray, ← hl]
      exact Option.some.inj h1
    exact wpAny_getItem_list_neg pl.isList (by omega) (by rw [List.size_toArray] <;> omega) (by omega) (by rw [hj]; simpa using ew) fin
/-- xs[i] += e, ints -/
def dLaug (f : Int → Int → Int) (td ty tv : Dt) : DSt := fun D g => td g fun o g1 => ty g1 fun y g2 => match o, y with
  | .h n, .t (.int i) => (match g2.mem[n]? with
    | some (some (.lt ts)) => ∃ j z, ixN ts.length i = some j ∧ ts[j]? = some (.int z) ∧ tv g2 fun w g3 => (match w with | .t (.int d) => g3.mem[n]? = some (some (.lt ts)) ∧ D.nx (g3.put n (.lt (ts.set j (.int (f z d))))) | _ => False)
    | _ => False)
  | _, _ => False
theorem ds_laug {o i : Expr} {τd τy : TE} {td ty : Dt} {tpos : Pos} {op : Operator} {f : Int → Int → Int} (hop : PIp X op (ipI f)) (ho : DE X o τd td) (hi : DE X i τy ty) (hv : DE X e τe te)
    (ha : ∀ ov iv new, augStore i ov iv new = (do holding [new, ov, iv] (setItem ov iv new); release [new, ov, iv] []; pure .next) := by intros; rfl) :
    DS X (.AugAssign (.Subscript o i tpos) op e pos) (tAugS τd τy τe (rIxL X.K) (ipI f) rSetL) (dLaug f td ty te) := by
  refine ⟨ps_augS ho.pe hi.pe get_list hv.pe hop set_list ha, fun al S F H σ g D DV R q k => ?_⟩
  refine ho.r al S F H σ g _ _ R q fun al1 S1 H1 g1 v1 w1 R1 gr1 e1 q1 => ?_
  refine hi.r al1 S1 F H1 σ g1 _ _ R1 q1 fun al2 S2 H2 g2 v2 w2 R2 gr2 e2 q2 => ?_
  split at q2
  · rename_i n z
    unfold DenW Den at e2
    subst e2
    split at q2
    · rename_i ts em
      obtain ⟨j, y, hj, hy, q2⟩ := q2
      obtain ⟨p, o, rfl, ea, h1, vs, rfl, h2⟩ := R2.cellH (e1.grow gr2) em
      have ha : atI ts z = some (.int y) := by unfold atI; rw [hj]; exact hy
      obtain ⟨v, h4, h5⟩ := patI h2 ha
      unfold Den at h5
      subst h5
      refine ⟨p, vs, z, .int y, rfl, rfl, .inl (.inl h1), h4, ?_⟩
      refine hv.r al2 S2 F H2 σ g2 _ _ R2 q2 fun al3 S3 H3 g3 v3 w3 R3 gr3 e3 q3 => ?_
      split at q3
      · rename_i d
        unfold DenW Den at e3
        obtain ⟨em3, q3⟩ := q3
        obtain ⟨p', o', ep, ea', h1', vs', rfl, h2'⟩ := R3.cellH (e1.grow (gr2.trans gr3)) em3
        cases ep
        refine ⟨y, d, rfl, e3, p, vs', z, j, rfl, rfl, h1', by rw [← h2'.length]; exact hj, ?_⟩
        exact k.nx _ _ _ _ _ (R3.putC (c := .lt (ts.set j (.int (f y d)))) (o := .lst (vs'.set j (.int (f y d)))) em3 ea' ⟨_, rfl, pset (denI _) j h2'⟩) (gr1.trans (gr2.trans gr3)) q3
      · exact q3.elim
    · exact q2.elim
  · exact q2.elim
/-- a, b = a list -/
def dgList (n : Nat) (t : DGst) : DGt := fun w g Q => match g.lq? w with | some ts => ts.length = n ∧ t ts g Q | none => False
theorem dg_list {es : List Expr} {kk : Nat} {ps : Pos} {τ1 : TGs} {t1 : DGst} {n : Nat} (hc : X.calm = true) (h : DGs X es τ1 t1)
    (hn : (assignEach es X.env).length = n := by rfl) (hst : (assignEach es X.env).findIdx? (·.1) = none := by rfl) : DG X (.Tuple es kk ps) (gUnl X.K n τ1) (dgList n t1) := by
  refine ⟨pg_unl hc h.pe hn hst, fun al S F H σ g v w Q QV R d q k => ?_⟩
  unfold dgList at q
  split at q
  · rename_i ts e
    obtain ⟨p, vs, rfl, h1, h2⟩ := R.viewQ d e
    exact ⟨p, vs, rfl, h1, by rw [← h2.length]; exact q.1, h.r al S F H σ g vs ts Q QV R h2 q.2 k⟩
  · exact q.elim
theorem cg_list {es : List Expr} {kk : Nat} {ps : Pos} {τ1 : TGs} {t1 : DGst} {n : Nat} {vs : List Nat} (hc : X.calm = true) (h : CGs X es τ1 t1 vs)
    (hn : (assignEach es X.env).length = n := by rfl) (hst : (assignEach es X.env).findIdx? (·.1) = none := by rfl) : CG X (.Tuple es kk ps) (gUnl X.K n τ1) (dgList n t1) vs := by
  refine ⟨pg_unl hc h.pe hn hst, fun al S F H σ g v w Q QV R d q k => ?_⟩
  unfold dgList at q
  split at q
  · rename_i ts e
    obtain ⟨p, vs, rfl, h1, h2⟩ := R.viewQ d e
    exact ⟨p, vs, rfl, h1, by rw [← h2.length]; exact q.1, h.r al S F H σ g vs ts Q QV R h2 q.2 k⟩
  · exact q.elim
end
/-! what stands in the module -/
structure Bi (mg : Str → Option Value) : Prop where
  h_len : mg "len" = none
  h_range : mg "range" = none
  h_sum : mg "sum" = none
  h_min : mg "min" = none
  h_max : mg "max" = none
  h_all : mg "all" = none
  h_any : mg "any" = none
  h_abs : mg "abs" = none
  h_isinstance : mg "isinstance" = none
  h_int : mg "int" = none
  h_bool : mg "bool" = none
  h_list : mg "list" = none
  h_tuple : mg "tuple" = none
  h_str : mg "str" = none
  h_dict : mg "dict" = none
  h_sorted : mg "sorted" = none
  h_zip : mg "zip" = none
  h_enumerate : mg "enumerate" = none
structure Ow (K : PySem.W.Frag) (mg : Str → Option Value) (x : Str) (st : Stmt) (ps : List Str) : Prop where
  ex : ∃ f fd, Fun K x x st f fd ∧ mg x = some (.ref f) ∧ Binds K fd ps []
structure Kn (P : Program) (w : World) (K : PySem.W.Frag) (mg : Str → Option Value) (base : Heap) (k : Nat) (x : Str) (ps : List Str) (C : SC) : Prop where
  ex : ∃ f fd, FnOk P w K mg base CX0 k f fd ps (sps K C) ∧ mg x = some (.ref f) ∧ PySem.W.keepIn K (.ref f) = true ∧ Binds K fd ps []
theorem Kn.mono {P : Program} {w : World} {K : PySem.W.Frag} {mg : Str → Option Value} {base : Heap} {j k : Nat} {x : Str} {ps : List Str} {C : SC} (h : Kn P w K mg base j x ps C) (hk : j ≤ k) : Kn P w K mg base k x ps C := by
  obtain ⟨f, fd, a, b, c, d⟩ := h.ex
  exact ⟨f, fd, a.mono hk, b, c, d⟩
end DL

namespace DL
open PySem PySem.Spec L2
section
variable {X : Cx} {a b e : Expr} {τa τb τe : TE} {ta tb te : Dt} {pos : Pos}
/-- x + y, lists into a new cell -/
def fCatH : F2 := fun g x y Q => match g.seqL? x, g.seqL? y with
  | some xs, some ys => xs.length + ys.length ≤ sizeLine ∧ Q (.h g.mem.length) (g.push (.lt (xs ++ ys)))
  | _, _ => False
theorem op2_catH {K : PySem.W.Frag} : Op2 K rCat fCatH := by
  intro al S F H σ g x y wx wy Q QV R dx dy q k
  unfold fCatH at q
  split at q
  · rename_i xs ys ex ey
    obtain ⟨a, vs, rfl, h1, h2⟩ := R.viewL dx ex
    obtain ⟨b, us, rfl, h3, h4⟩ := R.viewL dy ey
    refine ⟨a, b, vs, us, rfl, rfl, h1, h3, by rw [← h2.length, ← h4.length]; exact q.1, fun p np => ?_⟩
    obtain ⟨R1, gr, d⟩ := R.pushC (c := .lt (xs ++ ys)) (o := .lst (vs ++ us)) np ⟨_, rfl, papp h2 h4⟩
    exact k _ _ _ _ _ _ R1 gr d q.2
  · exact q.elim
def fAddH : F2 := fun g x y Q => match x with
  | .t (.int _) => fI0 (fun i j => .int (i + j)) g x y Q
  | .t (.str _) => fAddS g x y Q
  | _ => fCatH g x y Q
theorem de_addH (ha : DE X a τa ta) (hb : DE X b τb tb) : DE X (.BinOp a .Add b pos) (tOp rAddA τa τb) (d2 fAddH ta tb) :=
  de_op (op_add.or (op_cat.or op_add_str)) (((op2_I0 fun _ _ _ => denI _).or (op2_catH.or op2_addS)).imp fun g x y Q h => by
    unfold fAddH at h
    split at h
    · exact .inl h
    · exact .inr (.inr h)
    · exact .inr (.inl h)) ha hb
def fRevH : F1 := fun g x Q => match g.lq? x with | some ts => Q (.h g.mem.length) (g.push (.lt ts.reverse)) | none => False
theorem de_revH {k : Nat} {p1 p2 p3 : Pos} (ha : DE X a τa ta) : DE X (.Subscript a (.Slice none none (some (.UnaryOp .USub (.Constant (.int 1) k p1) p2)) p3) pos) (tRevL X.K τa) (d1 fRevH ta) := by
  refine ⟨pe_revL ha.pe, fun al S F H σ g Q QV R q k => ?_⟩
  refine ha.r al S F H σ g _ _ R q fun al1 S1 H1 g1 v1 w1 R1 gr1 e1 q1 => ?_
  unfold fRevH at q1
  split at q1
  · rename_i us eu
    obtain ⟨a, vs, rfl, h1, h2⟩ := R1.viewQ e1 eu
    refine ⟨a, vs, rfl, h1, fun p np => ?_⟩
    obtain ⟨R2, gr2, d2⟩ := R1.pushC (c := .lt us.reverse) (o := .lst vs.reverse) np ⟨_, rfl, prev h2⟩
    exact k _ _ _ _ _ _ R2 (gr1.trans gr2) d2 q1
  · exact q1.elim
end
/-! readings of loops, in common forms -/
/-- a comprehension whose parts change nothing -/
theorem lcP {g1 : G} {gt : DGt} {tt : DTt} {te : Dt} {vs : List Nat} {fin : Fin3} {Q : W → G → Prop} {ws : List W} {St : G → Prop} {ι : Type} (items : List ι) (enc : ι → W) (keep : ι → Bool) (out : ι → T) (hws : ws = items.map enc) (hlen : items.length ≤ sizeLine) (hSt : St (g1.wipe vs))
    (hel : ∀ x ∈ items, ∀ (Y : W → G → Prop) (N : G → Prop), (keep x = true → ∀ g4, g4.wipe vs = g1.wipe vs → Y (.t (out x)) g4) → (keep x = false → ∀ g3, g3.wipe vs = g1.wipe vs → N g3) → gt (enc x) (g1.wipe vs) fun g2 => tt g2 fun b g3 => if b = true then te g3 Y else N g3)
    (hw : (g1.wipe vs).wipe vs = g1.wipe vs) (hQ : fin (((items.filter keep).map out).map W.t) ((g1.wipe vs).rs g1 vs) Q) :
    ∃ I : Nat → List W → G → Prop, I 0 [] (g1.wipe vs) ∧ (∀ i acc g', I i acc g' → St g' ∧ acc.length ≤ i) ∧
      (∀ i acc w g', ws[i]? = some w → I i acc g' → gt w g' fun g2 => tt g2 fun b g3 => if b = true then te g3 fun y g4 => I (i + 1) (acc ++ [y]) (g4.wipe vs) else I (i + 1) acc (g3.wipe vs)) ∧
      ws.length ≤ sizeLine ∧ (∀ acc g', I ws.length acc g' → fin acc (g'.rs g1 vs) Q) := by
  subst hws
  refine ⟨fun i acc g' => acc = ((((items.take i).filter keep).map out).map W.t) ∧ g' = g1.wipe vs, ⟨rfl, rfl⟩, ?_, ?_, by simpa using hlen, ?_⟩
  · rintro i acc g' ⟨rfl, rfl⟩
    refine ⟨hSt, ?_⟩
    rw [List.length_map, List.length_map]
    exact Nat.le_trans (List.length_filter_le _ _) (by rw [List.length_take]; exact Nat.min_le_left _ _)
  · rintro i acc w g' hw' ⟨rfl, rfl⟩
    rw [List.getElem?_map] at hw'
    cases e : items[i]? with
    | none => rw [e] at hw'; cases hw'
    | some x =>
      rw [e] at hw'
      cases hw'
      refine hel x (List.mem_of_getElem? e) _ _ (fun hk g4 h4 => ⟨?_, h4⟩) (fun hk g3 h3 => ⟨?_, h3⟩)
      · rw [List.take_add_one, e, List.filter_append, List.map_append, List.map_append]
        simp [hk]
      · rw [List.take_add_one, e, List.filter_append, List.map_append, List.map_append]
        simp [hk]
  · rintro acc g' ⟨rfl, rfl⟩
    rw [List.length_map, List.take_length]
    exact hQ
/-- a loop that goes through all its turns -/
theorem forP {D : De} {g1 : G} {gt : DGt} {tb : DSt} {ws : List W} {St : G → Prop} {ι β : Type} (items : List ι) (enc : ι → W) (step : β → ι → β) (R : β → G → Prop) (b0 : β) (hws : ws = items.map enc) (h0 : R b0 g1) (hSt : ∀ b g, R b g → St g)
    (hstep : ∀ pre x post, items = pre ++ x :: post → ∀ g', R (pre.foldl step b0) g' → ∀ N : G → Prop, (∀ g'', R (step (pre.foldl step b0) x) g'' → N g'') → gt (enc x) g' fun g2 => tb { D with nx := N, ct := N, bk := D.nx } g2)
    (hQ : ∀ g', R (items.foldl step b0) g' → D.nx g') :
    ∃ I : Nat → G → Prop, I 0 g1 ∧ (∀ i g', I i g' → St g') ∧ (∀ i w g', ws[i]? = some w → I i g' → gt w g' fun g2 => tb { D with nx := I (i + 1), ct := I (i + 1), bk := D.nx } g2) ∧ (∀ g', I ws.length g' → D.nx g') := by
  subst hws
  refine ⟨fun i g' => R ((items.take i).foldl step b0) g', h0, fun i g' h => hSt _ _ h, fun i w g' hw h => ?_, fun g' h => ?_⟩
  · rw [List.getElem?_map] at hw
    cases e : items[i]? with
    | none => rw [e] at hw; cases hw
    | some x =>
      rw [e] at hw
      cases hw
      have hi : i < items.length := (List.getElem?_eq_some_iff.mp e).1
      have hx : items[i] = x := (List.getElem?_eq_some_iff.mp e).2
      have hsp : items = items.take i ++ x :: items.drop (i + 1) := by
        rw [← hx, List.getElem_cons_drop, List.take_append_drop]
      refine hstep _ x _ hsp g' h _ fun g'' h'' => ?_
      show R (List.foldl step b0 (List.take (i + 1) items)) g''
      rw [List.take_add_one, e, List.foldl_append]
      exact h''
  · rw [List.length_map, List.take_length] at h
    exact hQ g' h
theorem rgW_map (lo : Int) (n : Nat) : rgW lo n = (List.range n).map fun k => W.t (.int (lo + (k : Nat))) := rfl
theorem rgW0 (n : Nat) : rgW 0 n = (List.range n).map fun k => W.t (.int (k : Nat)) := by
  unfold rgW
  congr 1
  funext k
  rw [Int.zero_add]
/-- places in lists -/
theorem atI_lt {α : Type} {xs : List α} {j : Nat} (h : j < xs.length) : atI xs (j : Int) = some xs[j] := atI_nat (List.getElem?_eq_getElem h)
theorem atI_map {α β : Type} (f : α → β) {xs : List α} {i : Int} {x : α} (h : atI xs i = some x) : atI (xs.map f) i = some (f x) := by
  unfold atI at h ⊢
  rw [List.length_map]
  cases e : ixN xs.length i with
  | none => rw [e] at h; cases h
  | some j =>
    rw [e] at h
    have h : xs[j]? = some x := h
    show (xs.map f)[j]? = some (f x)
    rw [List.getElem?_map, h]
    rfl
theorem atI_getD {α : Type} (d : α) {xs : List α} {j : Nat} (h : j < xs.length) : atI xs (j : Int) = some (xs.getD j d) := by
  rw [atI_lt h, List.getD_eq_getElem?_getD, List.getElem?_eq_getElem h]
  rfl
theorem lineLe {n : Nat} (h : n ≤ 10000) : n ≤ sizeLine := Nat.le_trans h (by rw [sizeLine_eq]; decide)
theorem lineLt {n : Nat} (h : n ≤ 10000) : n < sizeLine := Nat.lt_of_le_of_lt h (by rw [sizeLine_eq]; decide)
end DL

namespace DL
open PySem PySem.Spec L2
/-! what a value must be -/
def onB (w : W) (P : Bool → Prop) : Prop := match w with | .t (.bl b) => P b | _ => False
def onI (w : W) (P : Int → Prop) : Prop := match w with | .t (.int b) => P b | _ => False
def onTs (ws : List W) (P : List T → Prop) : Prop := match treesW ws with | some us => P us | none => False
def onT (r : R0) (P : T → Prop) : Prop := match r with | .t t => P t | .f c => (match c.tree with | some t => P t | none => False)
def onH (g : G) (r : R0) (Q : W → G → Prop) : Prop := match r with | .t t => Q (.t t) g | .f c => c.plain = true ∧ Q (.h g.mem.length) (g.push c)
def onI1 (ws : List W) (P : Int → Prop) : Prop := match ws with | [.t (.int j)] => P j | _ => False
def onI2 (ws : List W) (P : Int → Int → Prop) : Prop := match ws with | [.t (.int i), .t (.int j)] => P i j | _ => False
def onW2 (ws : List W) (P : W → W → Prop) : Prop := match ws with | [u, v] => P u v | _ => False
def onLq (g : G) (w : W) (P : List W → (G → Prop) → Prop) : Prop := match g.lq? w with
  | some ts => P (ts.map W.t) (fun g' => g'.lq? w = some ts)
  | none => (match g.wseq? w with | some ws => P ws (fun g' => g'.wseq? w = some ws) | none => False)
theorem o_B {b : Bool} {P : Bool → Prop} (h : P b) : onB (.t (.bl b)) P := h
theorem o_I {b : Int} {P : Int → Prop} (h : P b) : onI (.t (.int b)) P := h
theorem o_Ts {ws : List W} {us : List T} {P : List T → Prop} (e : treesW ws = some us) (h : P us) : onTs ws P := by unfold onTs; rw [e]; exact h
theorem o_T {t : T} {P : T → Prop} (h : P t) : onT (.t t) P := h
theorem o_TF {c : Cell} {t : T} {P : T → Prop} (e : c.tree = some t) (h : P t) : onT (.f c) P := by unfold onT; dsimp only; rw [e]; exact h
theorem o_H {t : T} {g : G} {Q : W → G → Prop} (h : Q (.t t) g) : onH g (.t t) Q := h
theorem o_HF {c : Cell} {g : G} {Q : W → G → Prop} (e : c.plain = true) (h : Q (.h g.mem.length) (g.push c)) : onH g (.f c) Q := ⟨e, h⟩
theorem o_I1 {j : Int} {P : Int → Prop} (h : P j) : onI1 [.t (.int j)] P := h
theorem o_I2 {i j : Int} {P : Int → Int → Prop} (h : P i j) : onI2 [.t (.int i), .t (.int j)] P := h
theorem o_W2 {u v : W} {P : W → W → Prop} (h : P u v) : onW2 [u, v] P := h
theorem o_Lq {g : G} {w : W} {us : List T} {P : List W → (G → Prop) → Prop} (e : g.lq? w = some us) (h : P (us.map W.t) (fun g' => g'.lq? w = some us)) : onLq g w P := by unfold onLq; rw [e]; exact h
theorem o_Wq {g : G} {w : W} {us : List W} {P : List W → (G → Prop) → Prop} (e0 : g.lq? w = none) (e : g.wseq? w = some us) (h : P us (fun g' => g'.wseq? w = some us)) : onLq g w P := by unfold onLq; rw [e0]; dsimp only; rw [e]; exact h
section
variable {g : G} {Q : W → G → Prop} {D : De} {ta tb te : Dt} {t u : DSt} {tt tu : DTt} {ts : DAt}
/-! readings, step by step -/
theorem i_seq (h : t { D with nx := u D } g) : dSeq t u D g := h
theorem i_next (h : D.nx g) : dNext D g := h
theorem i_asg {tg : DGt} (h : te g fun w g1 => tg w g1 D.nx) : dAsg te tg D g := h
theorem i_gN {i : Nat} {w : W} {P : G → Prop} (h : P (g.set i w)) : dgN i w g P := h
theorem i_gTup {n : Nat} {us : List T} {t : DGst} {P : G → Prop} (hn : us.length = n) (h : t us g P) : dgTup n t (.t (.tup us)) g P := ⟨hn, h⟩
theorem i_gList {n : Nat} {w : W} {us : List T} {t : DGst} {P : G → Prop} (hv : g.lq? w = some us) (hn : us.length = n) (h : t us g P) : dgList n t w g P := by
  unfold dgList; rw [hv]; exact ⟨hn, h⟩
theorem i_gNil {P : G → Prop} (h : P g) : dgNil [] g P := h
theorem i_gCons {t : DGt} {us : DGst} {w : T} {r : List T} {P : G → Prop} (h : t (.t w) g fun g1 => us r g1 P) : dgCons t us (w :: r) g P := h
theorem i_ret (h : te g D.rt) : dRet te D g := h
theorem i_retN (h : D.rt (.t .non) g) : dRetN D g := h
theorem i_drop (h : te g fun _ g1 => D.nx g1) : dDrop te D g := h
theorem i_ifS (h : tt g fun b g1 => if b = true then t D g1 else u D g1) : dIfS tt t u D g := h
theorem i_if (h : tt g fun b g1 => if b = true then ta g1 Q else tb g1 Q) : dIf tt ta tb g Q := h
theorem i_B {P : Bool → G → Prop} (h : te g fun w g' => onB w fun b => P b g') : dB te g P := h
theorem i_not {P : Bool → G → Prop} (h : tt g fun c g' => P (!c) g') : dNot tt g P := h
theorem i_and {P : Bool → G → Prop} (h : tt g fun c g1 => if c = true then tu g1 P else P false g1) : dAnd tt tu g P := h
theorem i_or {P : Bool → G → Prop} (h : tt g fun c g1 => if c = true then P true g1 else tu g1 P) : dOr tt tu g P := h
theorem i_andV (h : ta g fun w g1 => onB w fun c => if c = true then tb g1 Q else Q (.t (.bl false)) g1) : dAndV ta tb g Q := h
theorem i_orV (h : ta g fun w g1 => onB w fun c => if c = true then Q (.t (.bl true)) g1 else tb g1 Q) : dOrV ta tb g Q := h
theorem i_notV (h : ta g fun w g1 => onB w fun c => Q (.t (.bl (!c))) g1) : dNotV ta g Q := h
theorem i_yes {P : Bool → G → Prop} (h : P true g) : dYes g P := h
theorem i_break (h : D.bk g) : dBreak D g := h
theorem i_cont (h : D.ct g) : dCont D g := h
theorem i_var {i : Nat} {w : W} (e : g.sl[i]? = some (some w)) (h : Q w g) : dVar i g Q := by unfold dVar; rw [e]; exact h
theorem i_frzT {i : Nat} {x : T} (e : g.sl[i]? = some (some (.t x))) (h : Q (.t x) g) : dFrz i g Q := by unfold dFrz; rw [e]; exact h
theorem i_frzH {i n : Nat} {c : Cell} {x : T} (e : g.sl[i]? = some (some (.h n))) (em : g.mem[n]? = some (some c)) (et : c.tree = some x) (h : Q (.t x) (g.frz n x)) : dFrz i g Q := by
  unfold dFrz; rw [e]; dsimp only; rw [em]; dsimp only; rw [et]; exact h
theorem i_c {x : T} (h : Q (.t x) g) : dC x g Q := h
theorem i_d2 {f : F2} (h : ta g fun x g1 => tb g1 fun y g2 => f g2 x y Q) : d2 f ta tb g Q := h
theorem i_d1 {f : F1} (h : ta g fun x g1 => f g1 x Q) : d1 f ta g Q := h
theorem i_dN {f : FN} (h : ts g fun xs g1 => f g1 xs Q) : dN f ts g Q := h
theorem i_nil {P : List W → G → Prop} (h : P [] g) : dNil g P := h
theorem i_cons {P : List W → G → Prop} (h : te g fun w g1 => ts g1 fun ws g2 => P (w :: ws) g2) : dCons te ts g P := h
theorem i_fI0 {f : Int → Int → T} {i j : Int} (h : Q (.t (f i j)) g) : fI0 f g (.t (.int i)) (.t (.int j)) Q := h
theorem i_fI {C : Int → Int → Prop} {f : Int → Int → T} {i j : Int} (hc : C i j) (h : Q (.t (f i j)) g) : fI C f g (.t (.int i)) (.t (.int j)) Q := ⟨hc, h⟩
theorem i_addI {i j : Int} (h : Q (.t (.int (i + j))) g) : fAdd g (.t (.int i)) (.t (.int j)) Q := h
theorem i_addHI {i j : Int} (h : Q (.t (.int (i + j))) g) : fAddH g (.t (.int i)) (.t (.int j)) Q := h
theorem i_addS {i j : Str} (hl : i.length + j.length ≤ sizeLine) (h : Q (.t (.str (i ++ j))) g) : fAdd g (.t (.str i)) (.t (.str j)) Q := ⟨hl, h⟩
theorem i_addL {x y : W} {xs ys : List T} (e1 : g.seqL? x = some xs) (e2 : g.seqL? y = some ys) (hl : xs.length + ys.length ≤ sizeLine) (h : Q (.t (.lst (xs ++ ys))) g) : fAdd g x y Q := by
  unfold fAdd
  split
  · unfold G.seqL? G.cell? at e1; cases e1
  · unfold G.seqL? G.cell? at e1; cases e1
  · unfold fCat; rw [e1, e2]; exact ⟨hl, h⟩
theorem i_addHL {x y : W} {xs ys : List T} (e1 : g.seqL? x = some xs) (e2 : g.seqL? y = some ys) (hl : xs.length + ys.length ≤ sizeLine) (h : Q (.h g.mem.length) (g.push (.lt (xs ++ ys)))) : fAddH g x y Q := by
  unfold fAddH
  split
  · unfold G.seqL? G.cell? at e1; cases e1
  · unfold G.seqL? G.cell? at e1; cases e1
  · unfold fCatH; rw [e1, e2]; exact ⟨hl, h⟩
theorem i_rep {x : W} {xs : List T} {k : Int} (e1 : g.seqL? x = some xs) (hl : -(2 ^ 63) ≤ k ∧ k < 2 ^ 63 ∧ xs.length * k.toNat ≤ sizeLine) (h : Q (.t (.lst (List.replicate k.toNat xs).flatten)) g) : fRep g x (.t (.int k)) Q := by
  unfold fRep; rw [e1]; exact ⟨hl, h⟩
theorem i_neg {i : Int} (h : Q (.t (.int (-i))) g) : fNeg g (.t (.int i)) Q := h
theorem i_ix {x : W} {us : List T} {i : Int} {v : T} (e : g.seq? x = some us) (hv : atI us i = some v) (h : Q (.t v) g) : fIx g x (.t (.int i)) Q := by
  unfold fIx; dsimp only; rw [e]; exact ⟨v, hv, h⟩
theorem i_ixW {x : W} {us : List W} {i : Int} {v : W} (e0 : g.seq? x = none) (e : g.wseq? x = some us) (hv : atI us i = some v) (h : Q v g) : fIx g x (.t (.int i)) Q := by
  unfold fIx; dsimp only; rw [e0]; dsimp only; rw [e]; exact ⟨v, hv, h⟩
theorem i_eqI {i j : Int} (h : Q (.t (.bl (decide (i = j)))) g) : fEq false g (.t (.int i)) (.t (.int j)) Q := h
theorem i_neI {i j : Int} (h : Q (.t (.bl (!decide (i = j)))) g) : fEq true g (.t (.int i)) (.t (.int j)) Q := h
theorem i_eqS {i j : Str} (h : Q (.t (.bl (decide (i = j)))) g) : fEq false g (.t (.str i)) (.t (.str j)) Q := h
theorem i_neS {i j : Str} (h : Q (.t (.bl (!decide (i = j)))) g) : fEq true g (.t (.str i)) (.t (.str j)) Q := h
theorem i_eqT {x y : W} {u v : T} (e1 : g.tree? x = some u) (e2 : g.tree? y = some v) (h1 : u.sh 8 = true) (h2 : v.sh 8 = true) (h : Q (.t (.bl (teq u v))) g) : fEq false g x y Q := by
  unfold fEq
  split
  · cases e1; cases e2
    rename_i i j
    have : teq (.int i) (.int j) = decide (i = j) := by unfold teq; simp only [T.pd, PyData.eqv]; rw [Bool.beq_eq_decide_eq]
    rw [this] at h; exact h
  · cases e1; cases e2
    rename_i i j
    have : teq (.str i) (.str j) = decide (i = j) := by unfold teq; simp only [T.pd, PyData.eqv]; rw [Bool.beq_eq_decide_eq]
    rw [this] at h; exact h
  · rw [e1, e2]; exact ⟨h1, h2, h⟩
theorem i_neT {x y : W} {u v : T} (e1 : g.tree? x = some u) (e2 : g.tree? y = some v) (h1 : u.sh 8 = true) (h2 : v.sh 8 = true) (h : Q (.t (.bl (!teq u v))) g) : fEq true g x y Q := by
  unfold fEq
  split
  · cases e1; cases e2
    rename_i i j
    have : teq (.int i) (.int j) = decide (i = j) := by unfold teq; simp only [T.pd, PyData.eqv]; rw [Bool.beq_eq_decide_eq]
    rw [this] at h; exact h
  · cases e1; cases e2
    rename_i i j
    have : teq (.str i) (.str j) = decide (i = j) := by unfold teq; simp only [T.pd, PyData.eqv]; rw [Bool.beq_eq_decide_eq]
    rw [this] at h; exact h
  · rw [e1, e2]; exact ⟨h1, h2, h⟩
theorem i_in {x : T} {y : W} {us : List T} (e : g.seq? y = some us) (h1 : x.flat.isSome = true) (h2 : ∀ t ∈ us, t.flat.isSome = true) (h : Q (.t (.bl (inT x us))) g) : fIn false g (.t x) y Q := by
  unfold fIn; dsimp only; rw [e]; exact ⟨h1, h2, h⟩
theorem i_notIn {x : T} {y : W} {us : List T} (e : g.seq? y = some us) (h1 : x.flat.isSome = true) (h2 : ∀ t ∈ us, t.flat.isSome = true) (h : Q (.t (.bl (!inT x us))) g) : fIn true g (.t x) y Q := by
  unfold fIn; dsimp only; rw [e]; exact ⟨h1, h2, h⟩
theorem i_din {x : T} {y : W} {k : Key} {ks : List Key} {us : List T} (ek : keyT x = some k) (e : g.dct? y = some (ks, us)) (h : Q (.t (.bl (look ks us k).isSome)) g) : fDin false g (.t x) y Q := by
  unfold fDin; dsimp only; rw [ek]; dsimp only; rw [e]; exact h
theorem i_dnotin {x : T} {y : W} {k : Key} {ks : List Key} {us : List T} (ek : keyT x = some k) (e : g.dct? y = some (ks, us)) (h : Q (.t (.bl (!(look ks us k).isSome))) g) : fDin true g (.t x) y Q := by
  unfold fDin; dsimp only; rw [ek]; dsimp only; rw [e]; exact h
theorem i_get {x : W} {y v : T} {k : Key} {ks : List Key} {us : List T} (ek : keyT y = some k) (e : g.dct? x = some (ks, us)) (hv : look ks us k = some v) (h : Q (.t v) g) : fGet g x (.t y) Q := by
  unfold fGet; dsimp only; rw [ek]; dsimp only; rw [e]; dsimp only; rw [hv]; exact h
theorem i_len {w : W} {n : Nat} (e : g.len? w = some n) (h : Q (.t (.int n)) g) : fLen g [w] Q := by
  unfold fLen; dsimp only; rw [e]; exact h
theorem i_sum {w : W} {ns : List Int} (e : g.lq? w = some (ns.map T.int)) (h : Q (.t (.int ns.sum)) g) : fSum g [w] Q := ⟨ns, e, h⟩
theorem i_min2 {i j : Int} (h : Q (.t (.int (if j < i then j else i))) g) : fMin g [.t (.int i), .t (.int j)] Q := h
theorem i_max2 {i j : Int} (h : Q (.t (.int (if j > i then j else i))) g) : fMax g [.t (.int i), .t (.int j)] Q := h
theorem i_min {w : W} {ns : List Int} (e : g.lq? w = some (ns.map T.int)) (h0 : 0 < ns.length) (h : ∀ m, m ∈ ns → (∀ y, y ∈ ns → m ≤ y) → Q (.t (.int m)) g) : fMin g [w] Q := by
  unfold fMin
  split
  · rename_i heq; cases heq
  · rename_i w' heq
    cases heq
    exact ⟨ns, e, h0, h⟩
  · rename_i h2
    exact absurd rfl (h2 w)
theorem i_max {w : W} {ns : List Int} (e : g.lq? w = some (ns.map T.int)) (h0 : 0 < ns.length) (h : ∀ m, m ∈ ns → (∀ y, y ∈ ns → y ≤ m) → Q (.t (.int m)) g) : fMax g [w] Q := by
  unfold fMax
  split
  · rename_i heq; cases heq
  · rename_i w' heq
    cases heq
    exact ⟨ns, e, h0, h⟩
  · rename_i h2
    exact absurd rfl (h2 w)
theorem i_all {w : W} {ns : List Bool} (e : g.lq? w = some (ns.map T.bl)) (h : Q (.t (.bl (ns.all id))) g) : fAll g [w] Q := ⟨ns, e, h⟩
theorem i_any {w : W} {ns : List Bool} (e : g.lq? w = some (ns.map T.bl)) (h : Q (.t (.bl (ns.any id))) g) : fAny g [w] Q := ⟨ns, e, h⟩
theorem i_intI {i : Int} (h : Q (.t (.int i)) g) : fInt g [.t (.int i)] Q := h
theorem i_intB {b : Bool} (h : Q (.t (.int (if b then 1 else 0))) g) : fInt g [.t (.bl b)] Q := h
theorem i_abs {i : Int} (h : Q (.t (.int (if i < 0 then -i else i))) g) : fAbs g [.t (.int i)] Q := h
theorem i_isi {w : W} {c a : String} {b : Bool} (e : g.tyN w = some a) (eb : kitB a c = some b) (h : Q (.t (.bl b)) g) : fIsi g [w, .t (.raw (.ty c))] Q := by
  unfold fIsi; dsimp only; rw [e]; dsimp only; rw [eb]; exact h
theorem i_listOf {w : W} {us : List T} (e : g.seq? w = some us) (h : Q (.t (.lst us)) g) : fListOf g [w] Q := by unfold fListOf; dsimp only; rw [e]; exact h
theorem i_listOfH {w : W} {us : List T} (e : g.seq? w = some us) (h : Q (.h g.mem.length) (g.push (.lt us))) : fListOfH g [w] Q := by unfold fListOfH; dsimp only; rw [e]; exact h
theorem i_tupOf {w : W} {us : List T} (e : g.lq? w = some us) (h : Q (.t (.tup us)) g) : fTupOf g [w] Q := by unfold fTupOf; dsimp only; rw [e]; exact h
theorem i_R1 {P : Int → Int → G → Prop} (h : te g fun w g' => onI w fun n => P 0 n g') : dR1 te g P := h
theorem i_listRg {tr : G → (Int → Int → G → Prop) → Prop} (h : tr g fun i j g' => RgOk i j ∧ Q (.t (.lst (rgT i j))) g') : dLstRg tr g Q := h
theorem i_listRgH {tr : G → (Int → Int → G → Prop) → Prop} (h : tr g fun i j g' => RgOk i j ∧ Q (.h g'.mem.length) (g'.push (.lt (rgT i j)))) : dLstRgH tr g Q := h
theorem i_tup (h : ts g fun ws g1 => onTs ws fun us => ws.length ≤ sizeLine ∧ Q (.t (.tup us)) g1) : dTup ts g Q := h
theorem i_lst (h : ts g fun ws g1 => onTs ws fun us => ws.length ≤ sizeLine ∧ Q (.t (.lst us)) g1) : dLst ts g Q := h
theorem i_lstH (h : ts g fun ws g1 => onTs ws fun us => ws.length ≤ sizeLine ∧ Q (.h g1.mem.length) (g1.push (.lt us))) : dLstH ts g Q := h
theorem i_lstW (h : ts g fun ws g1 => ws.length ≤ sizeLine ∧ Q (.h g1.mem.length) (g1.push (.lw ws))) : dLstW ts g Q := h
def onCut (g : G) (x : W) (lo hi : Option Int) (Q : W → G → Prop) : Prop := match g.seq? x with
  | some ts => (match x with | .t (.tup _) => False | _ => Q (.t (.lst (cut ts lo hi))) g)
  | none => False
theorem i_sl {t : Dt} {l u : DOt} (h : t g fun x g1 => l g1 fun lo g2 => u g2 fun hi g3 => onCut g3 x lo hi Q) : dSl t l u g Q := h
theorem o_cut {x : W} {lo hi : Option Int} {us : List T} (e : g.lq? x = some us) (h : Q (.t (.lst (cut us lo hi))) g) : onCut g x lo hi Q := by
  unfold onCut
  have e2 : g.seq? x = some us ∧ ∀ vs, x ≠ .t (.tup vs) := by
    unfold G.lq? at e
    split at e
    · cases e; exact ⟨rfl, fun vs z => by cases z⟩
    · refine ⟨?_, fun vs z => by subst z; unfold G.seqL? G.cell? at e; cases e⟩
      unfold G.seq?
      split
      · unfold G.seqL? G.cell? at e; cases e
      · unfold G.seqL? G.cell? at e; cases e
      · exact e
  rw [e2.1]
  dsimp only
  split
  · rename_i vs; exact absurd rfl (e2.2 vs)
  · exact h
def onCutH (g : G) (x : W) (lo hi : Option Int) (Q : W → G → Prop) : Prop := match g.lq? x with
  | some ts => Q (.h g.mem.length) (g.push (.lt (cut ts lo hi)))
  | none => False
theorem i_slH {t : Dt} {l u : DOt} (h : t g fun x g1 => l g1 fun lo g2 => u g2 fun hi g3 => onCutH g3 x lo hi Q) : dSlH t l u g Q := h
theorem o_cutH {x : W} {lo hi : Option Int} {us : List T} (e : g.lq? x = some us) (h : Q (.h g.mem.length) (g.push (.lt (cut us lo hi)))) : onCutH g x lo hi Q := by unfold onCutH; rw [e]; exact h
theorem i_noPart {P : Option Int → G → Prop} (h : P none g) : dNoPart g P := h
theorem i_part {P : Option Int → G → Prop} (h : te g fun w g' => onI w fun i => P (some i) g') : dPart te g P := h
theorem i_rev {x : W} {us : List T} (e : g.lq? x = some us) (h : Q (.t (.lst us.reverse)) g) : fRev g x Q := by unfold fRev; rw [e]; exact h
theorem i_revH {x : W} {us : List T} (e : g.lq? x = some us) (h : Q (.h g.mem.length) (g.push (.lt us.reverse))) : fRevH g x Q := by unfold fRevH; rw [e]; exact h
theorem i_newD (h : Q (.h g.mem.length) (g.push (.dt [] []))) : dNewD g Q := h
theorem i_newDw (h : Q (.h g.mem.length) (g.push (.dw [] []))) : dNewDw g Q := h
/-! methods -/
theorem i_M0 {f : FM} (h : ta g fun x g1 => isL g1 x ∧ f g1 x [] Q) : dM0 f ta g Q := h
theorem i_M {f : FM} (h : ta g fun x g1 => isL g1 x ∧ ts g1 fun ws g2 => f g2 x ws Q) : dM f ta ts g Q := h
theorem isL_lt {n : Nat} {us : List T} (e : g.mem[n]? = some (some (.lt us))) : isL g (.h n) := by
  unfold isL G.lq? G.seqL? G.cell?; dsimp only; rw [e]; trivial
theorem isL_lw {n : Nat} {us : List W} (e : g.mem[n]? = some (some (.lw us))) : isL g (.h n) := by
  unfold isL G.lq? G.wseq? G.seqL? G.cell?; dsimp only; rw [e]; trivial
theorem isL_lst {us : List T} : isL g (.t (.lst us)) := by unfold isL G.lq? G.seqL? G.cell?; trivial
theorem i_append {n : Nat} {us : List T} {x : T} (e : g.mem[n]? = some (some (.lt us))) (hl : us.length < sizeLine) (h : Q (.t .non) (g.put n (.lt (us ++ [x])))) : fAppend g (.h n) [.t x] Q := by
  unfold fAppend; dsimp only; rw [e]; exact ⟨hl, h⟩
theorem i_appendW {n : Nat} {us : List W} {x : W} (e : g.mem[n]? = some (some (.lw us))) (hl : us.length < sizeLine) (h : Q (.t .non) (g.put n (.lw (us ++ [x])))) : fAppend g (.h n) [x] Q := by
  unfold fAppend; dsimp only; rw [e]; exact ⟨hl, h⟩
theorem i_pop {n : Nat} {us : List T} {x : T} (e : g.mem[n]? = some (some (.lt us))) (hx : us[us.length - 1]? = some x) (h : Q (.t x) (g.put n (.lt us.dropLast))) : fPop g (.h n) [] Q := by
  unfold fPop; dsimp only; rw [e]; exact ⟨x, hx, h⟩
theorem i_popW {n : Nat} {us : List W} {x : W} (e : g.mem[n]? = some (some (.lw us))) (hx : us[us.length - 1]? = some x) (h : Q x (g.put n (.lw us.dropLast))) : fPop g (.h n) [] Q := by
  unfold fPop; dsimp only; rw [e]; exact ⟨x, hx, h⟩
theorem i_clear {n : Nat} {us : List T} (e : g.mem[n]? = some (some (.lt us))) (h : Q (.t .non) (g.put n (.lt []))) : fClear g (.h n) [] Q := by
  unfold fClear; dsimp only; rw [e]; exact h
theorem i_insert {n : Nat} {us : List T} {x : T} {i : Int} (e : g.mem[n]? = some (some (.lt us))) (hl : us.length < sizeLine ∧ 0 ≤ i ∧ i < 2 ^ 63) (h : Q (.t .non) (g.put n (.lt (us.take i.toNat ++ [x] ++ us.drop i.toNat)))) : fInsert g (.h n) [.t (.int i), .t x] Q := by
  unfold fInsert; dsimp only; rw [e]; exact ⟨hl.1, hl.2.1, hl.2.2, h⟩
theorem i_insertW {n : Nat} {us : List W} {x : W} {i : Int} (e : g.mem[n]? = some (some (.lw us))) (hl : us.length < sizeLine ∧ 0 ≤ i ∧ i < 2 ^ 63) (h : Q (.t .non) (g.put n (.lw (us.take i.toNat ++ [x] ++ us.drop i.toNat)))) : fInsert g (.h n) [.t (.int i), x] Q := by
  unfold fInsert; dsimp only; rw [e]; exact ⟨hl.1, hl.2.1, hl.2.2, h⟩
theorem i_remove {n : Nat} {ns : List Int} {k : Int} {j : Nat} (e : g.mem[n]? = some (some (.lt (ns.map T.int)))) (h1 : ns[j]? = some k) (h2 : ∀ m : Nat, m < j → ns[m]? ≠ some k) (h : Q (.t .non) (g.put n (.lt ((ns.eraseIdx j).map T.int)))) : fRemove g (.h n) [.t (.int k)] Q := by
  unfold fRemove; dsimp only; rw [e]; exact ⟨ns, j, rfl, h1, h2, h⟩
theorem i_count {x : W} {ns : List Int} {k : Int} (e : g.lq? x = some (ns.map T.int)) (h : Q (.t (.int (ns.count k : Nat))) g) : fCount g x [.t (.int k)] Q := ⟨ns, e, h⟩
theorem i_index {x : W} {ns : List Int} {k : Int} {j : Nat} (e : g.lq? x = some (ns.map T.int)) (h1 : ns[j]? = some k) (h2 : ∀ m : Nat, m < j → ns[m]? ≠ some k) (h : Q (.t (.int j)) g) : fIndex g x [.t (.int k)] Q := ⟨ns, j, e, h1, h2, h⟩
/-! stores -/
def dgPut (o i w : W) (g2 : G) (P : G → Prop) : Prop := match o, i with
  | .h n, .t (.int z) => (match g2.mem[n]? with
    | some (some (.lt ts)) => (match w with | .t tw => ∃ j, ixN ts.length z = some j ∧ P (g2.put n (.lt (ts.set j tw))) | _ => False)
    | some (some (.lw us)) => ∃ j, ixN us.length z = some j ∧ P (g2.put n (.lw (us.set j w)))
    | _ => False)
  | _, _ => False
theorem i_gSub {to ti : Dt} {w : W} {P : G → Prop} (h : to g fun o g1 => ti g1 fun i g2 => dgPut o i w g2 P) : dgSub to ti w g P := h
theorem o_put {n j : Nat} {z : Int} {us : List T} {x : T} {P : G → Prop} (e : g.mem[n]? = some (some (.lt us))) (hj : ixN us.length z = some j) (h : P (g.put n (.lt (us.set j x)))) : dgPut (.h n) (.t (.int z)) (.t x) g P := by
  unfold dgPut; dsimp only; rw [e]; exact ⟨j, hj, h⟩
theorem o_putW {n j : Nat} {z : Int} {us : List W} {x : W} {P : G → Prop} (e : g.mem[n]? = some (some (.lw us))) (hj : ixN us.length z = some j) (h : P (g.put n (.lw (us.set j x)))) : dgPut (.h n) (.t (.int z)) x g P := by
  unfold dgPut; dsimp only; rw [e]; exact ⟨j, hj, h⟩
def onDput (o y w : W) (g3 : G) (P : G → Prop) : Prop := match o, y with
  | .h n, .t ky => (match keyT ky with
    | some k => (match g3.mem[n]? with
      | some (some (.dt ks ts)) => (match w with | .t tw => ks.length < sizeLine ∧ P (g3.put n (.dt (putKs ks k) (putXs ks ts k tw))) | _ => False)
      | some (some (.dw ks us)) => ks.length < sizeLine ∧ P (g3.put n (.dw (putKs ks k) (putXs ks us k w)))
      | _ => False)
    | none => False)
  | _, _ => False
theorem i_dput {td ty tv : Dt} (h : tv g fun w g1 => td g1 fun o g2 => ty g2 fun y g3 => onDput o y w g3 D.nx) : dDput td ty tv D g := h
theorem o_dput {n : Nat} {ky x : T} {k : Key} {ks : List Key} {us : List T} {P : G → Prop} (ek : keyT ky = some k) (e : g.mem[n]? = some (some (.dt ks us))) (hl : ks.length < sizeLine) (h : P (g.put n (.dt (putKs ks k) (putXs ks us k x)))) : onDput (.h n) (.t ky) (.t x) g P := by
  unfold onDput; dsimp only; rw [ek]; dsimp only; rw [e]; exact ⟨hl, h⟩
theorem o_dputW {n : Nat} {ky : T} {x : W} {k : Key} {ks : List Key} {us : List W} {P : G → Prop} (ek : keyT ky = some k) (e : g.mem[n]? = some (some (.dw ks us))) (hl : ks.length < sizeLine) (h : P (g.put n (.dw (putKs ks k) (putXs ks us k x)))) : onDput (.h n) (.t ky) x g P := by
  unfold onDput; dsimp only; rw [ek]; dsimp only; rw [e]; exact ⟨hl, h⟩
theorem i_par {i j : Nat} (h : ts g fun ws g1 => onW2 ws fun u v => D.nx ((g1.set i u).set j v)) : dPar i j ts D g := h
theorem i_aug {i : Nat} {f : Int → Int → Int} {z : Int} (e : g.sl[i]? = some (some (.t (.int z)))) (h : te g fun w g1 => onI w fun b => D.nx (g1.set i (.t (.int (f z b))))) : dAug i f te D g := by unfold dAug; rw [e]; exact h
/-! calls -/
theorem i_callT {C : PC} (h : ts g fun ws g1 => onTs ws fun us => C us fun r => onT r fun t => Q (.t t) g1) : dCallT C ts g Q := h
theorem i_callH {C : PC} (h : ts g fun ws g1 => onTs ws fun us => C us fun r => onH g1 r Q) : dCallH C ts g Q := h
/-! loops -/
def lcI (fin : Fin3) (ws : List W) (St : G → Prop) (g1 : G) (gt : DGt) (tt : DTt) (te : Dt) (vs : List Nat) (Q : W → G → Prop) : Prop := ∃ I : Nat → List W → G → Prop, I 0 [] (g1.wipe vs) ∧ (∀ i acc g', I i acc g' → St g' ∧ acc.length ≤ i) ∧
  (∀ i acc w g', ws[i]? = some w → I i acc g' → gt w g' fun g2 => tt g2 fun b g3 => if b = true then te g3 fun y g4 => I (i + 1) (acc ++ [y]) (g4.wipe vs) else I (i + 1) acc (g3.wipe vs)) ∧
  ws.length ≤ sizeLine ∧ (∀ acc g', I ws.length acc g' → fin acc (g'.rs g1 vs) Q)
theorem i_lc {fin : Fin3} {it : DIt} {gt : DGt} {vs : List Nat} (h : it g fun ws St g1 => lcI fin ws St g1 gt tt te vs Q) : dLc fin it gt tt te vs g Q := h
def forI (ws : List W) (St : G → Prop) (g1 : G) (gt : DGt) (tb : DSt) (D : De) : Prop := ∃ I : Nat → G → Prop, I 0 g1 ∧ (∀ i g', I i g' → St g') ∧
  (∀ i w g', ws[i]? = some w → I i g' → gt w g' fun g2 => tb { D with nx := I (i + 1), ct := I (i + 1), bk := D.nx } g2) ∧ (∀ g', I ws.length g' → D.nx g')
theorem i_for {it : DIt} {gt : DGt} (h : it g fun ws St g1 => forI ws St g1 gt t D) : dFor it gt t D g := h
def whI (tt : DTt) (t : DSt) (g : G) (D : De) : Prop := ∃ I : Nat → G → Prop, (∃ m, I m g) ∧ ∀ m g', I m g' → tt g' fun b g1 => if b = true then t { D with nx := fun g2 => ∃ m', m' < m ∧ I m' g2, ct := fun g2 => ∃ m', m' < m ∧ I m' g2, bk := D.nx } g1 else D.nx g1
theorem i_while (h : whI tt t g D) : dWhile tt t D g := h
theorem i_itL {P : List W → (G → Prop) → G → Prop} (h : te g fun w g1 => onLq g1 w fun ws St => P ws St g1) : diL te g P := h
theorem i_itR1 {P : List W → (G → Prop) → G → Prop} (h : ts g fun ws g1 => onI1 ws fun j => (-(2 ^ 62) ≤ j ∧ j < 2 ^ 62) ∧ P (rgW 0 j.toNat) (fun _ => True) g1) : diR1 ts g P := h
theorem i_itR2 {P : List W → (G → Prop) → G → Prop} (h : ts g fun ws g1 => onI2 ws fun i j => (-(2 ^ 62) ≤ i ∧ i < 2 ^ 62 ∧ -(2 ^ 62) ≤ j ∧ j < 2 ^ 62) ∧ P (rgW i (j - i).toNat) (fun _ => True) g1) : diR2 ts g P := h
theorem i_finH {us : List T} (h : Q (.h g.mem.length) (g.push (.lt us))) : finH (us.map W.t) g Q := ⟨us, rfl, h⟩
theorem i_finT {us : List T} (h : Q (.t (.lst us)) g) : finT (us.map W.t) g Q := ⟨us, rfl, h⟩
/-! known tests -/
theorem k_T {A B : Prop} (h : A) : if true = true then A else B := by rw [if_pos rfl]; exact h
theorem k_F {A B : Prop} (h : B) : if false = true then A else B := by rw [if_neg Bool.false_ne_true]; exact h
theorem k_True {A B : Prop} (h : A) : if True then A else B := by rw [if_pos trivial]; exact h
theorem k_False {A B : Prop} (h : B) : if False then A else B := by rw [if_neg id]; exact h
theorem k_dT {c A B : Prop} [Decidable c] (hc : c) (h : A) : if decide c = true then A else B := by rw [if_pos (decide_eq_true hc)]; exact h
theorem k_dF {c A B : Prop} [Decidable c] (hc : ¬ c) (h : B) : if decide c = true then A else B := by rw [if_neg (by simpa using hc)]; exact h
theorem k_nT {c A B : Prop} [Decidable c] (hc : ¬ c) (h : A) : if (!decide c) = true then A else B := by rw [if_pos (by simpa using hc)]; exact h
theorem k_nF {c A B : Prop} [Decidable c] (hc : c) (h : B) : if (!decide c) = true then A else B := by rw [if_neg (by simpa using hc)]; exact h
theorem k_d {c A B : Prop} [Decidable c] (h1 : c → A) (h2 : ¬ c → B) : if decide c = true then A else B := by
  by_cases h : c
  · exact k_dT h (h1 h)
  · exact k_dF h (h2 h)
theorem k_n {c A B : Prop} [Decidable c] (h1 : ¬ c → A) (h2 : c → B) : if (!decide c) = true then A else B := by
  by_cases h : c
  · exact k_nF h (h2 h)
  · exact k_nT h (h1 h)
theorem ixN_nat {n k : Nat} (h : k < n) : ixN n (k : Int) = some k := by
  unfold ixN
  rw [if_pos (by omega), if_pos (by omega)]
  simp
/-! ends -/
theorem e_t {C : R0 → Prop} {x : T} {g : G} (h : C (.t x)) : FinP C (.t x) g := h
theorem e_h {C : R0 → Prop} {n : Nat} {c : Cell} {g : G} (e : g.mem[n]? = some (some c)) (hp : c.plain = true) (h : C (.f c)) : FinP C (.h n) g := by
  unfold FinP; dsimp only; rw [e]; exact ⟨hp, h⟩
end
end DL

namespace DL
open PySem PySem.Spec L2
/-! a, b = a list that holds handles -/
abbrev DGwt := List W → G → (G → Prop) → Prop
structure DGw (X : Cx) (tg : List Expr) (τ : TGs) (t : DGwt) : Prop where
  pe : PGs X tg τ
  r : ∀ (al : List Addr) (S F H : Hp) (σ : L2.St) (g : G) (vs : List V) (ws : List W) (Q : G → Prop) (QV : L2.St → Hp → Prop), Rep X.K al S F H σ g → Paired (DenW X.K al S) ws vs → t ws g Q →
    (∀ al' S' H' σ' g', Rep X.K al' S' F H' σ' g' → Grow al S al' S' → Q g' → QV σ' H') → τ vs σ H QV
def dgwNil : DGwt := fun ws g Q => match ws with | [] => Q g | _ => False
def dgwCons (t : DGt) (u : DGwt) : DGwt := fun ws g Q => match ws with | w :: r => t w g fun g1 => u r g1 Q | _ => False
section
variable {X : Cx}
theorem dgw_nil : DGw X [] gNil dgwNil := by
  refine ⟨pgs_nil, fun al S F H σ g vs ws Q QV R d q k => ?_⟩
  cases d with
  | nil => exact ⟨rfl, k _ _ _ _ _ R (Grow.refl _ _) q⟩
  | cons _ _ => exact q.elim
theorem dgw_cons {e : Expr} {es : List Expr} {τ1 : TG} {t1 : DGt} {τ2 : TGs} {t2 : DGwt} (h1 : DG X e τ1 t1) (h2 : DGw X es τ2 t2)
    (hs : (assignEach (e :: es) X.env).map (·.2) = assign e X.env :: (assignEach es X.env).map (·.2) := by rfl) : DGw X (e :: es) (gCons τ1 τ2) (dgwCons t1 t2) := by
  refine ⟨pgs_cons h1.pe h2.pe hs, fun al S F H σ g vs ws Q QV R d q k => ?_⟩
  cases d with
  | nil => exact q.elim
  | cons d1 d2 =>
    refine ⟨_, _, rfl, ?_⟩
    refine h1.r al S F H σ g _ _ _ _ R d1 q fun al1 S1 H1 σ1 g1 R1 gr1 q1 => ?_
    exact h2.r al1 S1 F H1 σ1 g1 _ _ Q QV R1 (DenWs.grow gr1 d2) q1 fun al2 S2 H2 σ2 g2 R2 gr2 q2 => k _ _ _ _ _ R2 (gr1.trans gr2) q2
def dgUnw (n : Nat) (t : DGwt) : DGt := fun w g Q => match g.wseq? w with | some ts => ts.length = n ∧ t ts g Q | none => False
theorem dg_unw {es : List Expr} {kk : Nat} {ps : Pos} {τ1 : TGs} {t1 : DGwt} {n : Nat} (hc : X.calm = true) (h : DGw X es τ1 t1)
    (hn : (assignEach es X.env).length = n := by rfl) (hst : (assignEach es X.env).findIdx? (·.1) = none := by rfl) : DG X (.Tuple es kk ps) (gUnl X.K n τ1) (dgUnw n t1) := by
  refine ⟨pg_unl hc h.pe hn hst, fun al S F H σ g v w Q QV R d q k => ?_⟩
  unfold dgUnw at q
  split at q
  · rename_i ts e
    obtain ⟨p, vs, rfl, h1, h2⟩ := R.viewW d e
    exact ⟨p, vs, rfl, .inl (.inl h1), by rw [← h2.length]; exact q.1, h.r al S F H σ g vs ts Q QV R h2 q.2 k⟩
  · exact q.elim
end
theorem i_unw {g : G} {n : Nat} {w : W} {us : List W} {t : DGwt} {P : G → Prop} (hv : g.wseq? w = some us) (hn : us.length = n) (h : t us g P) : dgUnw n t w g P := by
  unfold dgUnw; rw [hv]; exact ⟨hn, h⟩
theorem i_gwNil {g : G} {P : G → Prop} (h : P g) : dgwNil [] g P := h
theorem i_gwCons {g : G} {t : DGt} {us : DGwt} {w : W} {r : List W} {P : G → Prop} (h : t w g fun g1 => us r g1 P) : dgwCons t us (w :: r) g P := h
/-! cells at handles, by what the store holds there -/
section
variable {g : G} {Q : W → G → Prop} {n : Nat}
theorem cell_h {c : Cell} (em : g.mem[n]? = some (some c)) : g.cell? (.h n) = some c := by unfold G.cell?; dsimp only; rw [em]
theorem lq_h {us : List T} (em : g.mem[n]? = some (some (.lt us))) : g.lq? (.h n) = some us := by unfold G.lq? G.seqL?; dsimp only; rw [cell_h em]
theorem lq_hw {us : List W} (em : g.mem[n]? = some (some (.lw us))) : g.lq? (.h n) = none := by unfold G.lq? G.seqL?; dsimp only; rw [cell_h em]
theorem seq_h {us : List T} (em : g.mem[n]? = some (some (.lt us))) : g.seq? (.h n) = some us := by unfold G.seq? G.seqL?; dsimp only; rw [cell_h em]
theorem seq_hw {us : List W} (em : g.mem[n]? = some (some (.lw us))) : g.seq? (.h n) = none := by unfold G.seq? G.seqL?; dsimp only; rw [cell_h em]
theorem wseq_h {us : List W} (em : g.mem[n]? = some (some (.lw us))) : g.wseq? (.h n) = some us := by unfold G.wseq?; rw [cell_h em]
theorem wl_h {us : List W} (em : g.mem[n]? = some (some (.lw us))) : g.wl? (.h n) = some us := by unfold G.wl?; rw [cell_h em]
theorem len_h {us : List T} (em : g.mem[n]? = some (some (.lt us))) : g.len? (.h n) = some us.length := by unfold G.len?; dsimp only; rw [em]
theorem len_hw {us : List W} (em : g.mem[n]? = some (some (.lw us))) : g.len? (.h n) = some us.length := by unfold G.len?; dsimp only; rw [em]
theorem tree_h {us : List T} (em : g.mem[n]? = some (some (.lt us))) : g.tree? (.h n) = some (.lst us) := by unfold G.tree?; dsimp only; rw [em]; rfl
theorem tyN_h {us : List T} (em : g.mem[n]? = some (some (.lt us))) : g.tyN (.h n) = some "list" := by unfold G.tyN; dsimp only; rw [em]
theorem i_ixHW {us : List W} {i : Int} {v : W} (em : g.mem[n]? = some (some (.lw us))) (hv : atI us i = some v) (h : Q v g) : fIx g (.h n) (.t (.int i)) Q := i_ixW (seq_hw em) (wseq_h em) hv h
theorem i_ixHT {us : List T} {i : Int} {v : T} (em : g.mem[n]? = some (some (.lt us))) (hv : atI us i = some v) (h : Q (.t v) g) : fIx g (.h n) (.t (.int i)) Q := i_ix (seq_h em) hv h
theorem i_lenHW {us : List W} (em : g.mem[n]? = some (some (.lw us))) (h : Q (.t (.int us.length)) g) : fLen g [.h n] Q := i_len (len_hw em) h
theorem i_lenHT {us : List T} (em : g.mem[n]? = some (some (.lt us))) (h : Q (.t (.int us.length)) g) : fLen g [.h n] Q := i_len (len_h em) h
theorem o_LqH {us : List T} {P : List W → (G → Prop) → Prop} (em : g.mem[n]? = some (some (.lt us))) (h : P (us.map W.t) (fun g' => g'.lq? (.h n) = some us)) : onLq g (.h n) P := o_Lq (lq_h em) h
theorem i_tupOfH {us : List T} (em : g.mem[n]? = some (some (.lt us))) (h : Q (.t (.tup us)) g) : fTupOf g [.h n] Q := i_tupOf (lq_h em) h
theorem i_addW {x y : W} {xs ys : List W} (e1 : g.wl? x = some xs) (e2 : g.wl? y = some ys) (hl : xs.length + ys.length ≤ sizeLine) (h : Q (.h g.mem.length) (g.push (.lw (xs ++ ys)))) : fAddW g x y Q := by
  unfold fAddW; rw [e1, e2]; exact ⟨hl, h⟩
end
/-! calls that are handed cells -/
def callS (C : SC) (ws : List W) (g1 : G) (Q : W → G → Prop) : Prop := ∃ (r : List Nat) (m0 : List Cell) (ws0 : List W), r.Nodup ∧ r.length = m0.length ∧ ups r ws0 = some ws ∧
  (∀ (i : Nat) (c : Cell), m0[i]? = some c → ∃ j c', r[i]? = some j ∧ c.up r = some c' ∧ g1.mem[j]? = some (some c')) ∧
  C ws0 m0 fun w m1 cs => ∃ w' m1' cs', w.up (r ++ (List.range cs.length).map (g1.mem.length + ·)) = some w' ∧ cups (r ++ (List.range cs.length).map (g1.mem.length + ·)) m1 = some m1' ∧ cups (r ++ (List.range cs.length).map (g1.mem.length + ·)) cs = some cs' ∧
    Q w' ⟨g1.sl, setAll g1.mem r m1' ++ cs'.map some⟩
theorem i_callS {C : SC} {ts : DAt} {g : G} {Q : W → G → Prop} (h : ts g fun ws g1 => callS C ws g1 Q) : dCallS C ts g Q := h
/-! ends of defs that were handed cells -/
theorem fin_s {n0 : Nat} {QC : W → List Cell → List Cell → Prop} {w : W} {g : G} (ks : List Nat) (m1 cs : List Cell) (w' : W) (nd : (List.range n0 ++ ks).Nodup) (lt : ∀ j ∈ List.range n0 ++ ks, j < g.mem.length) (hw : w'.up (List.range n0 ++ ks) = some w) (l1 : m1.length = n0) (l2 : cs.length = ks.length)
    (hc : ∀ (i : Nat) (c' : Cell), (m1 ++ cs)[i]? = some c' → ∃ j c, (List.range n0 ++ ks)[i]? = some j ∧ c'.up (List.range n0 ++ ks) = some c ∧ g.mem[j]? = some (some c)) (q : QC w' m1 cs) : FinS n0 QC w g :=
  ⟨ks, m1, cs, w', nd, lt, hw, l1, l2, hc, q⟩
/-! a purse: its list at handle 0, its cells at handle 1 -/
def purse (turn : Nat) (cells : List Int) : List Cell := [.lw [.h 1, .t (.int turn)], .lt (cells.map T.int)]
def purseM (turn : Nat) (cells : List Int) : Sto := [some (.lw [.h 1, .t (.int turn)]), some (.lt (cells.map T.int))]
theorem purse_set2 {t : Nat} {c : List Int} {m : Sto} {v : Option Cell} : (purseM t c ++ m).set 2 v = purseM t c ++ m.set 0 v := rfl
theorem purse_set3 {t : Nat} {c : List Int} {m : Sto} {v : Option Cell} : (purseM t c ++ m).set 3 v = purseM t c ++ m.set 1 v := rfl
theorem purse_set4 {t : Nat} {c : List Int} {m : Sto} {v : Option Cell} : (purseM t c ++ m).set 4 v = purseM t c ++ m.set 2 v := rfl
theorem purse_set5 {t : Nat} {c : List Int} {m : Sto} {v : Option Cell} : (purseM t c ++ m).set 5 v = purseM t c ++ m.set 3 v := rfl
theorem purse_app {t : Nat} {c : List Int} {m l : Sto} : (purseM t c ++ m) ++ l = purseM t c ++ (m ++ l) := List.append_assoc _ _ _
theorem purse_len {t : Nat} {c : List Int} {m : Sto} : (purseM t c ++ m).length = m.length + 2 := by rw [List.length_append]; show 2 + m.length = _; omega
theorem purse_start {t : Nat} {c : List Int} : (purse t c).map some = purseM t c ++ [] := rfl
theorem purse_l {t : Nat} {c : List Int} : (purse t c).length = 2 := rfl
/-- the contract's common part: at most d draws -/
def C_draw : SC := fun ws m QC => ∃ (n : Int) (turn : Nat) (cells : List Int), ws = [.h 0, .t (.int n)] ∧ m = purse turn cells ∧ 0 < cells.length ∧ cells.length ≤ 1000 ∧ 0 < n ∧ n < 10000000000000000 ∧ turn ≤ 1000000 ∧
  ∀ (r : Int) (cells' : List Int), 0 ≤ r → r < n → cells'.length = cells.length → QC (.t (.int r)) (purse (turn + 1) cells') []
/-- in a caller whose purse is at handles 0 and 1 -/
theorem callS_draw {n : Int} {turn : Nat} {cells : List Int} {sl : List (Option W)} {mem : Sto} {Q : W → G → Prop} (h0 : 0 < cells.length) (h1 : cells.length ≤ 1000) (h2 : 0 < n) (h3 : n < 10000000000000000) (h4 : turn ≤ 1000000)
    (h : ∀ (r : Int) (cells' : List Int), 0 ≤ r → r < n → cells'.length = cells.length → Q (.t (.int r)) ⟨sl, purseM (turn + 1) cells' ++ mem⟩) : callS C_draw [.h 0, .t (.int n)] ⟨sl, purseM turn cells ++ mem⟩ Q := by
  refine ⟨[0, 1], purse turn cells, [.h 0, .t (.int n)], by decide, rfl, rfl, fun i c e => ?_, n, turn, cells, rfl, rfl, h0, h1, h2, h3, h4, fun r cells' k1 k2 k3 => ⟨.t (.int r), purse (turn + 1) cells', [], rfl, rfl, rfl, ?_⟩⟩
  · match i, e with
    | 0, e => cases e; exact ⟨0, _, rfl, rfl, rfl⟩
    | 1, e => cases e; exact ⟨1, _, rfl, rfl, rfl⟩
    | i + 2, e => simp [purse] at e
  · have := h r cells' k1 k2 k3
    show Q (.t (.int r)) ⟨sl, setAll (purseM turn cells ++ mem) [0, 1] (purse (turn + 1) cells') ++ [].map some⟩
    rw [List.map_nil, List.append_nil]
    exact this
theorem callS_p {C : SC} {ws : List W} {sl : List (Option W)} {mem : Sto} {Q : W → G → Prop} {turn : Nat} {cells : List Int} (ws0 : List W) (hw : ups [0, 1] ws0 = some ws)
    (h : C ws0 (purse turn cells) fun w m1 cs => ∃ (w' : W) (cs' : List Cell) (t' : Nat) (c' : List Int), m1 = purse t' c' ∧ w.up ([0, 1] ++ (List.range cs.length).map (mem.length + 2 + ·)) = some w' ∧ cups ([0, 1] ++ (List.range cs.length).map (mem.length + 2 + ·)) cs = some cs' ∧ Q w' ⟨sl, purseM t' c' ++ (mem ++ cs'.map some)⟩)
    (mono : ∀ (P P' : W → List Cell → List Cell → Prop), (∀ w m cs, P w m cs → P' w m cs) → C ws0 (purse turn cells) P → C ws0 (purse turn cells) P') : callS C ws ⟨sl, purseM turn cells ++ mem⟩ Q := by
  refine ⟨[0, 1], purse turn cells, ws0, by decide, rfl, hw, fun i c e => ?_, mono _ _ (fun w m1 cs ⟨w', cs', t', c', e1, e2, e3, q⟩ => ?_) h⟩
  · match i, e with
    | 0, e => cases e; exact ⟨0, _, rfl, rfl, rfl⟩
    | 1, e => cases e; exact ⟨1, _, rfl, rfl, rfl⟩
    | i + 2, e => simp [purse] at e
  · subst e1
    have el : (purseM turn cells ++ mem).length = mem.length + 2 := purse_len
    refine ⟨w', purse t' c', cs', by rw [el]; exact e2, rfl, by rw [el]; exact e3, ?_⟩
    have es : setAll (purseM turn cells ++ mem) [0, 1] (purse t' c') = purseM t' c' ++ mem := rfl
    rw [es, List.append_assoc]
    exact q
theorem fin_purse {QC : W → List Cell → List Cell → Prop} {w' : T} {sl : List (Option W)} {mem : Sto} {turn : Nat} {cells : List Int} (q : QC (.t w') (purse turn cells) []) : FinS 2 QC (.t w') ⟨sl, purseM turn cells ++ mem⟩ := by
  refine fin_s [] (purse turn cells) [] (.t w') (by decide) ?_ rfl rfl rfl ?_ q
  · intro j hj
    have : j < 2 := by simpa using hj
    show j < (purseM turn cells ++ mem).length
    rw [List.length_append]
    show j < 2 + mem.length
    omega
  · intro i c e
    match i, e with
    | 0, e => cases e; exact ⟨0, _, rfl, rfl, rfl⟩
    | 1, e => cases e; exact ⟨1, _, rfl, rfl, rfl⟩
    | i + 2, e => simp [purse] at e
/-- .. handing back a fresh plain cell, at handle n -/
theorem fin_purseF {QC : W → List Cell → List Cell → Prop} {n : Nat} {c : Cell} {sl : List (Option W)} {mem : Sto} {turn : Nat} {cells : List Int} (e : mem[n]? = some (some c)) (hp : c.plain = true) (q : QC (.h 2) (purse turn cells) [c]) : FinS 2 QC (.h (2 + n)) ⟨sl, purseM turn cells ++ mem⟩ := by
  have hn : n < mem.length := (List.getElem?_eq_some_iff.mp e).1
  refine fin_s [2 + n] (purse turn cells) [c] (.h 2) ?_ ?_ rfl rfl rfl ?_ q
  · show ([0, 1] ++ [2 + n]).Nodup
    simp
    omega
  · intro j hj
    show j < (purseM turn cells ++ mem).length
    rw [List.length_append]
    show j < 2 + mem.length
    have : j = 0 ∨ j = 1 ∨ j = 2 + n := by simpa [List.range, List.range.loop] using hj
    omega
  · intro i c' ei
    match i, ei with
    | 0, ei => cases ei; exact ⟨0, _, rfl, rfl, rfl⟩
    | 1, ei => cases ei; exact ⟨1, _, rfl, rfl, rfl⟩
    | 2, ei =>
      cases ei
      refine ⟨2 + n, c, rfl, up_plain hp _, ?_⟩
      show (purseM turn cells ++ mem)[2 + n]? = _
      rw [List.getElem?_append_right (by show 2 ≤ 2 + n; omega), show 2 + n - (purseM turn cells).length = n by show 2 + n - 2 = n; omega]
      exact e
    | i + 3, ei => simp [purse] at ei
end DL

namespace DL
open PySem PySem.Spec L2
/-! comprehensions whose parts' walks may differ from block to block -/
section
variable {X : Cx} {pos : Pos} {tg iter elt : Expr} {ifs : List Expr} {scope : Scope} {own : List (Str × Nat)} {wi : TI} {it : DIt} {gt : DGt} {tt : DTt} {te : Dt} {fin : Fin3}
abbrev BlkAll (X : Cx) (scope : Scope) (P : Cx → Prop) : Prop := ∀ (s : Shared) (H : Hp) (C : Addr) (cl : List (Str × Addr)) (fp : List Addr), P (X.blk s H scope (compEnvC scope cl C X.env) fp)
def uG (h : BlkAll X scope fun Y => ∃ τ, CG Y tg τ gt (own.map (·.2))) : TG := fun v σ H Q => ∀ s H0 C cl fp, (Classical.choose (h s H0 C cl fp)) v σ H Q
def uT (h : BlkAll X scope fun Y => ∃ τ, DTs Y ifs τ tt) : TT := fun σ H Q => ∀ s H0 C cl fp, (Classical.choose (h s H0 C cl fp)) σ H Q
def uE (h : BlkAll X scope fun Y => ∃ τ, DE Y elt τ te) : TE := fun σ H Q => ∀ s H0 C cl fp, (Classical.choose (h s H0 C cl fp)) σ H Q
theorem uG_ok (h : BlkAll X scope fun Y => ∃ τ, CG Y tg τ gt (own.map (·.2))) : BlkAll X scope fun Y => CG Y tg (uG h) gt (own.map (·.2)) := fun s H C cl fp =>
  ⟨⟨fun pins s1 σ H1 v u Q I r q => (Classical.choose_spec (h s H C cl fp)).pe.run pins s1 σ H1 v u Q I r (q s H C cl fp)⟩,
    fun al S F H1 σ g v w Q QV R d q k s2 H2 C2 cl2 fp2 => (Classical.choose_spec (h s2 H2 C2 cl2 fp2)).r al S F H1 σ g v w Q QV R d q k⟩
theorem uT_ok (h : BlkAll X scope fun Y => ∃ τ, DTs Y ifs τ tt) : BlkAll X scope fun Y => DTs Y ifs (uT h) tt := fun s H C cl fp =>
  ⟨⟨fun pins s1 σ H1 Q I q => (Classical.choose_spec (h s H C cl fp)).pe.run pins s1 σ H1 Q I (q s H C cl fp)⟩,
    fun al S F H1 σ g Q QV R q k s2 H2 C2 cl2 fp2 => (Classical.choose_spec (h s2 H2 C2 cl2 fp2)).r al S F H1 σ g Q QV R q k⟩
theorem uE_ok (h : BlkAll X scope fun Y => ∃ τ, DE Y elt τ te) : BlkAll X scope fun Y => DE Y elt (uE h) te := fun s H C cl fp =>
  ⟨⟨fun pins s1 σ H1 Q I q => (Classical.choose_spec (h s H C cl fp)).pe.run pins s1 σ H1 Q I (q s H C cl fp)⟩,
    fun al S F H1 σ g Q QV R q k s2 H2 C2 cl2 fp2 => (Classical.choose_spec (h s2 H2 C2 cl2 fp2)).r al S F H1 σ g Q QV R q k⟩
theorem de_lcU (hf : FinOk X.K fin) (hc : X.calm = true) (hN : X.N.Nodup) (hi : DI X tg iter wi it) (ok : BlkOk X.N X.env.scope scope own)
    (hg : BlkAll X scope fun Y => ∃ τ, CG Y tg τ gt (own.map (·.2))) (ht : BlkAll X scope fun Y => ∃ τ, DTs Y ifs τ tt) (he : BlkAll X scope fun Y => ∃ τ, DE Y elt τ te) (s0 : Shared) (hs : ∀ x, foldedSetIterable iter X.env x = pure x := by intro _; rfl) :
    DE X (.ListComp elt [⟨tg, iter, ifs, 0⟩] scope pos) (tLc wi (uG hg) (uT ht) (uE he) (own.map (·.2))) (dLc fin it gt tt te (own.map (·.2))) :=
  de_lc hf hc hN hi ok (uG_ok hg) (uT_ok ht) (uE_ok he) s0 hs
theorem ds_setLcU (i : Nat) {y : Str} {py spos : Pos} (hf : FinOk X.K fin) (hc : X.calm = true) (hN : X.N.Nodup) (hi : DI X tg iter wi it) (ok : BlkOk X.N X.env.scope scope own)
    (hg : BlkAll X scope fun Y => ∃ τ, CG Y tg τ gt (own.map (·.2))) (ht : BlkAll X scope fun Y => ∃ τ, DTs Y ifs τ tt) (he : BlkAll X scope fun Y => ∃ τ, DE Y elt τ te) (s0 : Shared) (hy : X.N[i]? = some y := by rfl) (hyl : X.env.scope.names.lookup y = some .local := by rfl)
    (hsw : swapsWith (.ListComp elt [⟨tg, iter, ifs, 0⟩] scope pos) (some (.Name y py)) spos.line X.env = pure true := by exact sw_true rfl rfl rfl (by decide +kernel)) (hs : ∀ x, foldedSetIterable iter X.env x = pure x := by intro _; rfl) :
    DS X (.Assign [.Name y py] (.ListComp elt [⟨tg, iter, ifs, 0⟩] scope pos) spos) (tAsg (tLc wi (uG hg) (uT ht) (uE he) (own.map (·.2))) (gName i)) (dAsg (dLc fin it gt tt te (own.map (·.2))) (dgN i)) :=
  ds_setLc i hf hc hN hi ok (uG_ok hg) (uT_ok ht) (uE_ok he) s0 hy hyl hsw hs
end
/-! comparisons as tests -/
section
variable {X : Cx} {a b : Expr} {τa τb : TE} {ta tb : Dt} {pos : Pos}
theorem dt_mk {e : Expr} (h : PT X e (L2.tB τa)) (r : DEr X.K τa ta) : DT X e (L2.tB τa) (dB ta) := by
  refine ⟨h, fun al S F H σ g Q QV R q k => ?_⟩
  refine r al S F H σ g _ _ R q fun al1 S1 H1 g1 v1 w1 R1 gr1 e1 q1 => ?_
  split at q1
  · rename_i bb
    refine ⟨bb, ?_, k _ _ _ _ _ R1 gr1 q1⟩
    unfold DenW Den at e1
    exact e1
  · exact q1.elim
theorem dt_cmp {op : CmpOp} {r : R2} {f : F2} (ho : OpR X (compareOp op) r) (h : Op2 X.K r f) (ha : DE X a τa ta) (hb : DE X b τb tb) (hm : behindInMarks op b = false := by first | exact nomark _ | rfl) : DT X (.Compare a [op] [b] pos) (L2.tB (tOp r τa τb)) (dB (d2 f ta tb)) :=
  dt_mk (pt_cmpR ho ha.pe hb.pe hm) (der_op2 h ha.r hb.r)
theorem dt_eq {kk : Nat} (hr : Room kk X.A) (ha : DE X a τa ta) (hb : DE X b τb tb) : DT X (.Compare a [.Eq] [b] pos) (L2.tB (tOp (fun x y H Q => (scal x y = true ∧ Q (.bl (if false then !decide (x = y) else decide (x = y))) H) ∨
    (∃ d e, Dp X.K H x d ∧ Dp X.K H y e ∧ SeqAt.shaped d = true ∧ SeqAt.shaped e = true ∧ Q (.bl (if false then !PyData.eqv d e else PyData.eqv d e)) H)) τa τb)) (dB (d2 (fEq false) ta tb)) := dt_cmp (op_eq.or (op_eqD hr.units)) (op2_eq false) ha hb
theorem dt_ne {kk : Nat} (hr : Room kk X.A) (ha : DE X a τa ta) (hb : DE X b τb tb) : DT X (.Compare a [.NotEq] [b] pos) (L2.tB (tOp (fun x y H Q => (scal x y = true ∧ Q (.bl (if true then !decide (x = y) else decide (x = y))) H) ∨
    (∃ d e, Dp X.K H x d ∧ Dp X.K H y e ∧ SeqAt.shaped d = true ∧ SeqAt.shaped e = true ∧ Q (.bl (if true then !PyData.eqv d e else PyData.eqv d e)) H)) τa τb)) (dB (d2 (fEq true) ta tb)) := dt_cmp (op_ne.or (op_neD hr.units)) (op2_eq true) ha hb
theorem dt_lt (ha : DE X a τa ta) (hb : DE X b τb tb) : DT X (.Compare a [.Lt] [b] pos) (L2.tB (tOp (rI0 fun i j => V.bl (decide (i < j))) τa τb)) (dB (d2 (fI0 fun i j => .bl (decide (i < j))) ta tb)) := dt_cmp op_lt (op2_I0 fun _ _ _ => denB _) ha hb
theorem dt_le (ha : DE X a τa ta) (hb : DE X b τb tb) : DT X (.Compare a [.LtE] [b] pos) (L2.tB (tOp (rI0 fun i j => V.bl (decide (i ≤ j))) τa τb)) (dB (d2 (fI0 fun i j => .bl (decide (i ≤ j))) ta tb)) := dt_cmp op_le (op2_I0 fun _ _ _ => denB _) ha hb
theorem dt_gt (ha : DE X a τa ta) (hb : DE X b τb tb) : DT X (.Compare a [.Gt] [b] pos) (L2.tB (tOp (rI0 fun i j => V.bl (decide (j < i))) τa τb)) (dB (d2 (fI0 fun i j => .bl (decide (j < i))) ta tb)) := dt_cmp op_gt (op2_I0 fun _ _ _ => denB _) ha hb
theorem dt_ge (ha : DE X a τa ta) (hb : DE X b τb tb) : DT X (.Compare a [.GtE] [b] pos) (L2.tB (tOp (rI0 fun i j => V.bl (decide (j ≤ i))) τa τb)) (dB (d2 (fI0 fun i j => .bl (decide (j ≤ i))) ta tb)) := dt_cmp op_ge (op2_I0 fun _ _ _ => denB _) ha hb
theorem dt_in (ha : DE X a τa ta) (hb : DE X b τb tb) (hm : behindInMarks .In b = false := by rfl) : DT X (.Compare a [.In] [b] pos) (L2.tB (tOp (rIn X.K false) τa τb)) (dB (d2 (fIn false) ta tb)) := dt_cmp op_in_seq (op2_in false) ha hb hm
theorem dt_notin (ha : DE X a τa ta) (hb : DE X b τb tb) (hm : behindInMarks .NotIn b = false := by rfl) : DT X (.Compare a [.NotIn] [b] pos) (L2.tB (tOp (rIn X.K true) τa τb)) (dB (d2 (fIn true) ta tb)) := dt_cmp op_notIn_seq (op2_in true) ha hb hm
theorem dt_din {kk : Nat} (hr : Room kk X.A) (ha : DE X a τa ta) (hb : DE X b τb tb) (h1 : behindInMarks .In b = false := by rfl) : DT X (.Compare a [.In] [b] pos) (L2.tB (tDIn τa τb)) (dB (d2 (fDin false) ta tb)) :=
  dt_mk (pt_cmp (pc_din (hu_of hr) ha.pe hb.pe) h1) (de_din (pos := pos) hr ha hb h1).r
theorem dt_dnotin {kk : Nat} (hr : Room kk X.A) (ha : DE X a τa ta) (hb : DE X b τb tb) (h1 : behindInMarks .NotIn b = false := by rfl) : DT X (.Compare a [.NotIn] [b] pos) (L2.tB (tDNotIn τa τb)) (dB (d2 (fDin true) ta tb)) :=
  dt_mk (pt_cmp (pc_dnotin (hu_of hr) ha.pe hb.pe) h1) (de_dnotin (pos := pos) hr ha hb h1).r
end
theorem de_globE {X : Cx} {x : Str} {i : Int} {pos : Pos} (hg : Gl X x) (hm : ∃ tk : Tok, X.mg x = some (.int i tk)) (hd : (x == ("__debug__" : Str)) = false := by decide) : DE X (.Name x pos) (tC (.int i)) (dC (.int i)) := by
  obtain ⟨tk, e⟩ := hm
  exact de_globI hg e hd
/-- a comprehension whose elements are new cells -/
theorem lcNew {g1 : G} {gt : DGt} {tt : DTt} {te : Dt} {vs : List Nat} {fin : Fin3} {Q : W → G → Prop} {ws : List W} {St : G → Prop} {ι : Type} (items : List ι) (enc : ι → W) (out : ι → Cell) (hws : ws = items.map enc) (hlen : items.length ≤ sizeLine) (hSt : ∀ g', St g')
    (hel : ∀ x ∈ items, ∀ (m : Sto) (Y : W → G → Prop) (N : G → Prop), (∀ g4, g4.wipe vs = ⟨wipeW g1.sl vs, m ++ [some (out x)]⟩ → Y (.h m.length) g4) → gt (enc x) ⟨wipeW g1.sl vs, m⟩ fun g2 => tt g2 fun b g3 => if b = true then te g3 Y else N g3)
    (hQ : fin ((List.range items.length).map fun j => W.h (g1.mem.length + j)) ((⟨wipeW g1.sl vs, g1.mem ++ items.map fun x => some (out x)⟩ : G).rs g1 vs) Q) : lcI fin ws St g1 gt tt te vs Q := by
  subst hws
  refine ⟨fun i acc g' => acc = (List.range i).map (fun j => W.h (g1.mem.length + j)) ∧ i ≤ items.length ∧ g' = ⟨wipeW g1.sl vs, g1.mem ++ (items.take i).map fun x => some (out x)⟩, ⟨rfl, Nat.zero_le _, by rw [List.take_zero, List.map_nil, List.append_nil]; rfl⟩, ?_, ?_, by simpa using hlen, ?_⟩
  · rintro i acc g' ⟨rfl, _, rfl⟩
    exact ⟨hSt _, by rw [List.length_map, List.length_range]; exact Nat.le_refl _⟩
  · rintro i acc w g' hw' ⟨rfl, hi, rfl⟩
    rw [List.getElem?_map] at hw'
    cases e : items[i]? with
    | none => rw [e] at hw'; cases hw'
    | some x =>
      rw [e] at hw'
      cases hw'
      have hil : i < items.length := (List.getElem?_eq_some_iff.mp e).1
      refine hel x (List.mem_of_getElem? e) _ _ _ fun g4 h4 => ⟨?_, hil, ?_⟩
      · rw [List.range_succ, List.map_append, List.length_append, List.length_map, List.length_take, Nat.min_eq_left hi]
        rfl
      · rw [h4, List.take_add_one, e, List.map_append, List.append_assoc]
        rfl
  · rintro acc g' ⟨rfl, _, rfl⟩
    rw [List.length_map, List.take_length]
    exact hQ
end DL

namespace DL
open PySem PySem.Spec L2
/-! a part of a tuple -/
def onCutT (g3 : G) (x : W) (lo hi : Option Int) (Q : W → G → Prop) : Prop := match x with
  | .t (.tup ts) => ¬ (HT.sIx ts.length 0 lo = 0 ∧ HT.sIx ts.length ts.length hi = ts.length) ∧ Q (.t (.tup (cut ts lo hi))) g3
  | _ => False
def dSlT (t : Dt) (l u : DOt) : Dt := fun g Q => t g fun x g1 => l g1 fun lo g2 => u g2 fun hi g3 => onCutT g3 x lo hi Q
section
variable {X : Cx} {a : Expr} {τa : TE} {ta : Dt} {pos : Pos}
theorem de_slT {lo hi : Option Expr} {τl τh : TO} {tl th : DOt} {p2 : Pos} (ha : DE X a τa ta) (hl : DO X lo τl tl) (hh : DO X hi τh th) : DE X (.Subscript a (.Slice lo hi none p2) pos) (tSl (rSlT X.K) τa τl τh) (dSlT ta tl th) := by
  refine ⟨pe_slice sl_tup ha.pe hl.pe hh.pe, fun al S F H σ g Q QV R q k => ?_⟩
  refine ha.r al S F H σ g _ _ R q fun al1 S1 H1 g1 v1 w1 R1 gr1 e1 q1 => ?_
  refine hl.r al1 S1 F H1 σ g1 _ _ R1 q1 fun al2 S2 H2 g2 b2 R2 gr2 q2 => ?_
  refine hh.r al2 S2 F H2 σ g2 _ _ R2 q2 fun al3 S3 H3 g3 b3 R3 gr3 q3 => ?_
  unfold onCutT at q3
  split at q3
  · rename_i ts
    have e2 := e1.grow (gr2.trans gr3)
    unfold DenW Den at e2
    obtain ⟨a, vs, rfl, h1, h2⟩ := e2
    have h2 := Dens.iff.mp h2
    refine ⟨a, vs, rfl, seqT R3.same h1, ?_, fun p np => ?_⟩
    · rw [← h2.length]
      exact q3.1
    · have hp : Paired (Den X.K S3) (cut ts b2 b3) (cutV vs b2 b3) := by
        unfold cut cutV
        rw [h2.length]
        exact ptake _ (pdrop _ h2)
      obtain ⟨R4, gr4, d⟩ := R3.layTup np hp
      exact k _ _ _ _ _ _ R4 (gr1.trans (gr2.trans (gr3.trans gr4))) d q3.2
  · exact q3.elim
end
theorem i_slT {g : G} {Q : W → G → Prop} {t : Dt} {l u : DOt} (h : t g fun x g1 => l g1 fun lo g2 => u g2 fun hi g3 => onCutT g3 x lo hi Q) : dSlT t l u g Q := h
theorem o_cutT {g : G} {Q : W → G → Prop} {lo hi : Option Int} {ts : List T} (hn : ¬ (HT.sIx ts.length 0 lo = 0 ∧ HT.sIx ts.length ts.length hi = ts.length)) (h : Q (.t (.tup (cut ts lo hi))) g) : onCutT g (.t (.tup ts)) lo hi Q := ⟨hn, h⟩
/-! [x] * n as a new cell -/
def fRepH : F2 := fun g x y Q => match g.seqL? x, y with
  | some xs, .t (.int k) => (-(2 ^ 63) ≤ k ∧ k < 2 ^ 63 ∧ xs.length * k.toNat ≤ sizeLine) ∧ Q (.h g.mem.length) (g.push (.lt (List.replicate k.toNat xs).flatten))
  | _, _ => False
theorem op2_repH {K : PySem.W.Frag} : Op2 K rRep fRepH := by
  intro al S F H σ g x y wx wy Q QV R dx dy q k
  unfold fRepH at q
  split at q
  · rename_i xs z ex
    obtain ⟨a, vs, rfl, h1, h2⟩ := R.viewL dx ex
    unfold DenW Den at dy
    refine ⟨a, z, vs, rfl, dy, h1, q.1.1, q.1.2.1, by rw [← h2.length]; exact q.1.2.2, fun p np => ?_⟩
    obtain ⟨R1, gr, d⟩ := R.pushC (c := .lt (List.replicate z.toNat xs).flatten) (o := .lst (List.replicate z.toNat vs).flatten) np ⟨_, rfl, prep h2 z.toNat⟩
    exact k _ _ _ _ _ _ R1 gr d q.2
  · exact q.elim
section
variable {X : Cx} {a b : Expr} {τa τb : TE} {ta tb : Dt} {pos : Pos}
theorem de_repH (ha : DE X a τa ta) (hb : DE X b τb tb) : DE X (.BinOp a .Mult b pos) (tOp rRep τa τb) (d2 fRepH ta tb) := de_op op_rep op2_repH ha hb
end
theorem i_repH {g : G} {Q : W → G → Prop} {x : W} {xs : List T} {k : Int} (e1 : g.seqL? x = some xs) (hl : -(2 ^ 63) ≤ k ∧ k < 2 ^ 63 ∧ xs.length * k.toNat ≤ sizeLine) (h : Q (.h g.mem.length) (g.push (.lt (List.replicate k.toNat xs).flatten))) : fRepH g x (.t (.int k)) Q := by
  unfold fRepH; rw [e1]; exact ⟨hl, h⟩
/-! lists of handles, gone through -/
theorem o_LqW {g : G} {w : W} {us : List W} {P : List W → (G → Prop) → Prop} (e0 : g.lq? w = none) (e : g.wseq? w = some us) (h : P us (fun g' => g'.wseq? w = some us)) : onLq g w P := by
  unfold onLq; rw [e0]; dsimp only; rw [e]; exact h
theorem lcW {g1 : G} {gt : DGt} {tt : DTt} {te : Dt} {vs : List Nat} {fin : Fin3} {Q : W → G → Prop} {ws : List W} {St : G → Prop} {ι : Type} (items : List ι) (enc : ι → W) (keep : ι → Bool) (out : ι → W) (hws : ws = items.map enc) (hlen : items.length ≤ sizeLine) (hSt : St (g1.wipe vs))
    (hel : ∀ x ∈ items, ∀ (Y : W → G → Prop) (N : G → Prop), (keep x = true → ∀ g4, g4.wipe vs = g1.wipe vs → Y (out x) g4) → (keep x = false → ∀ g3, g3.wipe vs = g1.wipe vs → N g3) → gt (enc x) (g1.wipe vs) fun g2 => tt g2 fun b g3 => if b = true then te g3 Y else N g3)
    (hQ : fin ((items.filter keep).map out) ((g1.wipe vs).rs g1 vs) Q) : lcI fin ws St g1 gt tt te vs Q := by
  subst hws
  refine ⟨fun i acc g' => acc = (((items.take i).filter keep).map out) ∧ g' = g1.wipe vs, ⟨rfl, rfl⟩, ?_, ?_, by simpa using hlen, ?_⟩
  · rintro i acc g' ⟨rfl, rfl⟩
    refine ⟨hSt, ?_⟩
    rw [List.length_map]
    exact Nat.le_trans (List.length_filter_le _ _) (by rw [List.length_take]; exact Nat.min_le_left _ _)
  · rintro i acc w g' hw' ⟨rfl, rfl⟩
    rw [List.getElem?_map] at hw'
    cases e : items[i]? with
    | none => rw [e] at hw'; cases hw'
    | some x =>
      rw [e] at hw'
      cases hw'
      refine hel x (List.mem_of_getElem? e) _ _ (fun hk g4 h4 => ⟨?_, h4⟩) (fun hk g3 h3 => ⟨?_, h3⟩)
      · rw [List.take_add_one, e, List.filter_append, List.map_append]
        simp [hk]
      · rw [List.take_add_one, e, List.filter_append, List.map_append]
        simp [hk]
  · rintro acc g' ⟨rfl, rfl⟩
    rw [List.length_map, List.take_length]
    exact hQ
end DL

namespace DL
open PySem PySem.Spec L2
/-! sorted(list of ints) -/
def fSorted : FN := fun g ws Q => match ws with
  | [w] => ∃ ns : List Int, g.lq? w = some (ns.map T.int) ∧ ∀ ns' : List Int, ns'.Perm ns → ns'.Pairwise (· ≤ ·) → Q (.t (.lst (ns'.map T.int))) g
  | _ => False
def fSortedH : FN := fun g ws Q => match ws with
  | [w] => ∃ ns : List Int, g.lq? w = some (ns.map T.int) ∧ ∀ ns' : List Int, ns'.Perm ns → ns'.Pairwise (· ≤ ·) → Q (.h g.mem.length) (g.push (.lt (ns'.map T.int)))
  | _ => False
theorem opN_sorted {K : PySem.W.Frag} : OpN K (rSortedI K) fSorted := by
  intro al S F H σ g xs ws Q QV R ds q k
  unfold fSorted at q
  split at q
  · obtain ⟨v, rfl, d⟩ := p1 ds
    obtain ⟨ns, e, q⟩ := q
    obtain ⟨a, rfl, h1⟩ := R.viewI d e
    refine ⟨a, ns, rfl, h1, fun ns' p hp hs np => ?_⟩
    obtain ⟨R2, gr2, d2⟩ := R.layL np (ts := ns'.map T.int) (den_ints ns')
    exact k _ _ _ _ _ _ R2 gr2 d2 (q ns' hp hs)
  · exact q.elim
theorem opN_sortedH {K : PySem.W.Frag} : OpN K (rSortedI K) fSortedH := by
  intro al S F H σ g xs ws Q QV R ds q k
  unfold fSortedH at q
  split at q
  · obtain ⟨v, rfl, d⟩ := p1 ds
    obtain ⟨ns, e, q⟩ := q
    obtain ⟨a, rfl, h1⟩ := R.viewI d e
    refine ⟨a, ns, rfl, h1, fun ns' p hp hs np => ?_⟩
    obtain ⟨R2, gr2, d2⟩ := R.pushC (c := .lt (ns'.map T.int)) (o := .lst (ns'.map V.int)) np ⟨_, rfl, den_ints ns'⟩
    exact k _ _ _ _ _ _ R2 gr2 d2 (q ns' hp hs)
  · exact q.elim
section
variable {X : Cx} {e : Expr} {es : List Expr} {τs : TA} {ts : DAt} {p pos : Pos}
theorem de_sorted (hm : X.mg "sorted" = none) (ha : DA X (e :: es) τs ts) (hg : Gl X "sorted" := by rfl) (he : starEach (e :: es) X.env = (false, eval e X.env) :: starEach es X.env := by rfl) (hpl : (backTo pos (starEach es X.env)).any (·.1) = false := by rfl) :
    DE X (.Call (.Name "sorted" p) (e :: es) [] pos) (tCB (rSortedI X.K) τs) (dN fSorted ts) := de_cB cr_sortedI opN_sorted hm ha (by decide +kernel) hg (by decide) (by decide) he hpl
theorem de_sortedH (hm : X.mg "sorted" = none) (ha : DA X (e :: es) τs ts) (hg : Gl X "sorted" := by rfl) (he : starEach (e :: es) X.env = (false, eval e X.env) :: starEach es X.env := by rfl) (hpl : (backTo pos (starEach es X.env)).any (·.1) = false := by rfl) :
    DE X (.Call (.Name "sorted" p) (e :: es) [] pos) (tCB (rSortedI X.K) τs) (dN fSortedH ts) := de_cB cr_sortedI opN_sortedH hm ha (by decide +kernel) hg (by decide) (by decide) he hpl
/-! calls without arguments -/
theorem de_callS0 {k : Nat} {f : Addr} {fd : FuncData} {ps : List Str} {C : SC} {x : Str} (F : FnOk X.prog X.w X.K X.mg X.base CX0 k f fd ps (sps X.K C)) (hr : Room k X.A) (hm : X.mg x = some (.ref f)) (hk : PySem.W.keepIn X.K (.ref f) = true) (hb : Binds X.K fd ps [])
    (hg : Gl X x := by rfl) (hdb : (x == ("__debug__" : Str)) = false := by decide) : DE X (.Call (.Name x p) [] [] pos) (tCall (sps X.K C) [] E0 tNil) (dCallS C dNil) :=
  ⟨pe_call0 F hr hg hm hk hb .nil pass0 hdb, der_callS (da_nil (X := X)).r⟩
theorem de_callT0 {k : Nat} {f : Addr} {fd : FuncData} {ps : List Str} {C : PC} {x : Str} (F : FnOk X.prog X.w X.K X.mg X.base CX0 k f fd ps (sps X.K C.s)) (hr : Room k X.A) (hm : X.mg x = some (.ref f)) (hk : PySem.W.keepIn X.K (.ref f) = true) (hb : Binds X.K fd ps [])
    (hg : Gl X x := by rfl) (hdb : (x == ("__debug__" : Str)) = false := by decide) : DE X (.Call (.Name x p) [] [] pos) (tCall (sps X.K C.s) [] E0 tNil) (dCallT C dNil) :=
  ⟨pe_call0 F hr hg hm hk hb .nil pass0 hdb, der_callT (da_nil (X := X)).r⟩
theorem de_callH0 {k : Nat} {f : Addr} {fd : FuncData} {ps : List Str} {C : PC} {x : Str} (F : FnOk X.prog X.w X.K X.mg X.base CX0 k f fd ps (sps X.K C.s)) (hr : Room k X.A) (hm : X.mg x = some (.ref f)) (hk : PySem.W.keepIn X.K (.ref f) = true) (hb : Binds X.K fd ps [])
    (hg : Gl X x := by rfl) (hdb : (x == ("__debug__" : Str)) = false := by decide) : DE X (.Call (.Name x p) [] [] pos) (tCall (sps X.K C.s) [] E0 tNil) (dCallH C dNil) :=
  ⟨pe_call0 F hr hg hm hk hb .nil pass0 hdb, der_callH (da_nil (X := X)).r⟩
end
theorem i_sorted {g : G} {Q : W → G → Prop} {w : W} {ns : List Int} (e : g.lq? w = some (ns.map T.int)) (h : ∀ ns' : List Int, ns'.Perm ns → ns'.Pairwise (· ≤ ·) → Q (.t (.lst (ns'.map T.int))) g) : fSorted g [w] Q := ⟨ns, e, h⟩
theorem i_sortedH {g : G} {Q : W → G → Prop} {w : W} {ns : List Int} (e : g.lq? w = some (ns.map T.int)) (h : ∀ ns' : List Int, ns'.Perm ns → ns'.Pairwise (· ≤ ·) → Q (.h g.mem.length) (g.push (.lt (ns'.map T.int)))) : fSortedH g [w] Q := ⟨ns, e, h⟩
def onTp (w : W) (P : List T → Prop) : Prop := match w with | .t (.tup ts) => P ts | _ => False
theorem o_Tp {ts : List T} {P : List T → Prop} (h : P ts) : onTp (.t (.tup ts)) P := h
theorem i_itT {g : G} {t : Dt} {P : List W → (G → Prop) → G → Prop} (h : t g fun w g1 => onTp w fun ts => P (ts.map W.t) (fun _ => True) g1) : diT t g P := h
end DL

namespace DL
open PySem PySem.Spec L2
/-! x // y with a wide y -/
theorem de_fdivW {X : Cx} {a b : Expr} {τa τb : TE} {ta tb : Dt} {pos : Pos} (ha : DE X a τa ta) (hb : DE X b τb tb) : DE X (.BinOp a .FloorDiv b pos) (tOp (rI CDivW fun i j => .int (i / j)) τa τb) (d2 (fI CDivW fun i j => .int (i / j)) ta tb) := de_op op_fdivW (op2_I fun _ _ _ => denI _) ha hb
/-! is None; d.get(k, x) -/
def W.isN : W → Bool
  | .t .non => true
  | _ => false
def W.known : W → Bool
  | .t (.raw _) => false
  | _ => true
theorem isN_of {K : PySem.W.Frag} {al : List Addr} {S : Hp} : ∀ {w : W} {v : V}, w.known = true → DenW K al S w v → decide (v = .non) = w.isN
  | .h n, v, _, d => by
    obtain ⟨a, _, rfl⟩ := d
    rfl
  | .t x, v, h, d => by
    cases x with
    | raw _ => cases h
    | non =>
      unfold DenW Den at d
      subst d
      rfl
    | bl b =>
      unfold DenW Den at d
      subst d
      rfl
    | int b =>
      unfold DenW Den at d
      subst d
      rfl
    | str b =>
      unfold DenW Den at d
      subst d
      rfl
    | ob _ _ _ =>
      unfold DenW Den at d
      obtain ⟨a, _, _, _, rfl, _⟩ := d
      rfl
    | exf _ _ _ =>
      unfold DenW Den at d
      obtain ⟨a, _, _, _, rfl, _⟩ := d
      rfl
    | lst b =>
      unfold DenW Den at d
      obtain ⟨a, _, rfl, _⟩ := d
      rfl
    | sq b =>
      unfold DenW Den at d
      obtain ⟨a, _, rfl, _⟩ := d
      rfl
    | tup b =>
      unfold DenW Den at d
      obtain ⟨a, _, rfl, _⟩ := d
      rfl
    | dk b c =>
      unfold DenW Den at d
      obtain ⟨a, _, rfl, _⟩ := d
      rfl
    | exc b =>
      unfold DenW Den at d
      obtain ⟨a, _, rfl, _⟩ := d
      rfl
def fNone (neg : Bool) : F1 := fun g w Q => w.known = true ∧ Q (.t (.bl (if neg then !w.isN else w.isN))) g
section
variable {X : Cx} {a b e f : Expr} {τa τb τf : TE} {ta tb tf : Dt} {pos pos' : Pos} {j : Nat}
theorem der_isNone {K : PySem.W.Frag} (h : DEr K τa ta) : DEr K (tIsN τa) (d1 (fNone false) ta) := by
  intro al S F H σ g Q QV R q k
  refine h al S F H σ g _ _ R q fun al1 S1 H1 g1 v1 w1 R1 gr1 e1 q1 => ?_
  rw [isN_of q1.1 e1]
  exact k al1 S1 H1 g1 _ (.t (.bl w1.isN)) R1 gr1 (by unfold DenW Den; rfl) q1.2
theorem der_notNone {K : PySem.W.Frag} (h : DEr K τa ta) : DEr K (tNotN τa) (d1 (fNone true) ta) := by
  intro al S F H σ g Q QV R q k
  refine h al S F H σ g _ _ R q fun al1 S1 H1 g1 v1 w1 R1 gr1 e1 q1 => ?_
  rw [isN_of q1.1 e1]
  exact k al1 S1 H1 g1 _ (.t (.bl (!w1.isN))) R1 gr1 (by unfold DenW Den; rfl) q1.2
theorem de_isNone (ha : DE X a τa ta) (h1 : behindInMarks .Is (.Constant .none j pos') = false := by rfl) : DE X (.Compare a [.Is] [.Constant .none j pos'] pos) (tIsN τa) (d1 (fNone false) ta) :=
  ⟨pe_cmp (pc_isN ha.pe) h1, der_isNone ha.r⟩
theorem de_notNone (ha : DE X a τa ta) (h1 : behindInMarks .IsNot (.Constant .none j pos') = false := by rfl) : DE X (.Compare a [.IsNot] [.Constant .none j pos'] pos) (tNotN τa) (d1 (fNone true) ta) :=
  ⟨pe_cmp (pc_notN ha.pe) h1, der_notNone ha.r⟩
theorem dt_isNone (ha : DE X a τa ta) (h1 : behindInMarks .Is (.Constant .none j pos') = false := by rfl) : DT X (.Compare a [.Is] [.Constant .none j pos'] pos) (L2.tB (tIsN τa)) (dB (d1 (fNone false) ta)) :=
  dt_mk (pt_cmp (pc_isN ha.pe) h1) (der_isNone ha.r)
theorem dt_notNone (ha : DE X a τa ta) (h1 : behindInMarks .IsNot (.Constant .none j pos') = false := by rfl) : DT X (.Compare a [.IsNot] [.Constant .none j pos'] pos) (L2.tB (tNotN τa)) (dB (d1 (fNone true) ta)) :=
  dt_mk (pt_cmp (pc_notN ha.pe) h1) (der_notNone ha.r)
def onGetD (o y z : W) (g : G) (Q : W → G → Prop) : Prop := match y with
  | .t ky => (match keyT ky with
    | some k => (match g.dct? o with
      | some (ks, ts) => (match look ks ts k with | some v => Q (.t v) g | none => Q z g)
      | none => False)
    | none => False)
  | _ => False
def dGetD (td ty tz : Dt) : Dt := fun g Q => td g fun o g1 => (g1.dct? o).isSome = true ∧ ty g1 fun y g2 => tz g2 fun z g3 => onGetD o y z g3 Q
theorem de_getD {kk : Nat} {apos : Pos} (hr : Room kk X.A) (ha : DE X a τa ta) (hb : DE X b τb tb) (hf : DE X f τf tf)
    (m : M2 X a "get" apos b f pos := by exact ⟨rfl, rfl, rfl, rfl⟩) : DE X (.Call (.Attribute a "get" apos) [b, f] [] pos) (tDGet2 τa τb τf) (dGetD ta tb tf) := by
  refine ⟨pe_dget2 (hu_of hr) ha.pe hb.pe hf.pe m, fun al S F H σ g Q QV R q k => ?_⟩
  refine ha.r al S F H σ g _ _ R q fun al1 S1 H1 g1 v1 w1 R1 gr1 e1 q1 => ?_
  obtain ⟨hd, q1⟩ := q1
  obtain ⟨⟨ks1, ts1⟩, ed⟩ := Option.isSome_iff_exists.mp hd
  obtain ⟨p, vs, rfl, h1, h2, h3⟩ := R1.viewD e1 ed
  refine ⟨p, rfl, .inl ⟨_, .inl h1⟩, ?_⟩
  refine hb.r al1 S1 F H1 σ g1 _ _ R1 q1 fun al2 S2 H2 g2 v2 w2 R2 gr2 e2 q2 => ?_
  refine hf.r al2 S2 F H2 σ g2 _ _ R2 q2 fun al3 S3 H3 g3 v3 w3 R3 gr3 e3 q3 => ?_
  have gr := (gr1.trans gr2).trans gr3
  unfold onGetD at q3
  split at q3
  · split at q3
    · rename_i key ek
      have ev := key_den ek (e2.grow gr3)
      subst ev
      split at q3
      · rename_i ks ts ed3
        obtain ⟨p', vs3, hp, h4, h5, h6⟩ := R3.viewD (e1.grow (gr2.trans gr3)) ed3
        cases hp
        refine ⟨_, DGet.k h4, ?_⟩
        have lz := look_zip (ks := ks) key h6
        split at q3
        · rename_i r er
          rw [er] at lz
          cases e4 : valV (ks.zip vs3) key with
          | none => rw [e4] at lz; exact lz.elim
          | some v =>
            rw [e4] at lz
            exact k _ _ _ _ _ (.t r) R3 gr lz q3
        · rename_i er
          rw [er] at lz
          cases e4 : valV (ks.zip vs3) key with
          | some v => rw [e4] at lz; exact lz.elim
          | none => exact k _ _ _ _ _ w3 R3 gr e3 q3
      · exact q3.elim
    · exact q3.elim
  · exact q3.elim
end
section
variable {g : G} {Q : W → G → Prop}
theorem i_none {neg : Bool} {w : W} (hk : w.known = true) (h : Q (.t (.bl (if neg then !w.isN else w.isN))) g) : fNone neg g w Q := ⟨hk, h⟩
theorem i_getD {td ty tz : Dt} (h : td g fun o g1 => (g1.dct? o).isSome = true ∧ ty g1 fun y g2 => tz g2 fun z g3 => onGetD o y z g3 Q) : dGetD td ty tz g Q := h
theorem o_getS {o z : W} {ky v : T} {k : Key} {ks : List Key} {us : List T} (ek : keyT ky = some k) (e : g.dct? o = some (ks, us)) (el : look ks us k = some v) (h : Q (.t v) g) : onGetD o (.t ky) z g Q := by
  unfold onGetD; dsimp only; rw [ek]; dsimp only; rw [e]; dsimp only; rw [el]; exact h
theorem o_getN {o z : W} {ky : T} {k : Key} {ks : List Key} {us : List T} (ek : keyT ky = some k) (e : g.dct? o = some (ks, us)) (el : look ks us k = none) (h : Q z g) : onGetD o (.t ky) z g Q := by
  unfold onGetD; dsimp only; rw [ek]; dsimp only; rw [e]; dsimp only; rw [el]; exact h
end
end DL

namespace DL
open PySem PySem.Spec L2
/-! sorted(set(a list of ints)) -/
/-- an empty set as it is made -/
abbrev noneYet (w : World) : Obj := { cls := .type "set", dict := none, data := .set #[] 0 (.fresh 0 0 (!w.params.followText "set-order")) }
section
open PyProof.Rows
variable {P : Program} {w : World} {A : Around} {E : Value → Shared → Prop} {s : Shared}
set_option maxHeartbeats 3300000 in
theorem set_of_list {l : Addr} {its : Array Value} (xs : List Int) {Q : Value → Shared → Prop} (hA : A.handled = none) (il : s.heap.IsList l its) (ia : IntsAre its.toList xs) (room : xs.length + 1 < scanBound)
    (k : ∀ (g : Heap) (u m : Nat), SetR w g s.heap.objs.size (fun j => decide (j ∈ xs)) m → m ≤ xs.length → (∀ b o, s.heap.get? b = some o → g.get? b = some o) → Q (.ref s.heap.objs.size) { s with heap := g, toks := u }) :
    wpAny (model P w) A (call (.type "set") [.ref l]) Q E s := by
  have sz : its.size = xs.length := by have q := IntsAre.length ia; rw [Array.length_toList] at q; exact q
  obtain ⟨_, _, f0⟩ := F.called_set.mro; have f1 := F.called_set.made; have f2 := F.called_set.sub
  refine wpAny_call (codeAny_of_tree ?_); show wpAny _ _ (callAny (.type "set") _) _ _ _
  refine wpAny_pure ⟨Code.quiet_builtin _ (by decide +kernel), codeAny_builtin F.entry_type_call ?_⟩; rw [Around.under_plain (weight_type_call_type "set" [.ref l] []) rfl]
  have f3 := F.called_set.notType; have f4 := F.called_set.canCreate; have f5 := F.typeCall_set_1 (.ref l)
  repeat (any_goals (first | assumption | wp_step))
  refine codeAny_mono (code_set_led1 (.ref l) (E := E) (Q₁ := fun x t => x = .ref s.heap.objs.size ∧ t = { s with heap := s.heap.push (noneYet w) }) ⟨rfl, rfl⟩) fun r t hr => ?_
  cases r with
  | error e => exact hr
  | ok fl =>
    cases fl with
    | ret x =>
      obtain ⟨rfl, rfl⟩ := hr
      have at0 : (s.heap.push (noneYet w)).get? s.heap.objs.size = some (noneYet w) := Heap.get?_push_size _ rfl
      have ty0 : Shared.TypeIs { s with heap := s.heap.push (noneYet w) } (.ref s.heap.objs.size) "set" := ⟨_, at0, rfl⟩
      have f6 := F.called_set.init.lookup; have f7 := F.called_set.init.bind (.ref s.heap.objs.size)
      repeat (any_goals (first | assumption | wp_step))
      refine codeAny_mono (codeAny_call_builtin (R := wants (fun r t2 => r = .none ∧ ∃ g u m, t2 = { s with heap := g, toks := u } ∧ SetR w g s.heap.objs.size (fun j => decide (j ∈ xs)) m ∧ m ≤ xs.length ∧
          (∀ b o, s.heap.get? b = some o → g.get? b = some o)) E) F.called_set.init.plain F.entry_set_init (check_set_init_1 ty0 ?_)) fun r2 t2 hr2 => ?_
      · obtain ⟨ol, ho, hc, nl, hd⟩ := il; obtain ⟨oc, odc, oda, osl⟩ := ol
        simp only at hc hd; subst hc; subst hd
        have ho' : (s.heap.push (noneYet w)).get? l = some { cls := .type "list", dict := odc, data := .seq its nl, slots := osl } := Heap.get?_push_of_some _ ho
        have f8 := F.sub_list_set; have f9 := F.sub_list_frozenset
        have fa : (Value.type "list" == Value.type "dict") = false := by decide
        have il1 : (s.heap.push (noneYet w)).IsList l its := ⟨_, ho', rfl, nl, rfl⟩
        unfold Builtin.«set.__init__» noKeywords Builtin.Frozenset.updateFrom
        generalize hPI : pyIter = PI
        wp_walk
        subst hPI
        refine wpAny_pyIter_list il1 (wpAny_bind (wpAny_runValue ?_))
        have below : l < s.heap.objs.size := Heap.lt_size ho
        have hA3 : A.in1.in1.in1.handled = none := by simp [hA]
        have z1 : (s.heap.push (noneYet w)).objs.size = s.heap.objs.size + 1 := Heap.size_push ..
        have neI : l ≠ (s.heap.push (noneYet w)).objs.size := by rw [z1]; exact Nat.ne_of_lt (Nat.lt_succ_of_lt below)
        have out : s.heap.objs.size ∉ [(s.heap.push (noneYet w)).objs.size, l] := by
          rw [z1]; intro z; rcases List.mem_cons.mp z with y | y
          · exact absurd y (Nat.ne_of_lt (Nat.lt_succ_self _))
          · exact absurd (List.mem_singleton.mp y) (Nat.ne_of_gt below)
        have vals : ∀ (i : Nat) (v : Value), its[i]? = some v → ∃ k t, xs[i]? = some k ∧ v = .int k t := fun i v hv => by
          have hi : i < xs.length := sz ▸ (Array.getElem?_eq_some_iff.mp hv).1
          obtain ⟨t, e⟩ := PyProof.Rows.IntsAre.int_at ia i v (by rw [Array.getElem?_toList]; exact hv)
          exact ⟨xs[i], t, List.getElem?_eq_getElem hi, by rw [e, List.getD_eq_getElem?_getD, List.getElem?_eq_getElem hi]; rfl⟩
        refine set_update_ints ((Walks.list hA3 _ l neI its).toS) s.heap.objs.size out xs sz room vals (its.size - 0) 0 _ (by omega) (Nat.zero_le _) ⟨⟨_, Heap.get?_push_size _ rfl, rfl, rfl⟩, (il1.push _)⟩ ?a0 ?aR
        case a0 =>
          refine ⟨0, Nat.le_refl 0, setR_new_at ?_⟩
          exact Heap.get?_push_of_some _ at0
        case aR =>
          intro t3 m hm hc' hS'
          obtain ⟨g, g2, d', u, os'⟩ := t3
          have eg : g2 = s.gens := hm.gens
          have ed : d' = s.drawn := hm.drawn
          have eo : os' = s.os := hm.os
          subst eg ed eo
          show wpAny _ _ _ _ _ _
          refine wpAny_pure ?_; show wpAny _ _ (ret Value.none) _ _ _
          rw [sz] at hc'
          refine wpAny_pure ⟨rfl, g, u, m, rfl, hS', hc', fun b o e => ?_⟩
          have hb0 : b < s.heap.objs.size := Heap.lt_size e
          refine hm.heap b o (fun z => ?_) ?_
          · rw [z1] at z
            rcases List.mem_cons.mp z with y | y
            · exact absurd y (Nat.ne_of_lt hb0)
            · exact absurd (List.mem_singleton.mp y) (Nat.ne_of_lt (Nat.lt_succ_of_lt hb0))
          exact Heap.get?_push_of_some _ (Heap.get?_push_of_some _ e)
      · cases r2 with
        | error e => exact hr2
        | ok f2 =>
          cases f2 with
          | ret r =>
            obtain ⟨rfl, g, u, m, rfl, hS', hc', hk'⟩ := hr2
            repeat (any_goals (first | assumption | wp_step))
            exact k _ _ _ hS' hc' hk'
          | _ => exact hr2.elim
    | _ => exact hr.elim
end
/-- the set of the ints of a list, m of them -/
def SetI (w : World) (a : Addr) (xs : List Int) (m : Nat) : HO := .ext fun h => SetR w h a (fun j => decide (j ∈ xs)) m
section
variable {X : Cx}
theorem setI_ok {P : Program} {w : World} {H : Hp} {h : Heap} {a : Addr} {xs : List Int} {m : Nat} (R : SetR w h a (fun j => decide (j ∈ xs)) m) : ObjOk P w H h a (SetI w a xs m) := by
  have ⟨o, _, _, _, ho, _⟩ := R
  exact ⟨R, ⟨o, ho⟩, fun h1 h2 p k => p.at k⟩
/-- set(l) -/
def rSetL (K : PySem.W.Frag) (w : World) : List V → Hp → VK → Prop := fun vs H Q => ∃ (a : Addr) (xs : List Int), vs = [V.ref a] ∧ SqL K H a (xs.map V.int) ∧ xs.length ≤ 1000 ∧ ∀ p m, H p = none → m ≤ xs.length → Q (.ref p) (upd H p (SetI w p xs m))
theorem cr_setL (hc : X.calm = true) : CallR X (.type "set") (rSetL X.K X.w) := by
  intro pins s σ H vs us Q I r h
  obtain ⟨a, xs, rfl, hs, hl, q⟩ := h
  obtain ⟨its, rv, l1, hz⟩ := I.list hs
  rw [Vals.ref1 r]
  refine set_of_list xs (I.ok.hd hc) (show s.heap.IsList a its.toArray from l1.isList) rv.ints (by unfold scanBound; omega) fun g u m R1 hm k => ?_
  exact ⟨.ref _, upd H s.heap.objs.size (SetI X.w s.heap.objs.size xs m), I.laid (t' := u) k (Nat.le_refl _) (setI_ok R1), rfl, q _ m (I.hok.fresh (Nat.le_refl _)) hm⟩
/-- sorted(a set) -/
def rSortedS (w : World) : List V → Hp → VK → Prop := fun vs H Q => ∃ (a : Addr) (xs : List Int) (m : Nat), vs = [V.ref a] ∧ H a = some (SetI w a xs m) ∧ m < 64 ∧
  ∀ p (ns : List Int), H p = none → ns.Pairwise (· < ·) → (∀ j, j ∈ ns ↔ j ∈ xs) → Q (.ref p) (upd H p (.lst (ns.map V.int)))
theorem cr_sortedS (hc : X.calm = true) : CallR X (.builtin "sorted") (rSortedS X.w) := by
  intro pins s σ H vs us Q I r h
  obtain ⟨a, xs, m, rfl, ha, hm, q⟩ := h
  have R : SetR X.w s.heap a (fun j => decide (j ∈ xs)) m := (I.hok a _ ha).1
  rw [Vals.ref1 r]
  refine sorted_set R (I.ok.hd hc) hm fun s' p out c ns k hg ho hp at0 hi hs hmem hlen => ?_
  have hv : (ns.map V.int).length ≤ sizeLine := by rw [List.length_map, hlen, sizeLine_eq]; omega
  have new : ObjOk X.prog X.w (upd H p (.lst (ns.map V.int))) s'.heap p (.lst (ns.map V.int)) := ⟨hv, out.toList, c, vals_of_ints hi, at0⟩
  exact ⟨.ref p, upd H p (.lst (ns.map V.int)), I.call' (ch := []) ho (Un.laid k hp (I.hok.fresh hp)) (I.hok.laid k hp new) (by rw [hg]; exact I.bare) (fun _ z => nomatch z), rfl, q p ns (I.hok.fresh hp) hs fun j => by rw [hmem j, decide_eq_true_eq]⟩
end
/-! sorted(set(l)), read -/
def fSortSet : FN := fun g ws Q => match ws with
  | [w] => ∃ ns : List Int, g.lq? w = some (ns.map T.int) ∧ ns.length < 64 ∧ ∀ ns' : List Int, ns'.Pairwise (· < ·) → (∀ j, j ∈ ns' ↔ j ∈ ns) → Q (.t (.lst (ns'.map T.int))) g
  | _ => False
def fSortSetH : FN := fun g ws Q => match ws with
  | [w] => ∃ ns : List Int, g.lq? w = some (ns.map T.int) ∧ ns.length < 64 ∧ ∀ ns' : List Int, ns'.Pairwise (· < ·) → (∀ j, j ∈ ns' ↔ j ∈ ns) → Q (.h g.mem.length) (g.push (.lt (ns'.map T.int)))
  | _ => False
section
variable {X : Cx} {e : Expr} {es : List Expr} {τs : TA} {ts : DAt} {p p2 pos pos2 : Pos}
theorem pe_sortSet (hc : X.calm = true) (hm : X.mg "sorted" = none) (hm2 : X.mg "set" = none) (ha : PA X [e] τs) (hg : Gl X "sorted") (hg2 : Gl X "set") (he : starEach [e] X.env = (false, eval e X.env) :: starEach [] X.env)
    (he2 : starEach [.Call (.Name "set" p2) [e] [] pos2] X.env = (false, eval (.Call (.Name "set" p2) [e] [] pos2) X.env) :: starEach [] X.env) (hpl : (backTo pos (starEach [] X.env)).any (·.1) = false) (hpl2 : (backTo pos2 (starEach [] X.env)).any (·.1) = false) :
    PE X (.Call (.Name "sorted" p) [.Call (.Name "set" p2) [e] [] pos2] [] pos) (tCB (rSortedS X.w) (tCons (tCB (rSetL X.K X.w) τs) tNil)) :=
  pe_callB (cr_sortedS hc) hg hm (by decide +kernel) (pa_cons (pe_callTy (cr_setL hc) hg2 hm2 (by decide +kernel) ha (by decide) (by decide) he hpl2) pa_nil he2) (by decide) (by decide) he2 hpl
theorem der_sortSet {K : PySem.W.Frag} {w : World} (rs : DAr K τs ts) : DEr K (tCB (rSortedS w) (tCons (tCB (rSetL K w) τs) tNil)) (dN fSortSet ts) := by
  intro al S F H σ g Q QV R q k
  refine rs al S F H σ g _ _ R q fun al1 S1 H1 g1 vs ws R1 gr1 d1 q1 => ?_
  unfold fSortSet at q1
  split at q1
  · obtain ⟨v, rfl, d⟩ := p1 d1
    obtain ⟨ns, e, hl, q2⟩ := q1
    obtain ⟨a, rfl, h1⟩ := R1.viewI d e
    refine ⟨a, ns, rfl, h1, by omega, fun p m np hm => ⟨p, ns, m, rfl, upd_same, by omega, fun p2 ns' np2 hs hj => ?_⟩⟩
    obtain ⟨R2, gr2⟩ := R1.layT (o := SetI w p ns m) np
    obtain ⟨R3, gr3, d3⟩ := R2.layL np2 (ts := ns'.map T.int) (den_ints ns')
    exact k _ _ _ _ _ _ R3 (gr1.trans (gr2.trans gr3)) d3 (q2 ns' hs hj)
  · exact q1.elim
theorem der_sortSetH {K : PySem.W.Frag} {w : World} (rs : DAr K τs ts) : DEr K (tCB (rSortedS w) (tCons (tCB (rSetL K w) τs) tNil)) (dN fSortSetH ts) := by
  intro al S F H σ g Q QV R q k
  refine rs al S F H σ g _ _ R q fun al1 S1 H1 g1 vs ws R1 gr1 d1 q1 => ?_
  unfold fSortSetH at q1
  split at q1
  · obtain ⟨v, rfl, d⟩ := p1 d1
    obtain ⟨ns, e, hl, q2⟩ := q1
    obtain ⟨a, rfl, h1⟩ := R1.viewI d e
    refine ⟨a, ns, rfl, h1, by omega, fun p m np hm => ⟨p, ns, m, rfl, upd_same, by omega, fun p2 ns' np2 hs hj => ?_⟩⟩
    obtain ⟨R2, gr2⟩ := R1.layT (o := SetI w p ns m) np
    obtain ⟨R3, gr3, d3⟩ := R2.pushC (c := .lt (ns'.map T.int)) (o := .lst (ns'.map V.int)) np2 ⟨_, rfl, den_ints ns'⟩
    exact k _ _ _ _ _ _ R3 (gr1.trans (gr2.trans gr3)) d3 (q2 ns' hs hj)
  · exact q1.elim
theorem de_sortSet (hc : X.calm = true) (hm : X.mg "sorted" = none) (hm2 : X.mg "set" = none) (ha : DA X [e] τs ts) (hg : Gl X "sorted" := by rfl) (hg2 : Gl X "set" := by rfl) (he : starEach [e] X.env = (false, eval e X.env) :: starEach [] X.env := by rfl)
    (he2 : starEach [.Call (.Name "set" p2) [e] [] pos2] X.env = (false, eval (.Call (.Name "set" p2) [e] [] pos2) X.env) :: starEach [] X.env := by rfl) (hpl : (backTo pos (starEach [] X.env)).any (·.1) = false := by rfl) (hpl2 : (backTo pos2 (starEach [] X.env)).any (·.1) = false := by rfl) :
    DE X (.Call (.Name "sorted" p) [.Call (.Name "set" p2) [e] [] pos2] [] pos) (tCB (rSortedS X.w) (tCons (tCB (rSetL X.K X.w) τs) tNil)) (dN fSortSet ts) := ⟨pe_sortSet hc hm hm2 ha.pe hg hg2 he he2 hpl hpl2, der_sortSet ha.r⟩
theorem de_sortSetH (hc : X.calm = true) (hm : X.mg "sorted" = none) (hm2 : X.mg "set" = none) (ha : DA X [e] τs ts) (hg : Gl X "sorted" := by rfl) (hg2 : Gl X "set" := by rfl) (he : starEach [e] X.env = (false, eval e X.env) :: starEach [] X.env := by rfl)
    (he2 : starEach [.Call (.Name "set" p2) [e] [] pos2] X.env = (false, eval (.Call (.Name "set" p2) [e] [] pos2) X.env) :: starEach [] X.env := by rfl) (hpl : (backTo pos (starEach [] X.env)).any (·.1) = false := by rfl) (hpl2 : (backTo pos2 (starEach [] X.env)).any (·.1) = false := by rfl) :
    DE X (.Call (.Name "sorted" p) [.Call (.Name "set" p2) [e] [] pos2] [] pos) (tCB (rSortedS X.w) (tCons (tCB (rSetL X.K X.w) τs) tNil)) (dN fSortSetH ts) := ⟨pe_sortSet hc hm hm2 ha.pe hg hg2 he he2 hpl hpl2, der_sortSetH ha.r⟩
end
theorem i_sortSet {g : G} {Q : W → G → Prop} {w : W} {ns : List Int} (e : g.lq? w = some (ns.map T.int)) (hl : ns.length < 64) (h : ∀ ns' : List Int, ns'.Pairwise (· < ·) → (∀ j, j ∈ ns' ↔ j ∈ ns) → Q (.t (.lst (ns'.map T.int))) g) : fSortSet g [w] Q := ⟨ns, e, hl, h⟩
theorem i_sortSetH {g : G} {Q : W → G → Prop} {w : W} {ns : List Int} (e : g.lq? w = some (ns.map T.int)) (hl : ns.length < 64) (h : ∀ ns' : List Int, ns'.Pairwise (· < ·) → (∀ j, j ∈ ns' ↔ j ∈ ns) → Q (.h g.mem.length) (g.push (.lt (ns'.map T.int)))) : fSortSetH g [w] Q := ⟨ns, e, hl, h⟩
/-! a list in a list of lists -/
def T.lst? : T → Option (List T)
  | .lst xs => some xs
  | .sq xs => some xs
  | _ => none
def inTs (x : T) (us : List T) : Bool := us.any fun z => teq z x
def fInT (neg : Bool) : F2 := fun g x y Q => match g.tree? x, g.tree? y with
  | some tx, some ty => ∃ us, ty.lst? = some us ∧ tx.sh 8 = true ∧ ty.sh 8 = true ∧ Q (.t (.bl (if neg then !inTs tx us else inTs tx us))) g
  | _, _ => False
theorem inTs_pd (x : T) (us : List T) : ((us.map T.pd).any fun z => PyData.eqv z x.pd) = inTs x us := by
  unfold inTs teq
  rw [List.any_map]
  rfl
theorem lst_pd {t : T} {us : List T} (h : t.lst? = some us) : t.pd = .list (us.map T.pd) := by
  cases t <;> first | (cases h; unfold T.pd; rfl) | cases h
theorem op2_inT {K : PySem.W.Frag} : Op2 K (rInD K) (fInT false) := by
  intro al S F H σ g x y wx wy Q QV R dx dy q k
  unfold fInT at q
  split at q
  · rename_i tx ty ex ey
    obtain ⟨us, hu, h1, h2, q⟩ := q
    refine ⟨tx.pd, us.map T.pd, dp_of 8 _ _ h1 (R.viewT dx ex), lst_pd hu ▸ dp_of 8 _ _ h2 (R.viewT dy ey), shaped_of h1 (by decide), lst_pd hu ▸ shaped_of h2 (by decide), ?_⟩
    rw [inTs_pd]
    exact k.tr R (denB _) q
  · exact q.elim
theorem op2_notinT {K : PySem.W.Frag} : Op2 K (rNotInD K) (fInT true) := by
  intro al S F H σ g x y wx wy Q QV R dx dy q k
  unfold fInT at q
  split at q
  · rename_i tx ty ex ey
    obtain ⟨us, hu, h1, h2, q⟩ := q
    refine ⟨tx.pd, us.map T.pd, dp_of 8 _ _ h1 (R.viewT dx ex), lst_pd hu ▸ dp_of 8 _ _ h2 (R.viewT dy ey), shaped_of h1 (by decide), lst_pd hu ▸ shaped_of h2 (by decide), ?_⟩
    rw [inTs_pd]
    exact k.tr R (denB _) q
  · exact q.elim
section
variable {X : Cx} {a b : Expr} {τa τb : TE} {ta tb : Dt} {pos : Pos} {kk : Nat}
theorem de_inT (hr : Room kk X.A) (ha : DE X a τa ta) (hb : DE X b τb tb) (hm : behindInMarks .In b = false := by rfl) : DE X (.Compare a [.In] [b] pos) (tOp (rInD X.K) τa τb) (d2 (fInT false) ta tb) := de_cmp (op_inD (by have := hr.un; omega)) op2_inT ha hb hm
theorem de_notinT (hr : Room kk X.A) (ha : DE X a τa ta) (hb : DE X b τb tb) (hm : behindInMarks .NotIn b = false := by rfl) : DE X (.Compare a [.NotIn] [b] pos) (tOp (rNotInD X.K) τa τb) (d2 (fInT true) ta tb) := de_cmp (op_notInD (by have := hr.un; omega)) op2_notinT ha hb hm
theorem dt_inT (hr : Room kk X.A) (ha : DE X a τa ta) (hb : DE X b τb tb) (hm : behindInMarks .In b = false := by rfl) : DT X (.Compare a [.In] [b] pos) (L2.tB (tOp (rInD X.K) τa τb)) (dB (d2 (fInT false) ta tb)) := dt_cmp (op_inD (by have := hr.un; omega)) op2_inT ha hb hm
theorem dt_notinT (hr : Room kk X.A) (ha : DE X a τa ta) (hb : DE X b τb tb) (hm : behindInMarks .NotIn b = false := by rfl) : DT X (.Compare a [.NotIn] [b] pos) (L2.tB (tOp (rNotInD X.K) τa τb)) (dB (d2 (fInT true) ta tb)) := dt_cmp (op_notInD (by have := hr.un; omega)) op2_notinT ha hb hm
end
theorem i_inT {g : G} {Q : W → G → Prop} {x y : W} {tx ty : T} {us : List T} (e1 : g.tree? x = some tx) (e2 : g.tree? y = some ty) (hu : ty.lst? = some us) (h1 : tx.sh 8 = true) (h2 : ty.sh 8 = true) (h : Q (.t (.bl (inTs tx us))) g) : fInT false g x y Q := by
  unfold fInT; rw [e1, e2]; exact ⟨us, hu, h1, h2, h⟩
theorem i_notinT {g : G} {Q : W → G → Prop} {x y : W} {tx ty : T} {us : List T} (e1 : g.tree? x = some tx) (e2 : g.tree? y = some ty) (hu : ty.lst? = some us) (h1 : tx.sh 8 = true) (h2 : ty.sh 8 = true) (h : Q (.t (.bl (!inTs tx us))) g) : fInT true g x y Q := by
  unfold fInT; rw [e1, e2]; exact ⟨us, hu, h1, h2, h⟩
end DL

namespace DL
open PySem PySem.Spec L2
/-! cells lent to a pure def: looked at as trees while it runs, cells again behind it; what comes back is flat -/
def lendW (g : G) : List W → Option (List T)
  | [] => some []
  | w :: r => match g.tree? w, lendW g r with | some t, some ts => some (t :: ts) | _, _ => none
def T.isFlat (t : T) : Bool := t.flat.isSome
theorem den_flat {K : PySem.W.Frag} {S S' : Hp} {t : T} {v : V} (h : t.isFlat = true) (d : Den K S t v) : Den K S' t v := by
  cases t <;> first | (unfold Den at d ⊢; exact d) | cases h
theorem dens_flat {K : PySem.W.Frag} {S S' : Hp} : ∀ {ts : List T} {vs : List V}, (∀ t ∈ ts, t.isFlat = true) → Paired (Den K S) ts vs → Paired (Den K S') ts vs
  | _, _, _, .nil => .nil
  | _, _, h, .cons d r => .cons (den_flat (h _ (by simp)) d) (dens_flat (fun t ht => h t (by simp [ht])) r)
section
variable {K : PySem.W.Frag} {al : List Addr} {S S' F H H' : Hp} {m : Sto}
open Classical in
noncomputable def stOf (al : List Addr) (S H : Hp) (m : Sto) (ws : List W) : Hp := fun a => if ∃ (n : Nat) (c : Cell), W.h n ∈ ws ∧ m[n]? = some (some c) ∧ al[n]? = some a then H a else S a
open Classical in
noncomputable def fOf (S1 F1 : Hp) : Hp := fun a => if (S1 a).isSome = true then none else F1 a
theorem RepM.st_same (R : RepM K al S F H m) (ws : List W) : Same S (stOf al S H m ws) := fun a o e => by
  unfold stOf
  split
  · exact R.same a o e
  · exact e
theorem RepM.st_h (R : RepM K al S F H m) (ws : List W) : Same (stOf al S H m ws) H := fun a o e => by
  unfold stOf at e
  split at e
  · exact e
  · exact R.same a o e
theorem RepM.lent (R : RepM K al S F H m) (ws : List W) : RepM K [] (stOf al S H m ws) (fOf (stOf al S H m ws) (frOf al F H m [])) H (([] : List Cell).map some) := by
  refine ⟨R.st_h ws, fun a u e => ?_, fun a u e => ?_, rfl, fun n c e => by simp at e, fun n k c d a e => by simp at e⟩
  · unfold fOf at e
    split at e
    · cases e
    · unfold frOf at e
      split at e
      · exact e
      · cases e
  · unfold fOf
    rw [if_pos (by rw [e]; rfl)]
/-- what is kept behind the call -/
theorem RepM.kept (R : RepM K al S F H m) (ws : List W) {S2 : Hp} (h1 : Same (stOf al S H m ws) S2) (h2 : Same S2 H') (h3 : Same (fOf (stOf al S H m ws) (frOf al F H m [])) H') : RepM K al S F H' m := by
  have any : ∀ a o, H a = some o → ((F a).isSome = true ∨ ∃ (n : Nat) (c : Cell), m[n]? = some (some c) ∧ n ∉ ([] : List Nat) ∧ al[n]? = some a) → H' a = some o := fun a o e hx => by
    cases q : stOf al S H m ws a with
    | some u =>
      have := R.st_h ws a u q
      rw [e] at this
      cases this
      exact h2 a _ (h1 a _ q)
    | none =>
      refine h3 a o ?_
      unfold fOf
      rw [q, if_neg (by simp)]
      unfold frOf
      rw [if_pos hx]
      exact e
  refine ⟨fun a o e => h2 a o (h1 a o (R.st_same ws a o e)), fun a o e => any a o (R.fr a o e) (.inl (by rw [e]; rfl)), R.dis, R.len, fun n c e => ?_, R.inj⟩
  obtain ⟨a, o, g1, g2, g3, g4, g5⟩ := R.cell n c e
  exact ⟨a, o, g1, g2, g3, any a o g4 (.inr ⟨n, c, e, by simp, g1⟩), g5⟩
/-- a new cell behind the call -/
theorem RepM.newC (R : RepM K al S F H m) (ws : List W) (R' : RepM K al S F H' m) {S2 : Hp} (h1 : Same (stOf al S H m ws) S2) {p : Addr} {vs : List V} {us : List T} (n1 : S2 p = none) (n2 : fOf (stOf al S H m ws) (frOf al F H m []) p = none) (hp : H' p = some (.lst vs)) (d : Paired (Den K S) us vs) :
    RepM K (al ++ [p]) S F H' (m ++ [some (.lt us)]) ∧ Grow al S (al ++ [p]) S := by
  have q : stOf al S H m ws p = none := by
    cases q : stOf al S H m ws p with
    | none => rfl
    | some u => rw [h1 p u q] at n1; cases n1
  have nS : S p = none := by
    cases e : S p with
    | none => rfl
    | some u => rw [R.st_same ws p u e] at q; cases q
  have frN : ∀ u, H p = some u → ¬ ((F p).isSome = true ∨ ∃ (n : Nat) (c : Cell), m[n]? = some (some c) ∧ n ∉ ([] : List Nat) ∧ al[n]? = some p) := fun u hu hx => by
    unfold fOf at n2
    rw [q, if_neg (by simp)] at n2
    unfold frOf at n2
    rw [if_pos hx, hu] at n2
    cases n2
  have nF : F p = none := by
    cases e : F p with
    | none => rfl
    | some u => exact absurd (.inl (by rw [e]; rfl)) (frN u (R.fr p u e))
  have nC : ∀ (n : Nat) (c : Cell), m[n]? = some (some c) → al[n]? ≠ some p := fun n c e z => by
    obtain ⟨a, o, g1, _, _, g4, _⟩ := R.cell n c e
    rw [z] at g1
    cases g1
    exact frN o g4 (.inr ⟨n, c, e, by simp, z⟩)
  have R2 : RepM K al S (upd F p (.lst vs)) H' m := by
    refine ⟨R'.same, fun b u e => ?_, fun b u e => ?_, R'.len, fun n c e => ?_, R'.inj⟩
    · by_cases hb : b = p
      · subst hb
        rw [upd_same] at e
        cases e
        exact hp
      · rw [upd_ne hb] at e
        exact R'.fr b u e
    · by_cases hb : b = p
      · subst hb
        rw [nS] at e
        cases e
      · rw [upd_ne hb]
        exact R'.dis b u e
    · obtain ⟨a, o, g1, g2, g3, g4, g5⟩ := R'.cell n c e
      exact ⟨a, o, g1, g2, by rw [upd_ne fun z => nC n c e (by rw [g1, z])]; exact g3, g4, g5⟩
  exact R2.frC nF ⟨vs, rfl, d⟩
end
theorem lend_den {K : PySem.W.Frag} {al : List Addr} {S F H : Hp} {σ : L2.St} {g : G} (R : Rep K al S F H σ g) (all : List W) : ∀ {ws : List W} {ts : List T} {vs : List V}, (∀ w ∈ ws, w ∈ all) → lendW g ws = some ts → Paired (DenW K al S) ws vs → Paired (Den K (stOf al S H g.mem all)) ts vs
  | [], ts, vs, _, e, h => by
    cases e
    cases h
    exact .nil
  | w :: r, ts, vs, hs, e, h => by
    unfold lendW at e
    split at e
    · rename_i t ts' e1 e2
      cases e
      cases h with
      | cons h1 h2 =>
        refine .cons ?_ (lend_den R all (fun x hx => hs x (by simp [hx])) e2 h2)
        cases w with
        | t x =>
          cases e1
          exact Den.mono (R.toRepM.st_same all) _ _ h1
        | h n =>
          unfold G.tree? at e1
          dsimp only at e1
          split at e1
          · rename_i c ec
            obtain ⟨a, ha, rfl⟩ := h1
            obtain ⟨a', o, g1, g2, g3, g4, g5⟩ := R.cell n c ec
            rw [ha] at g1
            cases g1
            have sa : stOf al S H g.mem all a = some o := by
              unfold stOf
              rw [if_pos ⟨n, c, hs _ (by simp), ec, ha⟩]
              exact g4
            have g6 := g5.grow (al' := al) (S' := stOf al S H g.mem all) ⟨⟨[], by simp⟩, R.toRepM.st_same all⟩
            cases c with
            | lt us =>
              cases e1
              obtain ⟨ys, rfl, d⟩ := g6
              unfold Den
              exact ⟨a, ys, rfl, sa, Dens.iff.mpr d⟩
            | dt ks us =>
              cases e1
              obtain ⟨ys, rfl, hl, d⟩ := g6
              unfold Den
              exact ⟨a, ys, rfl, sa, hl, Dens.iff.mpr d⟩
            | _ => cases e1
          · cases e1
    · cases e
theorem lendW_trees {g : G} : ∀ {ws : List W} {ts : List T}, lendW g ws = some ts → ts.length = ws.length
  | [], _, e => by cases e; rfl
  | w :: r, _, e => by
    unfold lendW at e
    split at e
    · rename_i t ts' e1 e2
      cases e
      rw [List.length_cons, List.length_cons, lendW_trees e2]
    · cases e
/-- a pure def that is lent cells -/
def onFlat (g1 : G) (r : R0) (Q : W → G → Prop) : Prop := match r with
  | .t x => x.isFlat = true ∧ Q (.t x) g1
  | .f (.lt us) => (∀ u ∈ us, u.isFlat = true) ∧ Q (.h g1.mem.length) (g1.push (.lt us))
  | _ => False
def onC (g1 : G) (Q : W → G → Prop) : W → List Cell → List Cell → Prop
  | .t t, _, [] => onFlat g1 (.t t) Q
  | .h 0, _, [c] => onFlat g1 (.f c) Q
  | _, _, _ => False
def dCallL (C : PC) (t : DAt) : Dt := fun g Q => t g fun ws g1 => match lendW g1 ws with
  | some ts => C ts fun r => onFlat g1 r Q
  | none => False
section
variable {K : PySem.W.Frag} {τs : TA} {ts : DAt}
theorem den_trees {al : List Addr} {S : Hp} : ∀ {ts : List T} {vs : List V}, Paired (Den K S) ts vs → Paired (DenW K al S) (ts.map W.t) vs
  | _, _, .nil => .nil
  | _, _, .cons d r => .cons d (den_trees r)
theorem der_callL {C : PC} {E : XK} (h : DAr K τs ts) : DEr K (tCall (sps K C.s) [] E τs) (dCallL C ts) := by
  intro al S F H σ g Q QV R q k
  refine h al S F H σ g _ _ R q fun al1 S1 H1 g1 vs ws R1 gr1 e1 q1 => ?_
  rw [List.append_nil]
  split at q1
  · rename_i us eu
    refine ⟨[], stOf al1 S1 H1 g1.mem ws, fOf (stOf al1 S1 H1 g1.mem ws) (frOf al1 F H1 g1.mem []), [], us.map W.t, onC g1 Q,
      R1.toRepM.lent ws, den_trees (lend_den R1 ws (fun _ h => h) eu e1), ⟨us, treesW_map us, rfl, ?_⟩, fun al2 S2 H2 m1 cs v w M2 l2 sS d2 q2 => ?_⟩
    · refine cast (congrArg (C us) ?_) q1
      funext r
      cases r <;> rfl
    · rw [List.nil_append] at M2 d2
      have lm : m1 = [] := List.length_eq_zero_iff.mp l2
      subst lm
      have keep := R1.toRepM.kept ws sS M2.same M2.fr
      unfold onC at q2
      split at q2
      · rename_i t
        obtain ⟨hf, q3⟩ := q2
        exact k _ _ _ _ _ (.t t) (R1.withM2 (Grow.refl _ _) keep) gr1 (den_flat hf d2) q3
      · rename_i c
        cases c with
        | lt xs =>
          obtain ⟨hf, q3⟩ := q2
          obtain ⟨p, o, h1, h2, h3, h4, h5⟩ := M2.cell 0 (.lt xs) rfl
          obtain ⟨p', hp, rfl⟩ := d2
          rw [h1] at hp
          cases hp
          obtain ⟨ys, rfl, d⟩ := h5
          obtain ⟨M3, gr3⟩ := R1.toRepM.newC ws keep sS h2 h3 h4 (dens_flat hf d)
          refine k _ _ _ _ _ (.h g1.mem.length) (R1.withM2 gr3 M3) (gr1.trans gr3) ⟨p, ?_, rfl⟩ q3
          rw [← R1.len, List.getElem?_append_right (Nat.le_refl _), Nat.sub_self]
          rfl
        | _ => exact q2.elim
      · exact q2.elim
  · exact q1.elim
variable {X : Cx} {e : Expr} {es : List Expr} {pos : Pos}
theorem de_callL {k : Nat} {f : Addr} {fd : FuncData} {ps : List Str} {C : PC} {x : Str} {p : Pos} (F : FnOk X.prog X.w X.K X.mg X.base CX0 k f fd ps (sps X.K C.s)) (hr : Room k X.A) (hm : X.mg x = some (.ref f)) (hk : PySem.W.keepIn X.K (.ref f) = true) (hb : Binds X.K fd ps [])
    (ha : DA X (e :: es) τs ts) (hg : Gl X x := by rfl) (hdb : (x == ("__debug__" : Str)) = false := by decide) (he : starEach (e :: es) X.env = (false, eval e X.env) :: starEach es X.env := by rfl) (hpl : (backTo pos (starEach es X.env)).any (·.1) = false := by rfl) :
    DE X (.Call (.Name x p) (e :: es) [] pos) (tCall (sps X.K C.s) [] E0 τs) (dCallL C ts) :=
  ⟨pe_call F hr hg hm hk hb .nil pass0 ha.pe hdb he hpl, der_callL ha.r⟩
end
/-! steps -/
def onLend (g1 : G) (ws : List W) (P : List T → Prop) : Prop := match lendW g1 ws with
  | some ts => P ts
  | none => False
theorem i_callL {g : G} {Q : W → G → Prop} {C : PC} {t : DAt} (h : t g fun ws g1 => onLend g1 ws fun us => C us fun r => onFlat g1 r Q) : dCallL C t g Q := h
theorem o_lend {g1 : G} {ws : List W} {us : List T} {P : List T → Prop} (e : lendW g1 ws = some us) (h : P us) : onLend g1 ws P := by unfold onLend; rw [e]; exact h
theorem o_flT {g1 : G} {Q : W → G → Prop} {x : T} (h1 : x.isFlat = true) (h : Q (.t x) g1) : onFlat g1 (.t x) Q := ⟨h1, h⟩
theorem o_flH {g1 : G} {Q : W → G → Prop} {us : List T} (h1 : ∀ u ∈ us, u.isFlat = true) (h : Q (.h g1.mem.length) (g1.push (.lt us))) : onFlat g1 (.f (.lt us)) Q := ⟨h1, h⟩
theorem isFlat_ints (ns : List Int) : ∀ u ∈ ns.map T.int, u.isFlat = true := fun u hu => by
  obtain ⟨i, _, rfl⟩ := List.mem_map.mp hu
  rfl
end DL

namespace DL
open PySem PySem.Spec L2
/-! lists of whole numbers: a <= b -/
def lexLe : List Int → List Int → Bool
  | [], _ => true
  | _ :: _, [] => false
  | x :: xs, y :: ys => if x = y then lexLe xs ys else decide (x ≤ y)
theorem lexLe_first : ∀ ns ms : List Int, SeqAt.firstLt (fun j => decide (ns.getD j 0 = ms.getD j 0)) (fun j => decide (ns.getD j 0 ≤ ms.getD j 0)) (decide (ns.length ≤ ms.length)) (List.range (min ns.length ms.length)) = lexLe ns ms
  | [], ms => by
    show SeqAt.firstLt _ _ _ (List.range (min 0 ms.length)) = true
    rw [Nat.zero_min]
    show decide (0 ≤ ms.length) = true
    simp
  | x :: ns, [] => by
    show SeqAt.firstLt _ _ _ (List.range (min (ns.length + 1) 0)) = false
    rw [Nat.min_zero]
    show decide (ns.length + 1 ≤ 0) = false
    simp
  | x :: ns, y :: ms => by
    rw [List.length_cons, List.length_cons, Nat.add_min_add_right, List.range_succ_eq_map]
    show (if decide (x = y) = true then SeqAt.firstLt _ _ _ ((List.range (min ns.length ms.length)).map Nat.succ) else decide (x ≤ y)) = _
    rw [PySem.W.firstLt_map]
    have ih := lexLe_first ns ms
    have hd : decide (ns.length + 1 ≤ ms.length + 1) = decide (ns.length ≤ ms.length) := by
      by_cases h : ns.length ≤ ms.length
      · rw [decide_eq_true h, decide_eq_true (by omega)]
      · rw [decide_eq_false h, decide_eq_false (by omega)]
    rw [hd]
    unfold lexLe
    by_cases h : x = y
    · rw [if_pos (decide_eq_true h), if_pos h]
      exact ih
    · rw [if_neg (by simpa using h), if_neg h]
def rLeL (K : PySem.W.Frag) : R2 := fun x y H Q => ∃ (a b : Addr) (ns ms : List Int), x = .ref a ∧ y = .ref b ∧ SqL K H a (ns.map V.int) ∧ SqL K H b (ms.map V.int) ∧ Q (.bl (lexLe ns ms)) H
theorem op_leL {X : Cx} (hu : X.A.units < cLine) : OpR X (compareOp .LtE) (rLeL X.K) := by
  intro pins s σ H x y v u Q I rx ry h
  obtain ⟨a, b, ns, ms, rfl, rfl, ha, hb, q⟩ := h
  cases rx
  cases ry
  obtain ⟨us, r1, p1, _⟩ := I.list ha
  obtain ⟨ws, r2, p2, _⟩ := I.list hb
  have i1 := r1.ints
  have i2 := r2.ints
  have n1 : us.toArray.size = ns.length := by rw [List.size_toArray]; exact i1.length
  have n2 : ws.toArray.size = ms.length := by rw [List.size_toArray]; exact i2.length
  have g1 : ∀ j (h1 : j < us.toArray.size), ∃ t, us.toArray[j] = .int (ns.getD j 0) t := fun j h1 => PyProof.Rows.IntsAre.int_at i1 _ _ (by simp at h1; simp [h1])
  have g2 : ∀ j (h1 : j < ws.toArray.size), ∃ t, ws.toArray[j] = .int (ms.getD j 0) t := fun j h1 => PyProof.Rows.IntsAre.int_at i2 _ _ (by simp at h1; simp [h1])
  have R := SeqAt.RcOp.lists_le (A := X.A) (s := s) (e := fun j => decide (ns.getD j 0 = ms.getD j 0)) (r := fun j => decide (ns.getD j 0 ≤ ms.getD j 0)) p1.isList p2.isList hu (fun j h1 h2 => by
    obtain ⟨t, et⟩ := g1 j h1
    obtain ⟨t', et'⟩ := g2 j h2
    rw [et, et', show decide (ns.getD j 0 = ms.getD j 0) = (ns.getD j 0 == ms.getD j 0) by
      by_cases q : ns.getD j 0 = ms.getD j 0
      · rw [decide_eq_true q]; exact (beq_iff_eq.mpr q).symm
      · rw [decide_eq_false q]; exact (beq_eq_false_iff_ne.mpr q).symm]
    exact SeqAt.EqAt.int_int _ _ _ _) (fun j h1 h2 _ => by
    obtain ⟨t, et⟩ := g1 j h1
    obtain ⟨t', et'⟩ := g2 j h2
    rw [et, et']
    exact Ob.RcOp.le_int _ _ _ _)
  rw [n1, n2, lexLe_first] at R
  exact R X.prog X.w X.xe (EP X pins σ Q) ⟨.bl _, H, I, rfl, q⟩
def fLeL : F2 := fun g x y Q => match g.lq? x, g.lq? y with
  | some tx, some ty => ∃ ns ms : List Int, tx = ns.map T.int ∧ ty = ms.map T.int ∧ Q (.t (.bl (lexLe ns ms))) g
  | _, _ => False
theorem op2_leL {K : PySem.W.Frag} : Op2 K (rLeL K) fLeL := by
  intro al S F H σ g x y wx wy Q QV R dx dy q k
  unfold fLeL at q
  split at q
  · rename_i tx ty ex ey
    obtain ⟨ns, ms, rfl, rfl, q⟩ := q
    obtain ⟨a, rfl, h1⟩ := R.viewI dx ex
    obtain ⟨b, rfl, h2⟩ := R.viewI dy ey
    exact ⟨a, b, ns, ms, rfl, rfl, h1, h2, k.tr R (denB _) q⟩
  · exact q.elim
section
variable {X : Cx} {a b : Expr} {τa τb : TE} {ta tb : Dt} {pos : Pos} {kk : Nat}
theorem de_leL (hr : Room kk X.A) (ha : DE X a τa ta) (hb : DE X b τb tb) : DE X (.Compare a [.LtE] [b] pos) (tOp (rLeL X.K) τa τb) (d2 fLeL ta tb) := de_cmp (op_leL hr.units0) op2_leL ha hb
theorem dt_leL (hr : Room kk X.A) (ha : DE X a τa ta) (hb : DE X b τb tb) : DT X (.Compare a [.LtE] [b] pos) (L2.tB (tOp (rLeL X.K) τa τb)) (dB (d2 fLeL ta tb)) := dt_cmp (op_leL hr.units0) op2_leL ha hb
end
theorem i_leL {g : G} {Q : W → G → Prop} {x y : W} {ns ms : List Int} (e1 : g.lq? x = some (ns.map T.int)) (e2 : g.lq? y = some (ms.map T.int)) (h : Q (.t (.bl (lexLe ns ms))) g) : fLeL g x y Q := by
  unfold fLeL; rw [e1, e2]; exact ⟨ns, ms, rfl, rfl, h⟩
end DL

namespace DL
open PySem PySem.Spec L2
/-! handles looked at as trees, down to a depth -/
def allS {α : Type} : List (Option α) → Option (List α)
  | [] => some []
  | some x :: r => (match allS r with | some xs => some (x :: xs) | none => none)
  | none :: _ => none
def G.treeD (g : G) : Nat → W → Option T
  | _, .t t => some t
  | 0, .h _ => none
  | d + 1, .h n => match g.mem[n]? with
    | some (some (.lt ts)) => some (.lst ts)
    | some (some (.dt ks ts)) => some (.dk ks ts)
    | some (some (.lw ws)) => (match allS (ws.map (g.treeD d)) with | some ts => some (.lst ts) | none => none)
    | some (some (.tw ws)) => (match allS (ws.map (g.treeD d)) with | some ts => some (.tup ts) | none => none)
    | some (some (.ob n fs ws)) => (match allS (ws.map (g.treeD d)) with | some ts => some (.ob n fs ts) | none => none)
    | _ => none
theorem allS_cons {α : Type} {x : α} {xs : List α} {r : List (Option α)} (h : allS r = some xs) : allS (some x :: r) = some (x :: xs) := by
  unfold allS
  rw [h]
theorem allS_map {α : Type} : ∀ xs : List α, allS (xs.map some) = some xs
  | [] => rfl
  | x :: xs => allS_cons (allS_map xs)
/-- a heap that holds what is stable and the cells -/
structure Holds (K : PySem.W.Frag) (al : List Addr) (S : Hp) (m : Sto) (S1 : Hp) : Prop where
  s : Same S S1
  c : ∀ (n : Nat) (c : Cell), m[n]? = some (some c) → ∃ a o, al[n]? = some a ∧ S1 a = some o ∧ CellOk K al S c o
theorem allS_den {K : PySem.W.Frag} {al : List Addr} {S S1 : Hp} {f : W → Option T} (h : ∀ w t v, f w = some t → DenW K al S w v → Den K S1 t v) : ∀ {ws : List W} {ts : List T} {vs : List V}, allS (ws.map f) = some ts → Paired (DenW K al S) ws vs → Paired (Den K S1) ts vs
  | [], _, _, e, p => by
    cases p
    cases e
    exact .nil
  | w :: ws, ts, vs, e, p => by
    cases p with
    | cons p1 p2 =>
      rw [List.map_cons] at e
      cases e1 : f w with
      | none => rw [e1] at e; cases e
      | some t =>
        rw [e1] at e
        unfold allS at e
        split at e
        · rename_i xs e2
          cases e
          exact .cons (h w t _ e1 p1) (allS_den h e2 p2)
        · cases e
theorem treeD_den {K : PySem.W.Frag} {al : List Addr} {S S1 : Hp} {g : G} (hS : Holds K al S g.mem S1) : ∀ (d : Nat) (w : W) (t : T) (v : V), g.treeD d w = some t → DenW K al S w v → Den K S1 t v
  | 0, .t x, t, v, e, dv => by
    cases e
    exact Den.mono hS.s _ _ dv
  | 0, .h n, t, v, e, dv => by cases e
  | d + 1, .t x, t, v, e, dv => by
    cases e
    exact Den.mono hS.s _ _ dv
  | d + 1, .h n, t, v, e, dv => by
    unfold G.treeD at e
    obtain ⟨a, ha, rfl⟩ := dv
    split at e
    · rename_i ts em
      cases e
      obtain ⟨a', o, h1, h2, vs, rfl, h3⟩ := hS.c n _ em
      rw [ha] at h1
      cases h1
      unfold Den
      exact ⟨a, vs, rfl, h2, Dens.iff.mpr (Denp.grow hS.s h3)⟩
    · rename_i ks ts em
      cases e
      obtain ⟨a', o, h1, h2, vs, rfl, h3, h4⟩ := hS.c n _ em
      rw [ha] at h1
      cases h1
      unfold Den
      exact ⟨a, vs, rfl, h2, h3, Dens.iff.mpr (Denp.grow hS.s h4)⟩
    · rename_i ws em
      split at e
      · rename_i ts e2
        cases e
        obtain ⟨a', o, h1, h2, vs, rfl, h3⟩ := hS.c n _ em
        rw [ha] at h1
        cases h1
        unfold Den
        exact ⟨a, vs, rfl, h2, Dens.iff.mpr (allS_den (fun w t v x y => treeD_den hS d w t v x y) e2 h3)⟩
      · cases e
    · rename_i ws em
      split at e
      · rename_i ts e2
        cases e
        obtain ⟨a', o, h1, h2, vs, rfl, h3⟩ := hS.c n _ em
        rw [ha] at h1
        cases h1
        unfold Den
        exact ⟨a, vs, rfl, .inl (.inl h2), Dens.iff.mpr (allS_den (fun w t v x y => treeD_den hS d w t v x y) e2 h3)⟩
      · cases e
    · rename_i n2 fs ws em
      split at e
      · rename_i ts e2
        cases e
        obtain ⟨a', o, h1, h2, C, dx, vs, hn, rfl, hl, h3⟩ := hS.c n _ em
        rw [ha] at h1
        cases h1
        have p := allS_den (S1 := S1) (fun w t v x y => treeD_den hS d w t v x y) e2 h3
        unfold Den
        exact ⟨a, C, dx, vs, rfl, hn, h2, by rw [hl, h3.length, p.length], Dens.iff.mpr p⟩
      · cases e
    · cases e
theorem Rep.holds {K : PySem.W.Frag} {al : List Addr} {S F H : Hp} {σ : L2.St} {g : G} (R : Rep K al S F H σ g) : Holds K al S g.mem H :=
  ⟨R.same, fun n c e => let ⟨a, o, h1, _, _, h4, h5⟩ := R.cell n c e; ⟨a, o, h1, h4, h5⟩⟩
/-! == of what holds handles -/
def fEqN (neg : Bool) : F2 := fun g x y Q => match g.treeD 6 x, g.treeD 6 y with
  | some tx, some ty => tx.sh 8 = true ∧ ty.sh 8 = true ∧ Q (.t (.bl (if neg then !teq tx ty else teq tx ty))) g
  | _, _ => False
theorem op2_eqN (neg : Bool) {K : PySem.W.Frag} : Op2 K (fun x y H Q => (scal x y = true ∧ Q (.bl (if neg then !decide (x = y) else decide (x = y))) H) ∨
    (∃ d e, Dp K H x d ∧ Dp K H y e ∧ SeqAt.shaped d = true ∧ SeqAt.shaped e = true ∧ Q (.bl (if neg then !PyData.eqv d e else PyData.eqv d e)) H)) (fEqN neg) := by
  intro al S F H σ g x y wx wy Q QV R dx dy q k
  unfold fEqN at q
  split at q
  · rename_i tx ty ex ey
    obtain ⟨h1, h2, q⟩ := q
    exact .inr ⟨tx.pd, ty.pd, dp_of 8 _ _ h1 (treeD_den R.holds _ _ _ _ ex dx), dp_of 8 _ _ h2 (treeD_den R.holds _ _ _ _ ey dy), shaped_of h1 (by decide), shaped_of h2 (by decide), k.tr R (denB _) q⟩
  · exact q.elim
section
variable {X : Cx} {a b : Expr} {τa τb : TE} {ta tb : Dt} {pos : Pos} {kk : Nat}
theorem de_eqN (hr : Room kk X.A) (ha : DE X a τa ta) (hb : DE X b τb tb) : DE X (.Compare a [.Eq] [b] pos) (tOp (fun x y H Q => (scal x y = true ∧ Q (.bl (if false then !decide (x = y) else decide (x = y))) H) ∨
    (∃ d e, Dp X.K H x d ∧ Dp X.K H y e ∧ SeqAt.shaped d = true ∧ SeqAt.shaped e = true ∧ Q (.bl (if false then !PyData.eqv d e else PyData.eqv d e)) H)) τa τb) (d2 (fEqN false) ta tb) := de_cmp (op_eq.or (op_eqD hr.units)) (op2_eqN false) ha hb
theorem de_neN (hr : Room kk X.A) (ha : DE X a τa ta) (hb : DE X b τb tb) : DE X (.Compare a [.NotEq] [b] pos) (tOp (fun x y H Q => (scal x y = true ∧ Q (.bl (if true then !decide (x = y) else decide (x = y))) H) ∨
    (∃ d e, Dp X.K H x d ∧ Dp X.K H y e ∧ SeqAt.shaped d = true ∧ SeqAt.shaped e = true ∧ Q (.bl (if true then !PyData.eqv d e else PyData.eqv d e)) H)) τa τb) (d2 (fEqN true) ta tb) := de_cmp (op_ne.or (op_neD hr.units)) (op2_eqN true) ha hb
theorem dt_eqN (hr : Room kk X.A) (ha : DE X a τa ta) (hb : DE X b τb tb) : DT X (.Compare a [.Eq] [b] pos) (L2.tB (tOp (fun x y H Q => (scal x y = true ∧ Q (.bl (if false then !decide (x = y) else decide (x = y))) H) ∨
    (∃ d e, Dp X.K H x d ∧ Dp X.K H y e ∧ SeqAt.shaped d = true ∧ SeqAt.shaped e = true ∧ Q (.bl (if false then !PyData.eqv d e else PyData.eqv d e)) H)) τa τb)) (dB (d2 (fEqN false) ta tb)) := dt_cmp (op_eq.or (op_eqD hr.units)) (op2_eqN false) ha hb
theorem dt_neN (hr : Room kk X.A) (ha : DE X a τa ta) (hb : DE X b τb tb) : DT X (.Compare a [.NotEq] [b] pos) (L2.tB (tOp (fun x y H Q => (scal x y = true ∧ Q (.bl (if true then !decide (x = y) else decide (x = y))) H) ∨
    (∃ d e, Dp X.K H x d ∧ Dp X.K H y e ∧ SeqAt.shaped d = true ∧ SeqAt.shaped e = true ∧ Q (.bl (if true then !PyData.eqv d e else PyData.eqv d e)) H)) τa τb)) (dB (d2 (fEqN true) ta tb)) := dt_cmp (op_ne.or (op_neD hr.units)) (op2_eqN true) ha hb
end
theorem i_eqN {g : G} {Q : W → G → Prop} {x y : W} {u v : T} (e1 : g.treeD 6 x = some u) (e2 : g.treeD 6 y = some v) (h1 : u.sh 8 = true) (h2 : v.sh 8 = true) (h : Q (.t (.bl (teq u v))) g) : fEqN false g x y Q := by
  unfold fEqN; rw [e1, e2]; exact ⟨h1, h2, h⟩
theorem i_neN {g : G} {Q : W → G → Prop} {x y : W} {u v : T} (e1 : g.treeD 6 x = some u) (e2 : g.treeD 6 y = some v) (h1 : u.sh 8 = true) (h2 : v.sh 8 = true) (h : Q (.t (.bl (!teq u v))) g) : fEqN true g x y Q := by
  unfold fEqN; rw [e1, e2]; exact ⟨h1, h2, h⟩
/-! is, of truths -/
def fIsB (neg : Bool) : F2 := fun g x y Q => match x, y with
  | .t (.bl a), .t (.bl b) => Q (.t (.bl (if neg then !decide (a = b) else decide (a = b)))) g
  | _, _ => False
theorem op2_isB {K : PySem.W.Frag} : Op2 K (fun x y H Q => ∃ a b, x = .bl a ∧ y = .bl b ∧ Q (.bl (decide (a = b))) H) (fIsB false) := by
  intro al S F H σ g x y wx wy Q QV R dx dy q k
  unfold fIsB at q
  split at q
  · unfold DenW Den at dx dy
    exact ⟨_, _, dx, dy, k.tr R (denB _) q⟩
  · exact q.elim
theorem op2_notB {K : PySem.W.Frag} : Op2 K (fun x y H Q => ∃ a b, x = .bl a ∧ y = .bl b ∧ Q (.bl (!decide (a = b))) H) (fIsB true) := by
  intro al S F H σ g x y wx wy Q QV R dx dy q k
  unfold fIsB at q
  split at q
  · unfold DenW Den at dx dy
    exact ⟨_, _, dx, dy, k.tr R (denB _) q⟩
  · exact q.elim
section
variable {X : Cx} {a b : Expr} {τa τb : TE} {ta tb : Dt} {pos : Pos}
theorem de_isB (ha : DE X a τa ta) (hb : DE X b τb tb) : DE X (.Compare a [.Is] [b] pos) (tOp (fun x y H Q => ∃ a b, x = .bl a ∧ y = .bl b ∧ Q (.bl (decide (a = b))) H) τa τb) (d2 (fIsB false) ta tb) := de_cmp op_is_bl op2_isB ha hb
theorem de_notB (ha : DE X a τa ta) (hb : DE X b τb tb) : DE X (.Compare a [.IsNot] [b] pos) (tOp (fun x y H Q => ∃ a b, x = .bl a ∧ y = .bl b ∧ Q (.bl (!decide (a = b))) H) τa τb) (d2 (fIsB true) ta tb) := de_cmp op_isnot_bl op2_notB ha hb
theorem dt_isB (ha : DE X a τa ta) (hb : DE X b τb tb) : DT X (.Compare a [.Is] [b] pos) (L2.tB (tOp (fun x y H Q => ∃ a b, x = .bl a ∧ y = .bl b ∧ Q (.bl (decide (a = b))) H) τa τb)) (dB (d2 (fIsB false) ta tb)) := dt_cmp op_is_bl op2_isB ha hb
theorem dt_notB (ha : DE X a τa ta) (hb : DE X b τb tb) : DT X (.Compare a [.IsNot] [b] pos) (L2.tB (tOp (fun x y H Q => ∃ a b, x = .bl a ∧ y = .bl b ∧ Q (.bl (!decide (a = b))) H) τa τb)) (dB (d2 (fIsB true) ta tb)) := dt_cmp op_isnot_bl op2_notB ha hb
end
theorem i_isB {g : G} {Q : W → G → Prop} {a b : Bool} (h : Q (.t (.bl (decide (a = b)))) g) : fIsB false g (.t (.bl a)) (.t (.bl b)) Q := h
theorem i_notB {g : G} {Q : W → G → Prop} {a b : Bool} (h : Q (.t (.bl (!decide (a = b)))) g) : fIsB true g (.t (.bl a)) (.t (.bl b)) Q := h
/-! a tuple that holds handles -/
def dTupW (t : DAt) : Dt := fun g Q => t g fun ws g1 => ws.length ≤ sizeLine ∧ Q (.h g1.mem.length) (g1.push (.tw ws))
def fIxP : F2 := fun g x y Q => match x, y with
  | .h n, .t (.int i) => (match g.mem[n]? with
    | some (some (.tw ws)) => ∃ w, atI ws i = some w ∧ Q w g
    | _ => False)
  | _, _ => False
section
variable {X : Cx} {a b : Expr} {es : List Expr} {τa τb : TE} {τs : TA} {ta tb : Dt} {ts : DAt} {pos : Pos}
theorem de_tupW {x1} (h : DA X es τs ts) : DE X (.Tuple es x1 pos) (tTup τs) (dTupW ts) := by
  refine ⟨pe_tup h.pe, ?_⟩
  intro al S F H σ g Q QV R q k
  refine h.r al S F H σ g _ _ R q fun al1 S1 H1 g1 vs ws R1 gr1 e1 q1 => ?_
  refine ⟨by rw [← e1.length]; exact q1.1, fun p np => ?_⟩
  obtain ⟨R2, gr2, d⟩ := R1.pushC (c := .tw ws) (o := .tup vs) np ⟨vs, rfl, DenWs.grow ⟨⟨[p], rfl⟩, Same.refl _⟩ e1⟩
  exact k _ _ _ _ _ _ R2 (gr1.trans gr2) d q1.2
theorem op2_ixP {K : PySem.W.Frag} : Op2 K (fun x y H Q => rIxL K x y H Q ∨ rIxT K x y H Q) fIxP := by
  intro al S F H σ g x y wx wy Q QV R dx dy q k
  unfold fIxP at q
  split at q
  · rename_i n i
    split at q
    · rename_i ws em
      obtain ⟨w, hw, q⟩ := q
      obtain ⟨p, o, rfl, h1, vs, rfl, h3⟩ := R.view dx (c := .tw ws) (by unfold G.cell?; dsimp only; rw [em])
      unfold DenW Den at dy
      subst dy
      obtain ⟨v, hv, dv⟩ := patW h3 hw
      exact .inr ⟨p, vs, i, v, rfl, rfl, .inl (.inl h1), hv, k.val R dv q⟩
    · exact q.elim
  · exact q.elim
theorem de_ixP (ha : DE X a τa ta) (hb : DE X b τb tb) (hs : PlainIx b := by intro _ _; rfl) : DE X (.Subscript a b pos) (tOp (fun x y H Q => rIxL X.K x y H Q ∨ rIxT X.K x y H Q) τa τb) (d2 fIxP ta tb) :=
  de_ixR (ix_list.or ix_tup) op2_ixP ha hb hs
/-- a, b = such a tuple -/
def dgUnP (n : Nat) (t : DGwt) : DGt := fun w g Q => match w with
  | .h m => (match g.mem[m]? with
    | some (some (.tw ts)) => ts.length = n ∧ t ts g Q
    | _ => False)
  | _ => False
theorem dg_unp {kk : Nat} {ps : Pos} {τ1 : TGs} {t1 : DGwt} {n : Nat} (hc : X.calm = true) (h : DGw X es τ1 t1)
    (hn : (assignEach es X.env).length = n := by rfl) (hst : (assignEach es X.env).findIdx? (·.1) = none := by rfl) : DG X (.Tuple es kk ps) (gTup X.K n τ1) (dgUnP n t1) := by
  refine ⟨pg_tup hc h.pe hn hst, fun al S F H σ g v w Q QV R d q k => ?_⟩
  unfold dgUnP at q
  split at q
  · rename_i m
    split at q
    · rename_i ts em
      obtain ⟨p, o, rfl, h1, vs, rfl, h3⟩ := R.view d (c := .tw ts) (by unfold G.cell?; dsimp only; rw [em])
      exact ⟨p, vs, rfl, .inl (.inl h1), by rw [← h3.length]; exact q.1, h.r al S F H σ g vs ts Q QV R h3 q.2 k⟩
    · exact q.elim
  · exact q.elim
end
theorem i_tupW {g : G} {ts : DAt} {Q : W → G → Prop} (h : ts g fun ws g1 => ws.length ≤ sizeLine ∧ Q (.h g1.mem.length) (g1.push (.tw ws))) : dTupW ts g Q := h
theorem i_ixP {g : G} {Q : W → G → Prop} {n : Nat} {i : Int} {ws : List W} {w : W} (em : g.mem[n]? = some (some (.tw ws))) (hw : atI ws i = some w) (h : Q w g) : fIxP g (.h n) (.t (.int i)) Q := by
  unfold fIxP; dsimp only; rw [em]; exact ⟨w, hw, h⟩
theorem i_unp {g : G} {n m : Nat} {ws : List W} {t : DGwt} {P : G → Prop} (em : g.mem[m]? = some (some (.tw ws))) (hn : ws.length = n) (h : t ws g P) : dgUnP n t (.h m) g P := by
  unfold dgUnP; dsimp only; rw [em]; exact ⟨hn, h⟩
/-! all cells lent to a pure def -/
section
variable {K : PySem.W.Frag} {al : List Addr} {S S' F H H' : Hp} {m : Sto}
open Classical in
noncomputable def stAll (al : List Addr) (S H : Hp) (m : Sto) : Hp := fun a => if ∃ (n : Nat) (c : Cell), m[n]? = some (some c) ∧ al[n]? = some a then H a else S a
theorem RepM.all_same (R : RepM K al S F H m) : Same S (stAll al S H m) := fun a o e => by
  unfold stAll
  split
  · exact R.same a o e
  · exact e
theorem RepM.all_h (R : RepM K al S F H m) : Same (stAll al S H m) H := fun a o e => by
  unfold stAll at e
  split at e
  · exact e
  · exact R.same a o e
theorem RepM.all_holds (R : RepM K al S F H m) : Holds K al S m (stAll al S H m) := ⟨R.all_same, fun n c e => by
  obtain ⟨a, o, h1, _, _, h4, h5⟩ := R.cell n c e
  refine ⟨a, o, h1, ?_, h5⟩
  unfold stAll
  rw [if_pos ⟨n, c, e, h1⟩]
  exact h4⟩
theorem RepM.lentAll (R : RepM K al S F H m) : RepM K [] (stAll al S H m) (fOf (stAll al S H m) (frOf al F H m [])) H (([] : List Cell).map some) := by
  refine ⟨R.all_h, fun a u e => ?_, fun a u e => ?_, rfl, fun n c e => by simp at e, fun n k c d a e => by simp at e⟩
  · unfold fOf at e
    split at e
    · cases e
    · unfold frOf at e
      split at e
      · exact e
      · cases e
  · unfold fOf
    rw [if_pos (by rw [e]; rfl)]
theorem RepM.keptAll (R : RepM K al S F H m) {S2 : Hp} (h1 : Same (stAll al S H m) S2) (h2 : Same S2 H') (h3 : Same (fOf (stAll al S H m) (frOf al F H m [])) H') : RepM K al S F H' m := by
  have any : ∀ a o, H a = some o → ((F a).isSome = true ∨ ∃ (n : Nat) (c : Cell), m[n]? = some (some c) ∧ n ∉ ([] : List Nat) ∧ al[n]? = some a) → H' a = some o := fun a o e hx => by
    cases q : stAll al S H m a with
    | some u =>
      have := R.all_h a u q
      rw [e] at this
      cases this
      exact h2 a _ (h1 a _ q)
    | none =>
      refine h3 a o ?_
      unfold fOf
      rw [q, if_neg (by simp)]
      unfold frOf
      rw [if_pos hx]
      exact e
  refine ⟨fun a o e => h2 a o (h1 a o (R.all_same a o e)), fun a o e => any a o (R.fr a o e) (.inl (by rw [e]; rfl)), R.dis, R.len, fun n c e => ?_, R.inj⟩
  obtain ⟨a, o, g1, g2, g3, g4, g5⟩ := R.cell n c e
  exact ⟨a, o, g1, g2, g3, any a o g4 (.inr ⟨n, c, e, by simp, g1⟩), g5⟩
end
def onFlatT (g1 : G) (r : R0) (Q : W → G → Prop) : Prop := match r with
  | .t x => x.isFlat = true ∧ Q (.t x) g1
  | _ => False
def onCT (g1 : G) (Q : W → G → Prop) : W → List Cell → List Cell → Prop
  | .t t, _, [] => onFlatT g1 (.t t) Q
  | _, _, _ => False
def dCallN (C : PC) (t : DAt) : Dt := fun g Q => t g fun ws g1 => match allS (ws.map (g1.treeD 6)) with
  | some ts => C ts fun r => onFlatT g1 r Q
  | none => False
section
variable {K : PySem.W.Frag} {τs : TA} {ts : DAt}
theorem der_callN {C : PC} {E : XK} (h : DAr K τs ts) : DEr K (tCall (sps K C.s) [] E τs) (dCallN C ts) := by
  intro al S F H σ g Q QV R q k
  refine h al S F H σ g _ _ R q fun al1 S1 H1 g1 vs ws R1 gr1 e1 q1 => ?_
  rw [List.append_nil]
  split at q1
  · rename_i us eu
    refine ⟨[], stAll al1 S1 H1 g1.mem, fOf (stAll al1 S1 H1 g1.mem) (frOf al1 F H1 g1.mem []), [], us.map W.t, onCT g1 Q,
      R1.toRepM.lentAll, den_trees (allS_den (fun w t v x y => treeD_den R1.toRepM.all_holds 6 w t v x y) eu e1), ⟨us, treesW_map us, rfl, ?_⟩, fun al2 S2 H2 m1 cs v w M2 l2 sS d2 q2 => ?_⟩
    · refine cast (congrArg (C us) ?_) q1
      funext r
      cases r <;> rfl
    · rw [List.nil_append] at M2 d2
      have lm : m1 = [] := List.length_eq_zero_iff.mp l2
      subst lm
      have keep := R1.toRepM.keptAll sS M2.same M2.fr
      unfold onCT at q2
      split at q2
      · rename_i t
        obtain ⟨hf, q3⟩ := q2
        exact k _ _ _ _ _ (.t t) (R1.withM2 (Grow.refl _ _) keep) gr1 (den_flat hf d2) q3
      · exact q2.elim
  · exact q1.elim
variable {X : Cx} {e : Expr} {es : List Expr} {pos : Pos}
theorem de_callN {k : Nat} {f : Addr} {fd : FuncData} {ps : List Str} {C : PC} {x : Str} {p : Pos} (F : FnOk X.prog X.w X.K X.mg X.base CX0 k f fd ps (sps X.K C.s)) (hr : Room k X.A) (hm : X.mg x = some (.ref f)) (hk : PySem.W.keepIn X.K (.ref f) = true) (hb : Binds X.K fd ps [])
    (ha : DA X (e :: es) τs ts) (hg : Gl X x := by rfl) (hdb : (x == ("__debug__" : Str)) = false := by decide) (he : starEach (e :: es) X.env = (false, eval e X.env) :: starEach es X.env := by rfl) (hpl : (backTo pos (starEach es X.env)).any (·.1) = false := by rfl) :
    DE X (.Call (.Name x p) (e :: es) [] pos) (tCall (sps X.K C.s) [] E0 τs) (dCallN C ts) :=
  ⟨pe_call F hr hg hm hk hb .nil pass0 ha.pe hdb he hpl, der_callN ha.r⟩
end
def onNest (g1 : G) (ws : List W) (P : List T → Prop) : Prop := match allS (ws.map (g1.treeD 6)) with
  | some ts => P ts
  | none => False
theorem i_callN {g : G} {Q : W → G → Prop} {C : PC} {t : DAt} (h : t g fun ws g1 => onNest g1 ws fun us => C us fun r => onFlatT g1 r Q) : dCallN C t g Q := h
theorem o_nest {g1 : G} {ws : List W} {us : List T} {P : List T → Prop} (e : allS (ws.map (g1.treeD 6)) = some us) (h : P us) : onNest g1 ws P := by unfold onNest; rw [e]; exact h
theorem o_ftT {g1 : G} {Q : W → G → Prop} {x : T} (h1 : x.isFlat = true) (h : Q (.t x) g1) : onFlatT g1 (.t x) Q := ⟨h1, h⟩
end DL

namespace DL
open PySem PySem.Spec L2
/-! xs.index(x): trees -/
def fIndexT : FM := fun g x ws Q => match ws with
  | [y] => (match g.tree? x, g.tree? y with
    | some (.lst us), some ty => ∃ (j : Nat) (z : T), (T.lst us).sh 8 = true ∧ ty.sh 8 = true ∧ us[j]? = some z ∧ teq z ty = true ∧ (∀ (m : Nat) (z' : T), m < j → us[m]? = some z' → teq z' ty = false) ∧ Q (.t (.int j)) g
    | _, _ => False)
  | _ => False
theorem opM_indexT {K : PySem.W.Frag} : OpM K (rIndexD K) fIndexT := by
  intro al S F H σ g x xs wx ws Q QV R d ds q k
  unfold fIndexT at q
  split at q
  · rename_i y
    split at q
    · rename_i us ty ex ey
      obtain ⟨j, z, h1, h2, h3, h4, h5, q⟩ := q
      obtain ⟨vy, rfl, dy⟩ := p1 ds
      have dx := R.viewT d ex
      have hx : ∃ a, x = V.ref a := by
        have := dx
        unfold Den at this
        obtain ⟨a, vs, e, _⟩ := this
        exact ⟨a, e⟩
      obtain ⟨a, rfl⟩ := hx
      have e0 : (T.lst us).pd = .list (us.map T.pd) := lst_pd rfl
      refine ⟨a, vy, ty.pd, us.map T.pd, j, z.pd, rfl, rfl, e0 ▸ dp_of 8 _ _ h1 dx, dp_of 8 _ _ h2 (R.viewT dy ey), e0 ▸ shaped_of h1 (by decide), shaped_of h2 (by decide), by rw [List.getElem?_map, h3]; rfl, h4, fun m z' hm hz => ?_, k.tr R (denI _) q⟩
      rw [List.getElem?_map] at hz
      cases e2 : us[m]? with
      | none => rw [e2] at hz; cases hz
      | some n =>
        rw [e2] at hz
        cases hz
        exact h5 m n hm e2
    · exact q.elim
  · exact q.elim
section
variable {X : Cx} {o e : Expr} {es : List Expr} {τo : TE} {τs : TA} {to : Dt} {ts : DAt} {apos cpos : Pos} {kk : Nat}
theorem de_indexT (hr : Room kk X.A) (ho : DE X o τo to) (ha : DA X (e :: es) τs ts)
    (hbase : attributeBase o "index" X.env (eval o X.env) = eval o X.env := by rfl)
    (hfew : ((backTo cpos (starEach (e :: es) X.env)).all (fun x => !x.1) && (backToKw cpos (keywordEach [] X.env)).all (fun x => x.1.isSome)
      && decide ((e :: es).length + ([] : List Keyword).length + (if ([] : List Keyword).isEmpty then 0 else 1) < 30)) = true := by rfl)
    (hline : (apos.endLine == cpos.line) = true := by rfl) (hs : starEach (e :: es) X.env = (false, eval e X.env) :: starEach es X.env := by rfl) (hplain : (backTo cpos (starEach es X.env)).any (·.1) = false := by rfl) :
    DE X (.Call (.Attribute o "index" apos) (e :: es) [] cpos) (tBM X.K "list" (rIndexD X.K) τo τs) (dM fIndexT to ts) := de_m PySem.F.slot_list_index PySem.F.type_list_index (mt_indexD (by have := hr.un; omega)) opM_indexT ho ha hbase hfew hline hs hplain
end
theorem i_indexT {g : G} {Q : W → G → Prop} {x y : W} {us : List T} {ty z : T} {j : Nat} (e1 : g.tree? x = some (.lst us)) (e2 : g.tree? y = some ty) (h1 : (T.lst us).sh 8 = true) (h2 : ty.sh 8 = true) (h3 : us[j]? = some z) (h4 : teq z ty = true)
    (h5 : ∀ (m : Nat) (z' : T), m < j → us[m]? = some z' → teq z' ty = false) (h : Q (.t (.int j)) g) : fIndexT g x [y] Q := by
  unfold fIndexT; dsimp only; rw [e1, e2]; exact ⟨j, z, h1, h2, h3, h4, h5, h⟩
/-! all cells freeze: what a slot holds becomes a tree -/
def G.dead (g : G) : G := ⟨g.sl, g.mem.map fun _ => none⟩
def dFrzN (i : Nat) : Dt := fun g Q => match g.sl[i]? with
  | some (some w) => (match g.treeD 6 w with
    | some t => Q (.t t) g.dead
    | none => False)
  | _ => False
theorem dead_at {m : Sto} {n : Nat} {c : Cell} : (m.map fun _ => (none : Option Cell))[n]? ≠ some (some c) := by
  rw [List.getElem?_map]
  cases m[n]? <;> simp
theorem RepM.dead {K : PySem.W.Frag} {al : List Addr} {S F H : Hp} {m : Sto} (R : RepM K al S F H m) : RepM K al (stAll al S H m) F H (m.map fun _ => none) := by
  refine ⟨R.all_h, R.fr, fun a o e => ?_, by rw [List.length_map]; exact R.len, fun n c e => absurd e dead_at, fun n k c d a e => absurd e dead_at⟩
  unfold stAll at e
  split at e
  · rename_i h
    obtain ⟨n, c, em, ea⟩ := h
    obtain ⟨a', o', g1, g2, g3, g4, g5⟩ := R.cell n c em
    rw [ea] at g1
    cases g1
    exact g3
  · exact R.dis a o e
theorem der_frzN {K : PySem.W.Frag} (i : Nat) : DEr K (tVar i) (dFrzN i) := by
  intro al S F H σ g Q QV R q k
  unfold dFrzN at q
  split at q
  · rename_i w e
    split at q
    · rename_i t et
      obtain ⟨v, h1, h2⟩ := R.slot i _ e
      have gr : Grow al S al (stAll al S H g.mem) := ⟨⟨[], by simp⟩, R.toRepM.all_same⟩
      refine ⟨v, h1, k _ _ _ _ _ (.t t) (⟨R.toRepM.dead, R.slen, fun j w' ej => ?_⟩ : Rep K al (stAll al S H g.mem) F H σ g.dead) gr (treeD_den R.toRepM.all_holds 6 w t v et h2) q⟩
      obtain ⟨v', h1', h2'⟩ := R.slot j w' ej
      exact ⟨v', h1', h2'.grow gr⟩
    · exact q.elim
  · exact q.elim
theorem de_frzN {X : Cx} (i : Nat) {x : Str} {pos : Pos} (hN : X.N[i]? = some x := by rfl) (hv : Vis X.env.scope x := by first | exact Or.inl rfl | exact Or.inr (Or.inl rfl) | exact Or.inr (Or.inr rfl)) (hd : (x == ("__debug__" : Str)) = false := by decide)
    (hcd : (x == ("__classdict__" : Str)) = false := by decide) : DE X (.Name x pos) (tVar i) (dFrzN i) := ⟨pe_var hN hv hd hcd, der_frzN i⟩
theorem i_frzN {g : G} {Q : W → G → Prop} {i : Nat} {w : W} {x : T} (e : g.sl[i]? = some (some w)) (et : g.treeD 6 w = some x) (h : Q (.t x) g.dead) : dFrzN i g Q := by unfold dFrzN; rw [e]; dsimp only; rw [et]; exact h
end DL

namespace DL
open PySem PySem.Spec L2
local macro_rules | `(tactic| walk_at "dn") => `(tactic| simp only [purse_set2, purse_set3, purse_set4, purse_set5, purse_app, purse_len, purse_start, purse_l, G.set, G.put, G.push, G.wipe, wipeW, G.rs, rsW, List.set_cons_zero, List.set_cons_succ, List.map_cons, List.map_nil, List.length_cons, List.length_nil, List.nil_append, List.cons_append, List.replicate_succ, List.replicate_zero, Nat.reduceAdd, Nat.reduceSub, List.getD_cons_zero, List.getD_cons_succ, Option.getD_some, Option.getD_none])
local macro_rules | `(tactic| walk_at "d1") => `(tactic| first
  | with_reducible refine i_seq ?_
  | with_reducible refine i_asg ?_
  | with_reducible refine i_d2 ?_
  | ((with_reducible refine' i_var ?e ?_); (case e => rfl))
  | with_reducible refine i_c ?_
  | ((with_reducible refine' i_ix ?e ?v ?_); (case e => rfl); (case v => first | assumption | rfl))
  | with_reducible refine i_fI0 ?_
  | with_reducible refine i_gN ?_
  | with_reducible refine i_cons ?_
  | with_reducible refine i_nil ?_
  | with_reducible refine i_dN ?_
  | ((with_reducible refine' i_len ?e ?_); (case e => rfl))
  | with_reducible refine i_d1 ?_
  | with_reducible refine i_neg ?_
  | with_reducible refine i_B ?_
  | with_reducible refine o_B ?_
  | with_reducible refine o_I ?_
  | with_reducible refine i_ifS ?_
  | with_reducible refine i_or ?_
  | with_reducible refine i_and ?_
  | with_reducible refine i_not ?_
  | with_reducible refine i_andV ?_
  | with_reducible refine i_orV ?_
  | with_reducible refine i_notV ?_
  | with_reducible refine i_if ?_
  | with_reducible refine i_yes ?_
  | with_reducible refine k_T ?_
  | with_reducible refine k_F ?_
  | with_reducible refine k_True ?_
  | with_reducible refine k_False ?_
  | with_reducible refine i_eqI ?_
  | with_reducible refine i_neI ?_
  | with_reducible refine i_addI ?_
  | with_reducible refine i_addHI ?_
  | with_reducible refine i_callT ?_
  | with_reducible refine i_callH ?_
  | ((with_reducible refine' o_Ts ?e ?_); (case e => rfl))
  | with_reducible refine o_T ?_
  | ((with_reducible refine' o_TF ?e ?_); (case e => rfl))
  | with_reducible refine o_H ?_
  | ((with_reducible refine' o_HF ?e ?_); (case e => rfl))
  | with_reducible refine i_next ?_
  | with_reducible refine i_drop ?_
  | with_reducible refine i_ret ?_
  | with_reducible refine i_retN ?_
  | ((with_reducible refine' i_gTup ?e ?_); (case e => rfl))
  | with_reducible refine i_gCons ?_
  | with_reducible refine i_gNil ?_
  | with_reducible refine i_min2 ?_
  | with_reducible refine i_max2 ?_
  | with_reducible refine i_par ?_
  | with_reducible refine o_W2 ?_
  | ((with_reducible refine' i_aug ?e ?_); (case e => rfl))
  | with_reducible refine i_intI ?_
  | with_reducible refine i_intB ?_
  | with_reducible refine i_lc ?_
  | with_reducible refine i_for ?_
  | with_reducible refine i_while ?_
  | with_reducible refine i_itL ?_
  | ((with_reducible refine' o_Lq ?e ?_); (case e => rfl))
  | with_reducible refine i_itR1 ?_
  | with_reducible refine i_itR2 ?_
  | with_reducible refine o_I1 ?_
  | with_reducible refine o_I2 ?_
  | with_reducible refine e_t ?_
  | ((with_reducible refine' e_h ?e ?p ?_); (case e => rfl); (case p => rfl))
  | with_reducible refine i_M ?_
  | with_reducible refine i_M0 ?_
  | with_reducible refine i_gSub ?_
  | with_reducible refine i_finH ?_
  | with_reducible refine i_finT ?_
  | with_reducible refine i_sl ?_
  | with_reducible refine i_slH ?_
  | with_reducible refine i_slT ?_
  | with_reducible refine i_noPart ?_
  | with_reducible refine i_part ?_
  | ((with_reducible refine' i_frzT ?e ?_); (case e => rfl))
  | ((with_reducible refine' i_frzH ?e ?m ?t ?_); (case e => rfl); (case m => rfl); (case t => rfl))
  | ((with_reducible refine' i_din ?k ?e ?_); (case k => rfl); (case e => rfl))
  | ((with_reducible refine' i_dnotin ?k ?e ?_); (case k => rfl); (case e => rfl))
  | with_reducible refine i_dput ?_
  | with_reducible refine i_newD ?_
  | with_reducible refine i_lstH ?_
  | with_reducible refine i_lst ?_
  | with_reducible refine i_tup ?_
  | with_reducible refine i_break ?_
  | with_reducible refine i_cont ?_
  | with_reducible refine i_callS ?_
  | ((with_reducible refine' i_ixHW ?e ?v ?_); (case e => first | rfl | assumption); (case v => first | assumption | rfl))
  | ((with_reducible refine' i_ixHT ?e ?v ?_); (case e => first | rfl | assumption); (case v => first | assumption | rfl))
  | ((with_reducible refine' i_lenHT ?e ?_); (case e => first | rfl | assumption))
  | ((with_reducible refine' i_lenHW ?e ?_); (case e => first | rfl | assumption))
  | ((with_reducible refine' i_frzH ?e ?m ?t ?_); (case e => rfl); (case m => rfl); (case t => rfl))
  | ((with_reducible refine' i_unw ?e ?n ?_); (case e => rfl); (case n => rfl))
  | with_reducible refine i_gwCons ?_
  | with_reducible refine i_gwNil ?_
  | with_reducible refine i_lstW ?_
  | ((with_reducible refine' i_gList ?e ?n ?_); (case e => rfl); (case n => rfl))
  | with_reducible refine i_listRgH ?_
  | with_reducible refine i_listRg ?_
  | with_reducible refine i_R1 ?_
  | with_reducible refine i_getD ?_
  | ((with_reducible refine' i_none ?k ?_); (case k => rfl))
  | walk_at "dn")
local macro_rules | `(tactic| walk_at "dl") => `(tactic| ((try walk_at "dn"); repeat walk_at "d1"))
/-! parts that grow: plain -/
inductive Pth (E : List (Nat × Nat)) : Nat → Nat → Prop
  | refl (a : Nat) : Pth E a a
  | step {a b c : Nat} : Pth E a b → (b, c) ∈ E → Pth E a c
theorem Pth.trans {E : List (Nat × Nat)} {a b c : Nat} (h : Pth E a b) (k : Pth E b c) : Pth E a c := by
  induction k with
  | refl => exact h
  | step _ he ih => exact .step ih he
theorem Pth.one {E : List (Nat × Nat)} {a b : Nat} (h : (a, b) ∈ E) : Pth E a b := .step (.refl a) h
theorem Pth.via {E E' : List (Nat × Nat)} (he : ∀ a b, (a, b) ∈ E → Pth E' a b) {a b : Nat} (h : Pth E a b) : Pth E' a b := by
  induction h with
  | refl => exact .refl _
  | step _ hm ih => exact ih.trans (he _ _ hm)
theorem Pth.map {E : List (Nat × Nat)} (f : Nat → Nat) {a b : Nat} (h : Pth E a b) : Pth (E.map fun ab => (f ab.1, f ab.2)) (f a) (f b) := by
  induction h with
  | refl => exact .refl _
  | step _ hm ih => exact .step ih (List.mem_map.mpr ⟨_, hm, rfl⟩)
structure Grown (loose : Bool) (order : List Nat) (rows : List (Nat × Nat)) : Prop where
  perm : order.Perm (List.range order.length)
  lo : 2 ≤ order.length
  hi : order.length ≤ 16
  first : order[0]? = some 0
  last : order[order.length - 1]? = some 1
  inr : ∀ ab ∈ rows, ab.1 < order.length ∧ ab.2 < order.length ∧ ab.1 ≠ 1
  fw : ∀ q, q < order.length → Pth rows 0 q
  bw : ∀ q, q < order.length → Pth rows q 1
  asc : loose = true → ∀ ab ∈ rows, ∀ i j : Nat, order[i]? = some ab.1 → order[j]? = some ab.2 → i < j
theorem grown0 (loose : Bool) : Grown loose [0, 1] [(0, 1)] where
  perm := by decide
  lo := by decide
  hi := by decide
  first := rfl
  last := rfl
  inr := by simp
  fw := fun q hq => by
    have : q = 0 ∨ q = 1 := by simp at hq; omega
    rcases this with rfl | rfl
    · exact .refl 0
    · exact .one (by simp)
  bw := fun q hq => by
    have : q = 0 ∨ q = 1 := by simp at hq; omega
    rcases this with rfl | rfl
    · exact .one (by simp)
    · exact .refl 1
  asc := fun _ ab hab i j hi hj => by
    simp at hab
    subst hab
    match i, j with
    | 0, 0 => simp at hj
    | 0, j + 1 => omega
    | i + 1, j => 
      match i with
      | 0 => simp at hi
      | i + 1 => simp at hi
theorem Grown.nd {loose : Bool} {order : List Nat} {rows : List (Nat × Nat)} (G : Grown loose order rows) : order.Nodup := (G.perm.nodup_iff).mpr List.nodup_range
theorem at_ins {order : List Nat} {p s i x : Nat} (hp : p ≤ order.length) (h : (order.take p ++ [s] ++ order.drop p)[i]? = some x) : (i < p ∧ order[i]? = some x) ∨ (i = p ∧ x = s) ∨ (p < i ∧ order[i - 1]? = some x) := by
  have hl : (order.take p).length = p := by rw [List.length_take]; omega
  rw [List.append_assoc] at h
  rcases Nat.lt_trichotomy i p with hi | hi | hi
  · rw [List.getElem?_append_left (by omega), List.getElem?_take_of_lt hi] at h
    exact .inl ⟨hi, h⟩
  · subst hi
    rw [List.getElem?_append_right (by omega), hl, Nat.sub_self] at h
    simp at h
    exact .inr (.inl ⟨rfl, h.symm⟩)
  · rw [List.getElem?_append_right (by omega), hl] at h
    obtain ⟨d, hd⟩ : ∃ d, i - p = d + 1 := ⟨i - p - 1, by omega⟩
    rw [hd] at h
    simp at h
    refine .inr (.inr ⟨hi, ?_⟩)
    rw [← h]
    congr 1
    omega
/-- a place put into a row -/
theorem Grown.split {loose : Bool} {order : List Nat} {rows : List (Nat × Nat)} (G : Grown loose order rows) {at0 a b p : Nat} (hat : rows[at0]? = some (a, b)) (hs : order.length < 16) (h1 : 1 ≤ p) (h2 : p ≤ order.length - 1)
    (hl : loose = true → ∀ i j : Nat, order[i]? = some a → order[j]? = some b → i < p ∧ p ≤ j) : Grown loose (order.take p ++ [order.length] ++ order.drop p) (rows.set at0 (a, order.length) ++ [(order.length, b)]) := by
  have len : (order.take p ++ [order.length] ++ order.drop p).length = order.length + 1 := by
    rw [List.length_append, List.length_append, List.length_take, List.length_drop]
    simp only [List.length_cons, List.length_nil]
    omega
  have hlo := G.lo
  have hab := G.inr _ (List.mem_of_getElem? hat)
  have hat' : at0 < rows.length := (List.getElem?_eq_some_iff.mp hat).1
  have mA : (a, order.length) ∈ rows.set at0 (a, order.length) ++ [(order.length, b)] := by
    rw [List.mem_append]; exact .inl (List.mem_iff_getElem?.mpr ⟨at0, List.getElem?_set_self hat'⟩)
  have mB : (order.length, b) ∈ rows.set at0 (a, order.length) ++ [(order.length, b)] := by simp
  have via : ∀ x y, (x, y) ∈ rows → Pth (rows.set at0 (a, order.length) ++ [(order.length, b)]) x y := fun x y h => by
    obtain ⟨i, hi⟩ := List.getElem?_of_mem h
    by_cases e : i = at0
    · subst e
      rw [hat] at hi
      cases hi
      exact (Pth.one mA).trans (Pth.one mB)
    · refine Pth.one ?_
      rw [List.mem_append]
      exact .inl (List.mem_iff_getElem?.mpr ⟨i, by rw [List.getElem?_set_ne (fun z => e z.symm)]; exact hi⟩)
  have mem' : ∀ ab ∈ rows.set at0 (a, order.length) ++ [(order.length, b)], ab ∈ rows ∨ ab = (a, order.length) ∨ ab = (order.length, b) := fun ab h => by
    rcases List.mem_append.mp h with h | h
    · rcases List.mem_or_eq_of_mem_set h with h | h
      · exact .inl h
      · exact .inr (.inl h)
    · simp at h; exact .inr (.inr h)
  refine ⟨?_, by omega, by omega, ?_, ?_, ?_, ?_, ?_, ?_⟩
  · rw [len, List.range_succ]
    have h1 : (order.take p ++ [order.length] ++ order.drop p).Perm (order.take p ++ order.drop p ++ [order.length]) := by
      rw [List.append_assoc, List.append_assoc]
      exact List.Perm.append_left _ List.perm_append_comm
    rw [List.take_append_drop] at h1
    exact h1.trans (List.Perm.append_right _ G.perm)
  · rw [List.append_assoc, List.getElem?_append_left (by rw [List.length_take]; omega), List.getElem?_take_of_lt (by omega)]
    exact G.first
  · rw [len, Nat.add_sub_cancel, List.getElem?_append_right (by rw [List.length_append, List.length_take]; simp only [List.length_cons, List.length_nil]; omega), List.length_append, List.length_take, List.getElem?_drop]
    simp only [List.length_cons, List.length_nil]
    rw [← G.last]
    congr 1
    omega
  · intro ab h
    rw [len]
    rcases mem' ab h with h | rfl | rfl
    · have := G.inr ab h
      omega
    · exact ⟨by omega, by omega, hab.2.2⟩
    · exact ⟨by simp, by have := hab.2.1; simp at this ⊢; omega, by simp; omega⟩
  · intro q hq
    rw [len] at hq
    by_cases e : q = order.length
    · subst e
      exact .step (Pth.via via (G.fw a hab.1)) mA
    · exact Pth.via via (G.fw q (by omega))
  · intro q hq
    rw [len] at hq
    by_cases e : q = order.length
    · subst e
      exact (Pth.one mB).trans (Pth.via via (G.bw b hab.2.1))
    · exact Pth.via via (G.bw q (by omega))
  · intro hlo2 ab h i j hi hj
    have hx : ∀ (i x : Nat), order[i]? = some x → x < order.length := fun i x e => by
      have := (G.perm.mem_iff).mp (List.mem_of_getElem? e)
      simpa using this
    rcases mem' ab h with h | rfl | rfl
    · have hr := G.inr ab h
      rcases at_ins (by omega) hi with ⟨i1, i2⟩ | ⟨i1, i2⟩ | ⟨i1, i2⟩
      · rcases at_ins (by omega) hj with ⟨j1, j2⟩ | ⟨j1, j2⟩ | ⟨j1, j2⟩
        · exact G.asc hlo2 ab h i j i2 j2
        · omega
        · have := G.asc hlo2 ab h i (j - 1) i2 j2
          omega
      · omega
      · rcases at_ins (by omega) hj with ⟨j1, j2⟩ | ⟨j1, j2⟩ | ⟨j1, j2⟩
        · have := G.asc hlo2 ab h (i - 1) j i2 j2
          omega
        · omega
        · have := G.asc hlo2 ab h (i - 1) (j - 1) i2 j2
          omega
    · dsimp only at hi hj
      have hj2 : j = p := by
        rcases at_ins (by omega) hj with ⟨j1, j2⟩ | ⟨j1, j2⟩ | ⟨j1, j2⟩
        · have := hx j _ j2; omega
        · exact j1
        · have := hx _ _ j2; omega
      obtain ⟨jb, hjb⟩ := List.getElem?_of_mem ((G.perm.mem_iff).mpr (by simpa using hab.2.1 : b ∈ List.range order.length))
      rcases at_ins (by omega) hi with ⟨i1, i2⟩ | ⟨i1, i2⟩ | ⟨i1, i2⟩
      · omega
      · have := hab.1; simp at this; omega
      · have := hl hlo2 (i - 1) jb i2 hjb
        omega
    · dsimp only at hi hj
      have hi2 : i = p := by
        rcases at_ins (by omega) hi with ⟨j1, j2⟩ | ⟨j1, j2⟩ | ⟨j1, j2⟩
        · have := hx i _ j2; omega
        · exact j1
        · have := hx _ _ j2; omega
      obtain ⟨ia, hia⟩ := List.getElem?_of_mem ((G.perm.mem_iff).mpr (by simpa using hab.1 : a ∈ List.range order.length))
      rcases at_ins (by omega) hj with ⟨j1, j2⟩ | ⟨j1, j2⟩ | ⟨j1, j2⟩
      · have := hl hlo2 ia j hia j2
        omega
      · have := hab.2.1; simp at this; omega
      · omega
/-- a row put between places -/
theorem Grown.more {loose : Bool} {order : List Nat} {rows : List (Nat × Nat)} (G : Grown loose order rows) {a b i j : Nat} (ha : order[i]? = some a) (hb : order[j]? = some b) (hi : i < order.length - 1) (hl : loose = true → i < j) : Grown loose order (rows ++ [(a, b)]) := by
  have hlo := G.lo
  have hx : ∀ (i x : Nat), order[i]? = some x → x < order.length := fun i x e => by
    have := (G.perm.mem_iff).mp (List.mem_of_getElem? e)
    simpa using this
  have uniq : ∀ (x k l : Nat), order[k]? = some x → order[l]? = some x → k = l := fun x k l e1 e2 => by
    obtain ⟨h1, g1⟩ := List.getElem?_eq_some_iff.mp e1
    obtain ⟨h2, g2⟩ := List.getElem?_eq_some_iff.mp e2
    exact (List.getElem_inj G.nd).mp (g1.trans g2.symm)
  have via : ∀ x y, (x, y) ∈ rows → Pth (rows ++ [(a, b)]) x y := fun x y h => .one (by rw [List.mem_append]; exact .inl h)
  refine ⟨G.perm, G.lo, G.hi, G.first, G.last, ?_, fun q hq => Pth.via via (G.fw q hq), fun q hq => Pth.via via (G.bw q hq), ?_⟩
  · intro ab h
    rcases List.mem_append.mp h with h | h
    · exact G.inr ab h
    · simp at h
      subst h
      refine ⟨hx i a ha, hx j b hb, fun z => ?_⟩
      simp only at z
      subst z
      have := uniq 1 i _ ha G.last
      omega
  · intro hlo2 ab h k l hk hl2
    rcases List.mem_append.mp h with h | h
    · exact G.asc hlo2 ab h k l hk hl2
    · simp at h
      subst h
      rw [uniq a k i hk ha, uniq b l j hl2 hb]
      exact hl hlo2
/-- a part as it is told -/
structure PartSpec (loose : Bool) (n : Nat) (E : List (Nat × Nat)) : Prop where
  lo : 2 ≤ n
  hi : n ≤ 16
  inr : ∀ ab ∈ E, ab.1 < n ∧ ab.2 < n ∧ ab.1 ≠ 1
  fw : ∀ q, q < n → Pth E 0 q
  bw : ∀ q, q < n → Pth E q 1
  asc : loose = true → ∃ f : Nat → Nat, ∀ ab ∈ E, f ab.1 < f ab.2
theorem Grown.named {loose : Bool} {order : List Nat} {rows : List (Nat × Nat)} (G : Grown loose order rows) {xs : List Nat} (hx : xs.Perm (List.range (order.length - 2))) :
    PartSpec loose order.length (rows.map fun ab => (([0, 1] ++ xs.map (2 + ·)).getD ab.1 0, ([0, 1] ++ xs.map (2 + ·)).getD ab.2 0)) := by
  have hlo := G.lo
  have hlx : xs.length = order.length - 2 := by rw [hx.length_eq, List.length_range]
  have hp : ([0, 1] ++ xs.map (2 + ·)).Perm (List.range order.length) := by
    have e : List.range order.length = [0, 1] ++ (List.range (order.length - 2)).map (2 + ·) := by
      have : order.length = 2 + (order.length - 2) := by omega
      rw [this, List.range_add]
      simp [List.range, List.range.loop]
    rw [e]
    exact List.Perm.append_left _ (hx.map _)
  generalize hN : [0, 1] ++ xs.map (2 + ·) = names at hp
  have hn0 : names.getD 0 0 = 0 := by rw [← hN]; rfl
  have hn1 : names.getD 1 0 = 1 := by rw [← hN]; rfl
  have hln : names.length = order.length := by rw [hp.length_eq, List.length_range]
  have nd : names.Nodup := hp.nodup_iff.mpr List.nodup_range
  have inN : ∀ a, a < order.length → names.getD a 0 < order.length := fun a ha => by
    have h1 : names.getD a 0 ∈ names := by
      rw [List.getD_eq_getElem?_getD, List.getElem?_eq_getElem (by omega)]
      exact List.getElem_mem _
    simpa using hp.mem_iff.mp h1
  have surj : ∀ q, q < order.length → ∃ p, p < order.length ∧ names.getD p 0 = q := fun q hq => by
    obtain ⟨p, hpq⟩ := List.getElem?_of_mem (hp.mem_iff.mpr (by simpa using hq : q ∈ List.range order.length))
    have := (List.getElem?_eq_some_iff.mp hpq).1
    exact ⟨p, by omega, by rw [List.getD_eq_getElem?_getD, hpq]; rfl⟩
  have inj : ∀ a b, a < order.length → b < order.length → names.getD a 0 = names.getD b 0 → a = b := fun a b ha hb e => by
    rw [List.getD_eq_getElem?_getD, List.getD_eq_getElem?_getD, List.getElem?_eq_getElem (by omega), List.getElem?_eq_getElem (by omega)] at e
    exact (List.getElem_inj nd).mp e
  refine ⟨G.lo, G.hi, ?_, ?_, ?_, ?_⟩
  · intro ab h
    obtain ⟨cd, hc, rfl⟩ := List.mem_map.mp h
    have hr := G.inr cd hc
    refine ⟨inN _ hr.1, inN _ hr.2.1, fun z => hr.2.2 (inj _ 1 hr.1 (by omega) ?_)⟩
    rw [hn1]; exact z
  · intro q hq
    obtain ⟨p, hp1, rfl⟩ := surj q hq
    have := Pth.map (fun a => names.getD a 0) (G.fw p hp1)
    rw [hn0] at this
    exact this
  · intro q hq
    obtain ⟨p, hp1, rfl⟩ := surj q hq
    have := Pth.map (fun a => names.getD a 0) (G.bw p hp1)
    rw [hn1] at this
    exact this
  · intro hl
    refine ⟨fun q => order.idxOf (names.idxOf q), fun ab h => ?_⟩
    obtain ⟨cd, hc, rfl⟩ := List.mem_map.mp h
    have hr := G.inr cd hc
    have ix : ∀ a, a < order.length → names.idxOf (names.getD a 0) = a := fun a ha => by
      have h1 : names.getD a 0 ∈ names := by
        rw [List.getD_eq_getElem?_getD, List.getElem?_eq_getElem (by omega)]
        exact List.getElem_mem _
      have h2 := List.idxOf_lt_length_of_mem h1
      have h3 : names[names.idxOf (names.getD a 0)] = names.getD a 0 := List.getElem_idxOf h2
      refine inj _ _ (by omega) ha ?_
      rw [List.getD_eq_getElem?_getD, List.getElem?_eq_getElem h2]
      exact h3
    dsimp only
    rw [ix _ hr.1, ix _ hr.2.1]
    have om : ∀ a, a < order.length → order[order.idxOf a]? = some a := fun a ha => by
      have h1 : a ∈ order := G.perm.mem_iff.mpr (by simpa using ha)
      have h2 := List.idxOf_lt_length_of_mem h1
      rw [List.getElem?_eq_getElem h2]
      congr 1
      exact List.getElem_idxOf h2
    exact G.asc hl cd hc _ _ (om _ hr.1) (om _ hr.2.1)

end DL

namespace DL
open PySem PySem.Spec L2
local macro_rules | `(tactic| walk_at "dn") => `(tactic| simp only [purse_set2, purse_set3, purse_set4, purse_set5, purse_app, purse_len, purse_start, purse_l, G.set, G.put, G.push, G.wipe, wipeW, G.rs, rsW, List.set_cons_zero, List.set_cons_succ, List.map_cons, List.map_nil, List.length_cons, List.length_nil, List.nil_append, List.cons_append, List.replicate_succ, List.replicate_zero, Nat.reduceAdd, Nat.reduceSub, List.getD_cons_zero, List.getD_cons_succ, Option.getD_some, Option.getD_none])
local macro_rules | `(tactic| walk_at "d1") => `(tactic| first
  | with_reducible refine i_seq ?_
  | with_reducible refine i_asg ?_
  | with_reducible refine i_d2 ?_
  | ((with_reducible refine' i_var ?e ?_); (case e => rfl))
  | with_reducible refine i_c ?_
  | ((with_reducible refine' i_ix ?e ?v ?_); (case e => rfl); (case v => first | assumption | rfl))
  | with_reducible refine i_fI0 ?_
  | with_reducible refine i_gN ?_
  | with_reducible refine i_cons ?_
  | with_reducible refine i_nil ?_
  | with_reducible refine i_dN ?_
  | ((with_reducible refine' i_len ?e ?_); (case e => rfl))
  | with_reducible refine i_d1 ?_
  | with_reducible refine i_neg ?_
  | with_reducible refine i_B ?_
  | with_reducible refine o_B ?_
  | with_reducible refine o_I ?_
  | with_reducible refine i_ifS ?_
  | with_reducible refine i_or ?_
  | with_reducible refine i_and ?_
  | with_reducible refine i_not ?_
  | with_reducible refine i_andV ?_
  | with_reducible refine i_orV ?_
  | with_reducible refine i_notV ?_
  | with_reducible refine i_if ?_
  | with_reducible refine i_yes ?_
  | with_reducible refine k_T ?_
  | with_reducible refine k_F ?_
  | with_reducible refine k_True ?_
  | with_reducible refine k_False ?_
  | with_reducible refine i_eqI ?_
  | with_reducible refine i_neI ?_
  | with_reducible refine i_addI ?_
  | with_reducible refine i_addHI ?_
  | with_reducible refine i_callT ?_
  | with_reducible refine i_callH ?_
  | ((with_reducible refine' o_Ts ?e ?_); (case e => rfl))
  | with_reducible refine o_T ?_
  | ((with_reducible refine' o_TF ?e ?_); (case e => rfl))
  | with_reducible refine o_H ?_
  | ((with_reducible refine' o_HF ?e ?_); (case e => rfl))
  | with_reducible refine i_next ?_
  | with_reducible refine i_drop ?_
  | with_reducible refine i_ret ?_
  | with_reducible refine i_retN ?_
  | ((with_reducible refine' i_gTup ?e ?_); (case e => rfl))
  | with_reducible refine i_gCons ?_
  | with_reducible refine i_gNil ?_
  | with_reducible refine i_min2 ?_
  | with_reducible refine i_max2 ?_
  | with_reducible refine i_par ?_
  | with_reducible refine o_W2 ?_
  | ((with_reducible refine' i_aug ?e ?_); (case e => rfl))
  | with_reducible refine i_intI ?_
  | with_reducible refine i_intB ?_
  | with_reducible refine i_lc ?_
  | with_reducible refine i_for ?_
  | with_reducible refine i_while ?_
  | with_reducible refine i_itL ?_
  | ((with_reducible refine' o_Lq ?e ?_); (case e => rfl))
  | with_reducible refine i_itR1 ?_
  | with_reducible refine i_itR2 ?_
  | with_reducible refine o_I1 ?_
  | with_reducible refine o_I2 ?_
  | with_reducible refine e_t ?_
  | ((with_reducible refine' e_h ?e ?p ?_); (case e => rfl); (case p => rfl))
  | with_reducible refine i_M ?_
  | with_reducible refine i_M0 ?_
  | with_reducible refine i_gSub ?_
  | with_reducible refine i_finH ?_
  | with_reducible refine i_finT ?_
  | with_reducible refine i_sl ?_
  | with_reducible refine i_slH ?_
  | with_reducible refine i_slT ?_
  | with_reducible refine i_noPart ?_
  | with_reducible refine i_part ?_
  | ((with_reducible refine' i_frzT ?e ?_); (case e => rfl))
  | ((with_reducible refine' i_frzH ?e ?m ?t ?_); (case e => rfl); (case m => rfl); (case t => rfl))
  | ((with_reducible refine' i_din ?k ?e ?_); (case k => rfl); (case e => rfl))
  | ((with_reducible refine' i_dnotin ?k ?e ?_); (case k => rfl); (case e => rfl))
  | with_reducible refine i_dput ?_
  | with_reducible refine i_newD ?_
  | with_reducible refine i_lstH ?_
  | with_reducible refine i_lst ?_
  | with_reducible refine i_tup ?_
  | with_reducible refine i_break ?_
  | with_reducible refine i_cont ?_
  | with_reducible refine i_callS ?_
  | ((with_reducible refine' i_ixHW ?e ?v ?_); (case e => first | rfl | assumption); (case v => first | assumption | rfl))
  | ((with_reducible refine' i_ixHT ?e ?v ?_); (case e => first | rfl | assumption); (case v => first | assumption | rfl))
  | ((with_reducible refine' i_lenHT ?e ?_); (case e => first | rfl | assumption))
  | ((with_reducible refine' i_lenHW ?e ?_); (case e => first | rfl | assumption))
  | ((with_reducible refine' i_frzH ?e ?m ?t ?_); (case e => rfl); (case m => rfl); (case t => rfl))
  | ((with_reducible refine' i_unw ?e ?n ?_); (case e => rfl); (case n => rfl))
  | with_reducible refine i_gwCons ?_
  | with_reducible refine i_gwNil ?_
  | with_reducible refine i_lstW ?_
  | ((with_reducible refine' i_gList ?e ?n ?_); (case e => rfl); (case n => rfl))
  | with_reducible refine i_listRgH ?_
  | with_reducible refine i_listRg ?_
  | with_reducible refine i_R1 ?_
  | with_reducible refine i_getD ?_
  | ((with_reducible refine' i_none ?k ?_); (case k => rfl))
  | walk_at "dn")
local macro_rules | `(tactic| walk_at "dl") => `(tactic| ((try walk_at "dn"); repeat walk_at "d1"))
structure Row where
  p : Int
  s : Int
  e : Int
  c : Int
structure Web where
  places : List Int
  rows : List Row
def Row.t (r : Row) : T := .tup [.int r.p, .int r.s, .int r.e, .int r.c]
def Web.t (w : Web) : T := .tup [.lst (w.places.map T.int), .lst (w.rows.map Row.t)]
def row0 : Row := ⟨0, 0, 0, 0⟩
def Web.row (w : Web) (k : Nat) : Row := w.rows.getD k row0
def Web.rowsOf (w : Web) (p : Int) : List Nat := (List.range w.rows.length).filter fun k => decide ((w.row k).p = p)
def natT (k : Nat) : T := .int (k : Nat)
theorem row_at {w : Web} {k : Nat} (h : k < w.rows.length) : atI (w.rows.map Row.t) (k : Int) = some (w.row k).t := atI_map Row.t (atI_getD row0 h)
theorem mem_rowsOf {w : Web} {p : Int} {k : Nat} : k ∈ w.rowsOf p ↔ k < w.rows.length ∧ (w.row k).p = p := by
  unfold Web.rowsOf
  rw [List.mem_filter, List.mem_range]
  simp
def C_rows_of : PC := fun ts Q => ∃ (w : Web) (p : Int), ts = [w.t, .int p] ∧ w.rows.length ≤ 1000 ∧ Q (.f (.lt ((w.rowsOf p).map natT)))
theorem ln_rows_of : ∀ ts Q, C_rows_of ts Q → ts.length = ["web", "part"].length := by rintro ts Q ⟨_, _, rfl, _⟩; rfl
def rd_rows_of : DSt :=
  dRet (dLc finH (diR1 (dCons (dN fLen (dCons (d2 fIx (dVar 0) (dC (.int 1))) (dNil))) (dNil))) (dgN 2) (dB (d2 (fEq false) (d2 fIx (d2 fIx (d2 fIx (dVar 0) (dC (.int 1))) (dVar 2)) (dC (.int 0))) (dVar 1))) (dVar 2) [2])

theorem rp_rows_of : ∀ ts Q, C_rows_of ts Q → rd_rows_of ⟨FinP Q (.t .non), FinP Q, fun _ => False, fun _ => False⟩ ⟨ts.map (fun t => some (W.t t)) ++ List.replicate (3 - ts.length) none, []⟩ := by
  rintro ts Q ⟨w, p, rfl, hl, hQ⟩
  unfold rd_rows_of Web.t
  walk_at "dl"
  rw [List.length_map]
  refine ⟨by omega, ?_⟩
  refine lcP (List.range w.rows.length) (fun k => W.t (natT k)) (fun k => decide ((w.row k).p = p)) natT (by rw [Int.toNat_natCast, rgW0]; rfl) (by rw [List.length_range]; exact lineLe (by omega)) trivial ?_ rfl ?_
  · intro k hk Y N hY hN
    have hk' : k < w.rows.length := by simpa using hk
    have hr := row_at hk'
    unfold natT Row.t at *
    walk_at "dl"
    refine k_d (fun h => ?_) (fun h => ?_)
    · walk_at "dl"
      exact hY (decide_eq_true h) _ rfl
    · exact hN (decide_eq_false h) _ rfl
  · walk_at "dl"
    exact hQ
/-! reached -/
inductive Reach (E : List (Int × Int)) (s : Int) : Int → Prop
  | refl : Reach E s s
  | step {a b : Int} : Reach E s a → (a, b) ∈ E → Reach E s b
def Web.edge (w : Web) (tn : Bool) (k : Nat) : Int × Int := if tn = true then ((w.row k).e, (w.row k).s) else ((w.row k).s, (w.row k).e)
def Web.edges (w : Web) (p : Int) (tn : Bool) : List (Int × Int) := (w.rowsOf p).map (w.edge tn)
def ins (ks : List Int) (b : Int) : List Int := if b ∈ ks then ks else ks ++ [b]
def pass1 (ks : List Int) (ab : Int × Int) : List Int := if ab.1 ∈ ks then ins ks ab.2 else ks
theorem ins_mem {ks : List Int} {b x : Int} : x ∈ ins ks b ↔ x ∈ ks ∨ x = b := by
  unfold ins
  split
  · constructor
    · exact .inl
    · rintro (h | rfl)
      · exact h
      · assumption
  · rw [List.mem_append, List.mem_singleton]
theorem ins_nd {ks : List Int} {b : Int} (h : ks.Nodup) : (ins ks b).Nodup := by
  unfold ins
  split
  · exact h
  · rename_i hb
    rw [List.nodup_append]
    exact ⟨h, by simp, by intro a ha c hc; simp at hc; subst hc; intro z; subst z; exact hb ha⟩
theorem ins_len (ks : List Int) (b : Int) : ks.length ≤ (ins ks b).length := by
  unfold ins; split
  · exact Nat.le_refl _
  · simp
theorem pass1_sub {ks : List Int} {ab : Int × Int} {x : Int} (h : x ∈ ks) : x ∈ pass1 ks ab := by
  unfold pass1; split
  · exact ins_mem.mpr (.inl h)
  · exact h
theorem pass_sub {E : List (Int × Int)} : ∀ {ks : List Int} {x : Int}, x ∈ ks → x ∈ E.foldl pass1 ks := by
  induction E with
  | nil => intro ks x h; exact h
  | cons ab E ih => intro ks x h; rw [List.foldl_cons]; exact ih (pass1_sub h)
theorem pass1_len (ks : List Int) (ab : Int × Int) : ks.length ≤ (pass1 ks ab).length := by
  unfold pass1; split
  · exact ins_len _ _
  · exact Nat.le_refl _
theorem pass_len {E : List (Int × Int)} : ∀ ks : List Int, ks.length ≤ (E.foldl pass1 ks).length := by
  induction E with
  | nil => intro ks; exact Nat.le_refl _
  | cons ab E ih => intro ks; rw [List.foldl_cons]; exact Nat.le_trans (pass1_len _ _) (ih _)
theorem pass_nd {E : List (Int × Int)} : ∀ {ks : List Int}, ks.Nodup → (E.foldl pass1 ks).Nodup := by
  induction E with
  | nil => intro ks h; exact h
  | cons ab E ih =>
    intro ks h
    rw [List.foldl_cons]
    refine ih ?_
    unfold pass1; split
    · exact ins_nd h
    · exact h
theorem pass_reach {E : List (Int × Int)} {s : Int} : ∀ (E2 : List (Int × Int)) {ks : List Int}, (∀ ab ∈ E2, ab ∈ E) → (∀ x ∈ ks, Reach E s x) → ∀ x ∈ E2.foldl pass1 ks, Reach E s x
  | [], _, _, h => h
  | ab :: E2, ks, hE, h => by
    rw [List.foldl_cons]
    refine pass_reach E2 (fun c hc => hE c (by simp [hc])) fun x hx => ?_
    unfold pass1 at hx
    split at hx
    · rename_i ha
      rcases ins_mem.mp hx with hx | rfl
      · exact h x hx
      · exact .step (h _ ha) (hE ab (by simp))
    · exact h x hx
theorem pass_has {E : List (Int × Int)} : ∀ {ks : List Int} {a b : Int}, (a, b) ∈ E → a ∈ ks → b ∈ E.foldl pass1 ks := by
  induction E with
  | nil => intro ks a b h; simp at h
  | cons ab E ih =>
    intro ks a b h ha
    rw [List.foldl_cons]
    rcases List.mem_cons.mp h with rfl | h
    · refine pass_sub ?_
      unfold pass1
      rw [if_pos ha]
      exact ins_mem.mpr (.inr rfl)
    · exact ih h (pass1_sub ha)
theorem ins_eq {ks : List Int} {b : Int} (h : (ins ks b).length = ks.length) : ins ks b = ks := by
  unfold ins at h ⊢
  split at h
  · rename_i hb; rw [if_pos hb]
  · simp at h
theorem pass_eq {E : List (Int × Int)} : ∀ {ks : List Int}, (E.foldl pass1 ks).length = ks.length → E.foldl pass1 ks = ks := by
  induction E with
  | nil => intro ks _; rfl
  | cons ab E ih =>
    intro ks h
    rw [List.foldl_cons] at h ⊢
    have h1 := pass1_len ks ab
    have h2 := pass_len (E := E) (pass1 ks ab)
    have h3 : (pass1 ks ab).length = ks.length := by omega
    have h4 : pass1 ks ab = ks := by
      unfold pass1 at h3 ⊢
      split at h3
      · rename_i ha; rw [if_pos ha]; exact ins_eq h3
      · rename_i ha; rw [if_neg ha]
    rw [h4] at h ⊢
    exact ih h
theorem reach_closed {E : List (Int × Int)} {s : Int} {ks : List Int} (hs : s ∈ ks) (hc : ∀ a b, (a, b) ∈ E → a ∈ ks → b ∈ ks) {x : Int} (h : Reach E s x) : x ∈ ks := by
  induction h with
  | refl => exact hs
  | step _ he ih => exact hc _ _ he ih
/-- a set of ints, as a dict's cell -/
def bset (ks : List Int) : Cell := .dt (ks.map Sum.inl) (ks.map fun _ => T.bl true)
theorem hasK_ints {b : Int} : ∀ ks : List Int, hasK (ks.map Sum.inl) (Sum.inl b) = decide (b ∈ ks)
  | [] => by simp [hasK]
  | k :: ks => by
    have ih := hasK_ints (b := b) ks
    unfold hasK at ih ⊢
    rw [List.map_cons, List.any_cons, ih]
    by_cases h : k = b
    · subst h; simp
    · have h1 : ¬ (Sum.inl k : Key) = Sum.inl b := fun z => h (Sum.inl.inj z)
      have h2 : ¬ b = k := fun z => h z.symm
      simp [h1, h2, List.mem_cons]
theorem look_bset {b : Int} (ks : List Int) : (look (ks.map Sum.inl) (ks.map fun _ => T.bl true) (Sum.inl b)).isSome = decide (b ∈ ks) := by
  rw [← has_look (Sum.inl b) (by simp), hasK_ints]
theorem putAll_same {k : Key} {x : T} : ∀ ks : List Key, putAll k x ks (ks.map fun _ => x) = ks.map fun _ => x
  | [] => rfl
  | j :: ks => by
    rw [List.map_cons]
    unfold putAll
    rw [putAll_same ks]
    split <;> rfl
theorem putKs_bset {b : Int} (ks : List Int) : putKs (ks.map Sum.inl) (Sum.inl b) = (ins ks b).map Sum.inl := by
  unfold putKs ins
  rw [hasK_ints]
  by_cases h : b ∈ ks
  · rw [if_pos (decide_eq_true h), if_pos h]
  · rw [if_neg (by simpa using h), if_neg h, List.map_append]; rfl
theorem putXs_bset {b : Int} (ks : List Int) : putXs (ks.map Sum.inl) (ks.map fun _ => T.bl true) (Sum.inl b) (T.bl true) = (ins ks b).map fun _ => T.bl true := by
  unfold putXs ins
  rw [hasK_ints]
  by_cases h : b ∈ ks
  · rw [if_pos (decide_eq_true h), if_pos h]
    have := putAll_same (k := Sum.inl b) (x := T.bl true) (ks.map Sum.inl)
    rw [List.map_map] at this
    exact this
  · rw [if_neg (by simpa using h), if_neg h, List.map_append]; rfl
def C_reached : PC := fun ts Q => ∃ (w : Web) (p s : Int) (tn : Bool), ts = [w.t, .int p, .int s, .bl tn] ∧ w.rows.length ≤ 1000 ∧ ∀ ks : List Int, ks.Nodup → (∀ x, x ∈ ks ↔ Reach (w.edges p tn) s x) → Q (.f (bset ks))
theorem ln_reached : ∀ ts Q, C_reached ts Q → ts.length = ["web", "part", "start", "turned"].length := by rintro ts Q ⟨_, _, _, _, rfl, _⟩; rfl
def rd_reached : DSt :=
  dSeq (dAsg (dDisp [(dVar 2, dC (.bl true))]) (dgN 4))
  (dSeq (dAsg (dC (.int 0)) (dgN 5))
  (dSeq (dWhile (dB (d2 (fI0 fun i j => .bl (decide (i < j))) (dVar 5) (dN fLen (dCons (dVar 4) (dNil))))) (dSeq (dAsg (dN fLen (dCons (dVar 4) (dNil))) (dgN 5))
  (dFor (diL (dCallT C_rows_of (dCons (dVar 0) (dCons (dVar 1) (dNil))))) (dgN 6) (dSeq (dPar 7 8 (dCons (d2 fIx (d2 fIx (d2 fIx (dVar 0) (dC (.int 1))) (dVar 6)) (dC (.int 1))) (dCons (d2 fIx (d2 fIx (d2 fIx (dVar 0) (dC (.int 1))) (dVar 6)) (dC (.int 2))) (dNil))))
  (dSeq (dIfS (dB (dVar 3)) (dPar 7 8 (dCons (dVar 8) (dCons (dVar 7) (dNil)))) (dNext))
  (dIfS (dB (d2 (fDin false) (dVar 7) (dVar 4))) (dDput (dVar 4) (dVar 8) (dC (.bl true))) (dNext)))))))
  (dRet (dVar 4))))

/-! one written pair -/
def onKey (w : W) (P : Key → Prop) : Prop := match w with | .t kt => (match keyT kt with | some k => P k | none => False) | _ => False
def onTr (w : W) (P : T → Prop) : Prop := match w with | .t x => P x | _ => False
theorem o_Key {kt : T} {k : Key} {P : Key → Prop} (e : keyT kt = some k) (h : P k) : onKey (.t kt) P := by unfold onKey; dsimp only; rw [e]; exact h
theorem i_disp1 {tk tv : Dt} {g : G} {Q : W → G → Prop} (h : tk g fun w g1 => onKey w fun k => tv g1 fun w2 g2 => onTr w2 fun x => 1 ≤ 15 ∧ Q (.h g2.mem.length) (g2.push (.dt [k] [x]))) : dDisp [(tk, tv)] g Q := h
theorem rp_reached : ∀ ts Q, C_reached ts Q → rd_reached ⟨FinP Q (.t .non), FinP Q, fun _ => False, fun _ => False⟩ ⟨ts.map (fun t => some (W.t t)) ++ List.replicate (9 - ts.length) none, []⟩ := by
  rintro ts Q ⟨w, p, s, tn, rfl, hl, hQ⟩
  unfold rd_reached Web.t
  walk_at "dl"
  refine i_disp1 ?_
  walk_at "dl"
  refine o_Key rfl ?_
  walk_at "dl"
  refine ⟨by decide, ?_⟩
  walk_at "dl"
  have sub0 : ∀ ks : List Int, (∀ x ∈ ks, x ∈ s :: (w.edges p tn).map (·.2)) → ks.Nodup → ks.length ≤ 1001 := fun ks h nd => by
    have h1 := nd.length_le_of_subset h
    have h2 : (w.edges p tn).length ≤ w.rows.length := by
      unfold Web.edges Web.rowsOf
      rw [List.length_map]
      exact Nat.le_trans (List.length_filter_le _ _) (by rw [List.length_range]; exact Nat.le_refl _)
    rw [List.length_cons, List.length_map] at h1
    omega
  have rsub : ∀ x, Reach (w.edges p tn) s x → x ∈ s :: (w.edges p tn).map (·.2) := fun x h => by
    cases h with
    | refl => simp
    | step _ he => exact List.mem_cons_of_mem _ (List.mem_map.mpr ⟨_, he, rfl⟩)
  refine ⟨fun n g' => ∃ (ks : List Int) (m : Nat) (o6 o7 o8 : Option W), g' = ⟨[some (.t (.tup [.lst (w.places.map T.int), .lst (w.rows.map Row.t)])), some (.t (.int p)), some (.t (.int s)), some (.t (.bl tn)), some (.h 0), some (.t (.int m)), o6, o7, o8], [some (bset ks)]⟩ ∧
      ks.Nodup ∧ s ∈ ks ∧ (∀ x ∈ ks, Reach (w.edges p tn) s x) ∧ m ≤ ks.length ∧ (m = ks.length → ∀ a b, (a, b) ∈ w.edges p tn → a ∈ ks → b ∈ ks) ∧ n = 2000 - m, ⟨_, [s], 0, none, none, none, rfl, by simp, by simp, ?_, by simp, by simp, rfl⟩, ?_⟩
  · intro x hx
    simp at hx
    subst hx
    exact .refl
  · rintro n g' ⟨ks, m, o6, o7, o8, rfl, nd, hs, hr, hm, hcl, rfl⟩
    have hb : ks.length ≤ 1001 := sub0 ks (fun x hx => rsub x (hr x hx)) nd
    unfold bset
    walk_at "dl"
    rw [List.length_map]
    refine k_d (fun hlt => ?_) (fun hge => ?_)
    · walk_at "dl"
      rw [List.length_map]
      refine ⟨w, p, rfl, hl, ?_⟩
      walk_at "dl"
      refine forP (w.rowsOf p) (fun k => W.t (natT k)) (fun ks k => pass1 ks (w.edge tn k))
        (fun ks' g' => ∃ (o6 o7 o8 : Option W), g' = ⟨[some (.t (.tup [.lst (w.places.map T.int), .lst (w.rows.map Row.t)])), some (.t (.int p)), some (.t (.int s)), some (.t (.bl tn)), some (.h 0), some (.t (.int ks.length)), o6, o7, o8], [some (bset ks')]⟩)
        ks (by rw [List.map_map]; rfl) ⟨o6, o7, o8, rfl⟩ (fun _ _ _ => rfl) ?_ ?_
      · rintro pre k post hsp g' ⟨o6, o7, o8, rfl⟩ N hN
        have hk : k < w.rows.length := (mem_rowsOf.mp (by rw [hsp]; simp : k ∈ w.rowsOf p)).1
        have hrow := row_at hk
        generalize hks : pre.foldl (fun ks k => pass1 ks (w.edge tn k)) ks = ks2 at hN
        have hb2 : ks2.length ≤ 1001 := by
          have e1 : ks2 = ((pre.map (w.edge tn)).foldl pass1 ks) := by rw [← hks, List.foldl_map]
          have hin : ∀ ab ∈ pre.map (w.edge tn), ab ∈ w.edges p tn := fun ab hab => by
            obtain ⟨j, hj, rfl⟩ := List.mem_map.mp hab
            exact List.mem_map.mpr ⟨j, by rw [hsp]; simp [hj], rfl⟩
          rw [e1]
          exact sub0 _ (fun x hx => rsub x (pass_reach _ hin hr x hx)) (pass_nd nd)
        unfold natT Row.t bset at *
        walk_at "dl"
        cases tn with
        | true =>
          walk_at "dl"
          rw [look_bset]
          refine k_d (fun hin => ?_) (fun hin => ?_)
          · walk_at "dl"
            refine o_dput rfl rfl (by rw [List.length_map]; exact lineLt (by omega)) ?_
            walk_at "dn"
            rw [putKs_bset, putXs_bset]
            have e : pass1 ks2 (w.edge true k) = ins ks2 _ := if_pos hin
            rw [e] at hN
            exact hN _ ⟨_, _, _, rfl⟩
          · walk_at "dl"
            have e : pass1 ks2 (w.edge true k) = ks2 := if_neg hin
            rw [e] at hN
            exact hN _ ⟨_, _, _, rfl⟩
        | false =>
          walk_at "dl"
          rw [look_bset]
          refine k_d (fun hin => ?_) (fun hin => ?_)
          · walk_at "dl"
            refine o_dput rfl rfl (by rw [List.length_map]; exact lineLt (by omega)) ?_
            walk_at "dn"
            rw [putKs_bset, putXs_bset]
            have e : pass1 ks2 (w.edge false k) = ins ks2 _ := if_pos hin
            rw [e] at hN
            exact hN _ ⟨_, _, _, rfl⟩
          · walk_at "dl"
            have e : pass1 ks2 (w.edge false k) = ks2 := if_neg hin
            rw [e] at hN
            exact hN _ ⟨_, _, _, rfl⟩
      · rintro g' ⟨o6, o7, o8, rfl⟩
        have e1 : (w.rowsOf p).foldl (fun ks k => pass1 ks (w.edge tn k)) ks = (w.edges p tn).foldl pass1 ks := by unfold Web.edges; rw [List.foldl_map]
        rw [e1]
        refine ⟨2000 - ks.length, by omega, _, ks.length, o6, o7, o8, rfl, pass_nd nd, pass_sub hs, pass_reach _ (fun _ h => h) hr, pass_len ks, fun he a b hab ha => ?_, rfl⟩
        have e2 := pass_eq he.symm
        rw [e2] at ha ⊢
        rw [← e2]
        exact pass_has hab ha
    · walk_at "dl"
      have he : m = ks.length := by omega
      exact hQ ks nd fun x => ⟨hr x, reach_closed hs (hcl he)⟩

end DL

namespace DL
open PySem PySem.Spec L2
local macro_rules | `(tactic| walk_at "dn") => `(tactic| simp only [purse_set2, purse_set3, purse_set4, purse_set5, purse_app, purse_len, purse_start, purse_l, G.set, G.put, G.push, G.wipe, wipeW, G.rs, rsW, List.set_cons_zero, List.set_cons_succ, List.map_cons, List.map_nil, List.length_cons, List.length_nil, List.nil_append, List.cons_append, List.replicate_succ, List.replicate_zero, Nat.reduceAdd, Nat.reduceSub, List.getD_cons_zero, List.getD_cons_succ, Option.getD_some, Option.getD_none])
local macro_rules | `(tactic| walk_at "d1") => `(tactic| first
  | with_reducible refine i_seq ?_
  | with_reducible refine i_asg ?_
  | with_reducible refine i_d2 ?_
  | ((with_reducible refine' i_var ?e ?_); (case e => rfl))
  | with_reducible refine i_c ?_
  | ((with_reducible refine' i_ix ?e ?v ?_); (case e => rfl); (case v => first | assumption | rfl))
  | with_reducible refine i_fI0 ?_
  | with_reducible refine i_gN ?_
  | with_reducible refine i_cons ?_
  | with_reducible refine i_nil ?_
  | with_reducible refine i_dN ?_
  | ((with_reducible refine' i_len ?e ?_); (case e => rfl))
  | with_reducible refine i_d1 ?_
  | with_reducible refine i_neg ?_
  | with_reducible refine i_B ?_
  | with_reducible refine o_B ?_
  | with_reducible refine o_I ?_
  | with_reducible refine i_ifS ?_
  | with_reducible refine i_or ?_
  | with_reducible refine i_and ?_
  | with_reducible refine i_not ?_
  | with_reducible refine i_andV ?_
  | with_reducible refine i_orV ?_
  | with_reducible refine i_notV ?_
  | with_reducible refine i_if ?_
  | with_reducible refine i_yes ?_
  | with_reducible refine k_T ?_
  | with_reducible refine k_F ?_
  | with_reducible refine k_True ?_
  | with_reducible refine k_False ?_
  | with_reducible refine i_eqI ?_
  | with_reducible refine i_neI ?_
  | with_reducible refine i_addI ?_
  | with_reducible refine i_addHI ?_
  | with_reducible refine i_callT ?_
  | with_reducible refine i_callH ?_
  | ((with_reducible refine' o_Ts ?e ?_); (case e => rfl))
  | with_reducible refine o_T ?_
  | ((with_reducible refine' o_TF ?e ?_); (case e => rfl))
  | with_reducible refine o_H ?_
  | ((with_reducible refine' o_HF ?e ?_); (case e => rfl))
  | with_reducible refine i_next ?_
  | with_reducible refine i_drop ?_
  | with_reducible refine i_ret ?_
  | with_reducible refine i_retN ?_
  | ((with_reducible refine' i_gTup ?e ?_); (case e => rfl))
  | with_reducible refine i_gCons ?_
  | with_reducible refine i_gNil ?_
  | with_reducible refine i_min2 ?_
  | with_reducible refine i_max2 ?_
  | with_reducible refine i_par ?_
  | with_reducible refine o_W2 ?_
  | ((with_reducible refine' i_aug ?e ?_); (case e => rfl))
  | with_reducible refine i_intI ?_
  | with_reducible refine i_intB ?_
  | with_reducible refine i_lc ?_
  | with_reducible refine i_for ?_
  | with_reducible refine i_while ?_
  | with_reducible refine i_itL ?_
  | ((with_reducible refine' o_Lq ?e ?_); (case e => rfl))
  | with_reducible refine i_itR1 ?_
  | with_reducible refine i_itR2 ?_
  | with_reducible refine o_I1 ?_
  | with_reducible refine o_I2 ?_
  | with_reducible refine e_t ?_
  | ((with_reducible refine' e_h ?e ?p ?_); (case e => rfl); (case p => rfl))
  | with_reducible refine i_M ?_
  | with_reducible refine i_M0 ?_
  | with_reducible refine i_gSub ?_
  | with_reducible refine i_finH ?_
  | with_reducible refine i_finT ?_
  | with_reducible refine i_sl ?_
  | with_reducible refine i_slH ?_
  | with_reducible refine i_slT ?_
  | with_reducible refine i_noPart ?_
  | with_reducible refine i_part ?_
  | ((with_reducible refine' i_frzT ?e ?_); (case e => rfl))
  | ((with_reducible refine' i_frzH ?e ?m ?t ?_); (case e => rfl); (case m => rfl); (case t => rfl))
  | ((with_reducible refine' i_din ?k ?e ?_); (case k => rfl); (case e => rfl))
  | ((with_reducible refine' i_dnotin ?k ?e ?_); (case k => rfl); (case e => rfl))
  | with_reducible refine i_dput ?_
  | with_reducible refine i_newD ?_
  | with_reducible refine i_lstH ?_
  | with_reducible refine i_lst ?_
  | with_reducible refine i_tup ?_
  | with_reducible refine i_break ?_
  | with_reducible refine i_cont ?_
  | with_reducible refine i_callS ?_
  | ((with_reducible refine' i_ixHW ?e ?v ?_); (case e => first | rfl | assumption); (case v => first | assumption | rfl))
  | ((with_reducible refine' i_ixHT ?e ?v ?_); (case e => first | rfl | assumption); (case v => first | assumption | rfl))
  | ((with_reducible refine' i_lenHT ?e ?_); (case e => first | rfl | assumption))
  | ((with_reducible refine' i_lenHW ?e ?_); (case e => first | rfl | assumption))
  | ((with_reducible refine' i_frzH ?e ?m ?t ?_); (case e => rfl); (case m => rfl); (case t => rfl))
  | ((with_reducible refine' i_unw ?e ?n ?_); (case e => rfl); (case n => rfl))
  | with_reducible refine i_gwCons ?_
  | with_reducible refine i_gwNil ?_
  | with_reducible refine i_lstW ?_
  | ((with_reducible refine' i_gList ?e ?n ?_); (case e => rfl); (case n => rfl))
  | with_reducible refine i_listRgH ?_
  | with_reducible refine i_listRg ?_
  | with_reducible refine i_R1 ?_
  | with_reducible refine i_getD ?_
  | ((with_reducible refine' i_none ?k ?_); (case k => rfl))
  | walk_at "dn")
local macro_rules | `(tactic| walk_at "dl") => `(tactic| ((try walk_at "dn"); repeat walk_at "d1"))
def Web.place (w : Web) (i : Int) : Int := w.places.getD i.toNat 0
def Web.rowOk (w : Web) (r : Row) : Prop := 0 ≤ r.p ∧ r.p < w.places.length ∧ 0 ≤ r.s ∧ 0 ≤ r.e ∧ r.s < w.place r.p ∧ r.e < w.place r.p ∧ r.s ≠ 1 ∧ r.c < w.places.length ∧ (r.c = -1 ∨ r.p < r.c)
theorem place_at {w : Web} {i : Int} (h0 : 0 ≤ i) (h1 : i < w.places.length) : atI (w.places.map T.int) i = some (.int (w.place i)) := by
  obtain ⟨n, rfl⟩ := Int.eq_ofNat_of_zero_le h0
  exact atI_map T.int (atI_getD 0 (by omega))
def C_fits_row : PC := fun ts Q => ∃ (w : Web) (r : Row), ts = [w.t, r.t] ∧ (w.rowOk r → Q (.t (.bl true))) ∧ (¬ w.rowOk r → Q (.t (.bl false)))
theorem ln_fits_row : ∀ ts Q, C_fits_row ts Q → ts.length = ["web", "row"].length := by rintro ts Q ⟨_, _, rfl, _⟩; rfl
def rd_fits_row : DSt :=
  dSeq (dAsg (dVar 0) (dgTup 2 (dgCons (dgN 2) (dgCons (dgN 3) (dgNil)))))
  (dSeq (dAsg (dVar 1) (dgTup 4 (dgCons (dgN 4) (dgCons (dgN 5) (dgCons (dgN 6) (dgCons (dgN 7) (dgNil)))))))
  (dSeq (dIfS (dOr (dB (d2 (fI0 fun i j => .bl (decide (i < j))) (dVar 4) (dC (.int 0)))) (dOr (dB (d2 (fI0 fun i j => .bl (decide (j ≤ i))) (dVar 4) (dN fLen (dCons (dVar 2) (dNil))))) (dOr (dB (d2 (fI0 fun i j => .bl (decide (i < j))) (dN fMin (dCons (dVar 5) (dCons (dVar 6) (dNil)))) (dC (.int 0)))) (dB (d2 (fI0 fun i j => .bl (decide (j ≤ i))) (dN fMax (dCons (dVar 5) (dCons (dVar 6) (dNil)))) (d2 fIx (dVar 2) (dVar 4))))))) (dRet (dC (.bl false))) (dNext))
  (dRet (dAndV (d2 (fEq true) (dVar 5) (dC (.int 1))) (dAndV (d2 (fI0 fun i j => .bl (decide (i < j))) (dVar 7) (dN fLen (dCons (dVar 2) (dNil)))) (dOrV (d2 (fEq false) (dVar 7) (d1 fNeg (dC (.int 1)))) (d2 (fI0 fun i j => .bl (decide (j < i))) (dVar 7) (dVar 4))))))))

theorem rp_fits_row : ∀ ts Q, C_fits_row ts Q → rd_fits_row ⟨FinP Q (.t .non), FinP Q, fun _ => False, fun _ => False⟩ ⟨ts.map (fun t => some (W.t t)) ++ List.replicate (8 - ts.length) none, []⟩ := by
  rintro ts Q ⟨w, r, rfl, hT, hF⟩
  unfold rd_fits_row Web.t Row.t
  unfold Web.rowOk at hT hF
  walk_at "dl"
  refine k_d (fun h1 => ?_) (fun h1 => ?_)
  · walk_at "dl"
    exact hF (by omega)
  · walk_at "dl"
    rw [List.length_map]
    refine k_d (fun h2 => ?_) (fun h2 => ?_)
    · walk_at "dl"
      exact hF (by omega)
    · have hp := place_at (w := w) (i := r.p) (by omega) (by omega)
      walk_at "dl"
      refine k_d (fun h3 => ?_) (fun h3 => ?_)
      · walk_at "dl"
        exact hF (by split at h3 <;> omega)
      · walk_at "dl"
        refine k_d (fun h4 => ?_) (fun h4 => ?_)
        · walk_at "dl"
          exact hF (by split at h4 <;> omega)
        · have h5 : 0 ≤ r.s ∧ 0 ≤ r.e ∧ r.s < w.place r.p ∧ r.e < w.place r.p := by split at h3 <;> split at h4 <;> omega
          walk_at "dl"
          refine k_n (fun h6 => ?_) (fun h6 => ?_)
          · walk_at "dl"
            rw [List.length_map]
            refine k_d (fun h7 => ?_) (fun h7 => ?_)
            · walk_at "dl"
              refine k_d (fun h8 => ?_) (fun h8 => ?_)
              · walk_at "dl"
                exact hT (by omega)
              · walk_at "dl"
                by_cases h9 : r.p < r.c
                · rw [decide_eq_true h9]
                  exact hT (by omega)
                · rw [decide_eq_false h9]
                  exact hF (by omega)
            · walk_at "dl"
              exact hF (by omega)
          · walk_at "dl"
            exact hF (by omega)
/-! is_web -/
def Web.partOk (w : Web) (p : Nat) : Prop := (∀ q : Int, 0 ≤ q → q < w.place p → Reach (w.edges p false) 0 q ∧ Reach (w.edges p true) 1 q) ∧ (0 < p → ∃ r ∈ w.rows, r.c = (p : Int))
def Web.Ok (w : Web) : Prop := (1 ≤ w.places.length ∧ w.places.length ≤ 4 ∧ 1 ≤ w.rows.length ∧ w.rows.length ≤ 60) ∧ (∀ p ∈ w.places, 2 ≤ p ∧ p ≤ 16) ∧ (∀ r ∈ w.rows, w.rowOk r) ∧ (∀ p : Nat, p < w.places.length → w.partOk p)
theorem row_mem {w : Web} {k : Nat} (h : k < w.rows.length) : w.row k ∈ w.rows := by
  unfold Web.row
  rw [List.getD_eq_getElem?_getD, List.getElem?_eq_getElem h]
  exact List.getElem_mem h
theorem place_mem {w : Web} {p : Nat} (h : p < w.places.length) : w.place p ∈ w.places := by
  unfold Web.place
  rw [Int.toNat_natCast, List.getD_eq_getElem?_getD, List.getElem?_eq_getElem h]
  exact List.getElem_mem h
theorem reach_in {w : Web} {p : Nat} {tn : Bool} {s : Int} (hr : ∀ r ∈ w.rows, w.rowOk r) (hs : 0 ≤ s ∧ s < w.place p) {x : Int} (h : Reach (w.edges p tn) s x) : 0 ≤ x ∧ x < w.place p := by
  cases h with
  | refl => exact hs
  | step _ he =>
    obtain ⟨k, hk, ek⟩ := List.mem_map.mp he
    obtain ⟨h1, h2⟩ := mem_rowsOf.mp hk
    have h3 := hr _ (row_mem h1)
    unfold Web.rowOk at h3
    rw [h2] at h3
    unfold Web.edge at ek
    split at ek
    · have : x = (w.row k).s := (Prod.mk.inj ek).2.symm
      omega
    · have : x = (w.row k).e := (Prod.mk.inj ek).2.symm
      omega
theorem full_iff {ks : List Int} {n : Int} (h0 : 0 ≤ n) (nd : ks.Nodup) (h : ∀ x ∈ ks, 0 ≤ x ∧ x < n) : (ks.length : Int) = n ↔ ∀ q : Int, 0 ≤ q → q < n → q ∈ ks := by
  obtain ⟨m, rfl⟩ := Int.eq_ofNat_of_zero_le h0
  have rg : ((List.range m).map fun k => ((k : Nat) : Int)).Nodup := by
    rw [List.nodup_iff_pairwise_ne, List.pairwise_map]
    exact List.Pairwise.imp (fun h z => h (by exact Int.ofNat.inj z)) List.nodup_range
  constructor
  · intro hl q h1 h2
    refine Classical.byContradiction fun hq => ?_
    have h3 : (q :: ks).Nodup := List.nodup_cons.mpr ⟨hq, nd⟩
    have h4 := h3.length_le_of_subset (l₂ := (List.range m).map fun k => ((k : Nat) : Int)) (by
      intro x hx
      rw [List.mem_map]
      rcases List.mem_cons.mp hx with rfl | hx
      · exact ⟨x.toNat, by rw [List.mem_range]; omega, by omega⟩
      · have := h x hx
        exact ⟨x.toNat, by rw [List.mem_range]; omega, by omega⟩)
    rw [List.length_cons, List.length_map, List.length_range] at h4
    omega
  · intro hq
    have h4 := rg.length_le_of_subset (l₂ := ks) (by
      intro x hx
      obtain ⟨k, hk, rfl⟩ := List.mem_map.mp hx
      rw [List.mem_range] at hk
      exact hq _ (by omega) (by omega))
    have h5 := nd.length_le_of_subset (l₂ := (List.range m).map fun k => ((k : Nat) : Int)) (by
      intro x hx
      have := h x hx
      rw [List.mem_map]
      exact ⟨x.toNat, by rw [List.mem_range]; omega, by omega⟩)
    rw [List.length_map, List.length_range] at h4 h5
    omega
/-- a loop that looks at each thing and leaves at the first that is not so -/
theorem forA {D : De} {g1 : G} {gt : DGt} {tb : DSt} {ws : List W} {St : G → Prop} {ι : Type} (items : List ι) (enc : ι → W) (ok : ι → Prop) (R : G → Prop) (hws : ws = items.map enc) (h0 : R g1) (hSt : ∀ g, R g → St g)
    (hstep : ∀ x ∈ items, ∀ g', R g' → ∀ N : G → Prop, (ok x → ∀ g'', R g'' → N g'') → gt (enc x) g' fun g2 => tb { D with nx := N, ct := N, bk := D.nx } g2)
    (hQ : (∀ x ∈ items, ok x) → ∀ g', R g' → D.nx g') : forI ws St g1 gt tb D := by
  subst hws
  refine ⟨fun i g' => (∀ x ∈ items.take i, ok x) ∧ R g', ⟨by simp, h0⟩, fun i g' h => hSt _ h.2, fun i w g' hw h => ?_, fun g' h => ?_⟩
  · rw [List.getElem?_map] at hw
    cases e : items[i]? with
    | none => rw [e] at hw; cases hw
    | some x =>
      rw [e] at hw
      cases hw
      refine hstep x (List.mem_of_getElem? e) g' h.2 _ fun hx g'' h'' => ⟨fun y hy => ?_, h''⟩
      rw [List.take_add_one, e, List.mem_append] at hy
      rcases hy with hy | hy
      · exact h.1 y hy
      · simp at hy; subst hy; exact hx
  · rw [List.length_map, List.take_length] at h
    exact hQ h.1 g' h.2
def C_is_web : PC := fun ts Q => ∃ (w : Web), ts = [w.t] ∧ w.rows.length ≤ 1000 ∧ w.places.length ≤ 1000 ∧ (w.Ok → Q (.t (.bl true))) ∧ (¬ w.Ok → Q (.t (.bl false)))
theorem ln_is_web : ∀ ts Q, C_is_web ts Q → ts.length = ["web"].length := by rintro ts Q ⟨_, rfl, _⟩; rfl
theorem inT_ints {x : Int} (xs : List Int) : inT (.int x) (xs.map T.int) = decide (x ∈ xs) := by
  unfold inT
  induction xs with
  | nil => simp
  | cons y ys ih =>
    rw [List.map_cons, List.any_cons, ih]
    simp only [T.flat, eqV]
    by_cases h : y = x
    · subst h; simp
    · have h2 : ¬ x = y := fun z => h z.symm
      simp [h, h2, List.mem_cons]
theorem flat_ints (xs : List Int) : ∀ t ∈ xs.map T.int, t.flat.isSome = true := by
  intro t ht
  obtain ⟨x, _, rfl⟩ := List.mem_map.mp ht
  rfl
def rd_is_web : DSt :=
  dSeq (dAsg (dVar 0) (dgTup 2 (dgCons (dgN 1) (dgCons (dgN 2) (dgNil)))))
  (dSeq (dIfS (dOr (dB (d2 (fI0 fun i j => .bl (decide (i < j))) (dN fLen (dCons (dVar 1) (dNil))) (dC (.int 1)))) (dOr (dB (d2 (fI0 fun i j => .bl (decide (j < i))) (dN fLen (dCons (dVar 1) (dNil))) (dC (.int 4)))) (dOr (dB (d2 (fI0 fun i j => .bl (decide (i < j))) (dN fLen (dCons (dVar 2) (dNil))) (dC (.int 1)))) (dB (d2 (fI0 fun i j => .bl (decide (j < i))) (dN fLen (dCons (dVar 2) (dNil))) (dC (.int 60))))))) (dRet (dC (.bl false))) (dNext))
  (dSeq (dIfS (dOr (dB (d2 (fI0 fun i j => .bl (decide (i < j))) (dN fMin (dCons (dVar 1) (dNil))) (dC (.int 2)))) (dB (d2 (fI0 fun i j => .bl (decide (j < i))) (dN fMax (dCons (dVar 1) (dNil))) (dC (.int 16))))) (dRet (dC (.bl false))) (dNext))
  (dSeq (dFor (diL (dVar 2)) (dgN 3) (dIfS (dNot (dB (dCallT C_fits_row (dCons (dVar 0) (dCons (dVar 3) (dNil)))))) (dRet (dC (.bl false))) (dNext)))
  (dSeq (dFor (diR1 (dCons (dN fLen (dCons (dVar 1) (dNil))) (dNil))) (dgN 4) (dSeq (dIfS (dOr (dB (d2 (fEq true) (dN fLen (dCons (dCallT C_reached (dCons (dVar 0) (dCons (dVar 4) (dCons (dC (.int 0)) (dCons (dC (.bl false)) (dNil)))))) (dNil))) (d2 fIx (dVar 1) (dVar 4)))) (dB (d2 (fEq true) (dN fLen (dCons (dCallT C_reached (dCons (dVar 0) (dCons (dVar 4) (dCons (dC (.int 1)) (dCons (dC (.bl true)) (dNil)))))) (dNil))) (d2 fIx (dVar 1) (dVar 4))))) (dRet (dC (.bl false))) (dNext))
  (dIfS (dAnd (dB (d2 (fI0 fun i j => .bl (decide (j < i))) (dVar 4) (dC (.int 0)))) (dB (d2 (fIn true) (dVar 4) (dLc finT (diL (dVar 2)) (dgN 3) (dYes) (d2 fIx (dVar 3) (dC (.int 3))) [3])))) (dRet (dC (.bl false))) (dNext))))
  (dRet (dC (.bl true)))))))

theorem rp_is_web : ∀ ts Q, C_is_web ts Q → rd_is_web ⟨FinP Q (.t .non), FinP Q, fun _ => False, fun _ => False⟩ ⟨ts.map (fun t => some (W.t t)) ++ List.replicate (5 - ts.length) none, []⟩ := by
  rintro ts Q ⟨w, rfl, hl, hl2, hT, hF⟩
  unfold rd_is_web Web.t
  walk_at "dl"
  rw [List.length_map]
  refine k_d (fun h1 => ?_) (fun h1 => ?_)
  · walk_at "dl"
    exact hF fun z => by have := z.1; omega
  walk_at "dl"
  rw [List.length_map]
  refine k_d (fun h2 => ?_) (fun h2 => ?_)
  · walk_at "dl"
    exact hF fun z => by have := z.1; omega
  walk_at "dl"
  rw [List.length_map]
  refine k_d (fun h3 => ?_) (fun h3 => ?_)
  · walk_at "dl"
    exact hF fun z => by have := z.1; omega
  walk_at "dl"
  rw [List.length_map]
  refine k_d (fun h4 => ?_) (fun h4 => ?_)
  · walk_at "dl"
    exact hF fun z => by have := z.1; omega
  walk_at "dl"
  refine i_min (ns := w.places) rfl (by omega) fun mn m1 m2 => ?_
  walk_at "dl"
  refine k_d (fun h5 => ?_) (fun h5 => ?_)
  · walk_at "dl"
    exact hF fun z => by have := z.2.1 mn m1; omega
  walk_at "dl"
  refine i_max (ns := w.places) rfl (by omega) fun mx m3 m4 => ?_
  walk_at "dl"
  refine k_d (fun h6 => ?_) (fun h6 => ?_)
  · walk_at "dl"
    exact hF fun z => by have := z.2.1 mx m3; omega
  walk_at "dl"
  refine forA w.rows (fun r => W.t r.t) w.rowOk (fun g' => ∃ o3 o4, g' = ⟨[some (.t w.t), some (.t (.lst (w.places.map T.int))), some (.t (.lst (w.rows.map Row.t))), o3, o4], []⟩) (by rw [List.map_map]; rfl) ⟨none, none, rfl⟩ (by rintro g ⟨_, _, rfl⟩; rfl) ?_ ?_
  · rintro r hr g' ⟨o3, o4, rfl⟩ N hN
    walk_at "dl"
    refine ⟨w, r, rfl, fun hok => ?_, fun hno => ?_⟩
    · walk_at "dl"
      exact hN hok _ ⟨_, _, rfl⟩
    · walk_at "dl"
      exact hF fun z => hno (z.2.2.1 r hr)
  rintro hrows g' ⟨o3, o4, rfl⟩
  walk_at "dl"
  rw [List.length_map]
  refine ⟨by omega, ?_⟩
  have hpl : ∀ p ∈ w.places, 2 ≤ p ∧ p ≤ 16 := fun p hp => ⟨by have := m2 p hp; omega, by have := m4 p hp; omega⟩
  refine forA (List.range w.places.length) (fun k => W.t (natT k)) w.partOk (fun g' => ∃ o3 o4, g' = ⟨[some (.t w.t), some (.t (.lst (w.places.map T.int))), some (.t (.lst (w.rows.map Row.t))), o3, o4], []⟩) (by rw [Int.toNat_natCast, rgW0]; rfl) ⟨_, _, rfl⟩ (by rintro g ⟨_, _, rfl⟩; trivial) ?_ ?_
  · rintro p hp g' ⟨o3, o4, rfl⟩ N hN
    have hp' : p < w.places.length := by simpa using hp
    have hpp := hpl _ (place_mem hp')
    have hat := place_at (w := w) (i := (p : Int)) (by omega) (by omega)
    unfold natT
    walk_at "dl"
    refine ⟨w, p, 0, false, rfl, hl, fun ks nd hks => ?_⟩
    unfold bset
    walk_at "dl"
    rw [List.length_map]
    have f1 := full_iff (n := w.place p) (by omega) nd (fun x hx => reach_in hrows (by omega) ((hks x).mp hx))
    refine k_n (fun h7 => ?_) (fun h7 => ?_)
    · walk_at "dl"
      exact hF fun z => h7 (f1.mpr fun q h8 h9 => (hks q).mpr ((z.2.2.2 p hp').1 q h8 h9).1)
    walk_at "dl"
    refine ⟨w, p, 1, true, rfl, hl, fun ks2 nd2 hks2 => ?_⟩
    unfold bset
    walk_at "dl"
    rw [List.length_map]
    have f2 := full_iff (n := w.place p) (by omega) nd2 (fun x hx => reach_in hrows (by omega) ((hks2 x).mp hx))
    refine k_n (fun h8 => ?_) (fun h8 => ?_)
    · walk_at "dl"
      exact hF fun z => h8 (f2.mpr fun q h9 h10 => (hks2 q).mpr ((z.2.2.2 p hp').1 q h9 h10).2)
    have hreach : ∀ q : Int, 0 ≤ q → q < w.place p → Reach (w.edges p false) 0 q ∧ Reach (w.edges p true) 1 q := fun q h9 h10 => ⟨(hks q).mp (f1.mp h7 q h9 h10), (hks2 q).mp (f2.mp h8 q h9 h10)⟩
    walk_at "dl"
    refine k_d (fun h9 => ?_) (fun h9 => ?_)
    · walk_at "dl"
      refine lcP w.rows (fun r => W.t r.t) (fun _ => true) (fun r => .int r.c) (by rw [List.map_map]; rfl) (lineLe (by omega)) rfl ?_ rfl ?_
      · intro r hr Y N2 hY hN2
        have h10 : atI [T.int r.p, T.int r.s, T.int r.e, T.int r.c] 3 = some (.int r.c) := rfl
        unfold Row.t
        walk_at "dl"
        exact hY rfl _ rfl
      · walk_at "dl"
        rw [List.filter_eq_self.mpr (fun _ _ => rfl), show (w.rows.map fun r => T.int r.c) = (w.rows.map Row.c).map T.int by rw [List.map_map]; rfl]
        walk_at "dl"
        refine i_notIn rfl rfl (flat_ints _) ?_
        rw [inT_ints]
        walk_at "dl"
        refine k_n (fun h10 => ?_) (fun h10 => ?_)
        · walk_at "dl"
          refine hF fun z => h10 ?_
          obtain ⟨r, hr, er⟩ := (z.2.2.2 p hp').2 (by omega)
          exact List.mem_map.mpr ⟨r, hr, er⟩
        · walk_at "dl"
          refine hN ⟨hreach, fun _ => ?_⟩ _ ⟨_, _, rfl⟩
          obtain ⟨r, hr, er⟩ := List.mem_map.mp h10
          exact ⟨r, hr, er⟩
    · walk_at "dl"
      exact hN ⟨hreach, fun z => by omega⟩ _ ⟨_, _, rfl⟩
  · rintro hparts g' ⟨o3, o4, rfl⟩
    walk_at "dl"
    exact hT ⟨by omega, hpl, hrows, fun p hp => hparts p (by simpa using hp)⟩
def C_must_be_web : PC := fun ts Q => ∃ (w : Web), ts = [w.t] ∧ w.Ok ∧ Q (.t .non)
theorem ln_must_be_web : ∀ ts Q, C_must_be_web ts Q → ts.length = ["web"].length := by rintro ts Q ⟨_, rfl, _⟩; rfl
def rd_must_be_web : DSt :=
  dIfS (dNot (dB (dCallT C_is_web (dCons (dVar 0) (dNil))))) (dNever) (dNext)

theorem rp_must_be_web : ∀ ts Q, C_must_be_web ts Q → rd_must_be_web ⟨FinP Q (.t .non), FinP Q, fun _ => False, fun _ => False⟩ ⟨ts.map (fun t => some (W.t t)) ++ List.replicate (1 - ts.length) none, []⟩ := by
  rintro ts Q ⟨w, rfl, hok, hQ⟩
  have h := hok.1
  unfold rd_must_be_web
  walk_at "dl"
  refine ⟨w, rfl, by omega, by omega, fun _ => ?_, fun z => absurd hok z⟩
  walk_at "dl"
  exact hQ

end DL

namespace DL
open PySem PySem.Spec L2
local macro_rules | `(tactic| walk_at "dn") => `(tactic| simp only [purse_set2, purse_set3, purse_set4, purse_set5, purse_app, purse_len, purse_start, purse_l, G.set, G.put, G.push, G.wipe, wipeW, G.rs, rsW, List.set_cons_zero, List.set_cons_succ, List.map_cons, List.map_nil, List.length_cons, List.length_nil, List.nil_append, List.cons_append, List.replicate_succ, List.replicate_zero, Nat.reduceAdd, Nat.reduceSub, List.getD_cons_zero, List.getD_cons_succ, Option.getD_some, Option.getD_none])
local macro_rules | `(tactic| walk_at "d1") => `(tactic| first
  | with_reducible refine i_seq ?_
  | with_reducible refine i_asg ?_
  | with_reducible refine i_d2 ?_
  | ((with_reducible refine' i_var ?e ?_); (case e => rfl))
  | with_reducible refine i_c ?_
  | ((with_reducible refine' i_ix ?e ?v ?_); (case e => rfl); (case v => first | assumption | rfl))
  | with_reducible refine i_fI0 ?_
  | with_reducible refine i_gN ?_
  | with_reducible refine i_cons ?_
  | with_reducible refine i_nil ?_
  | with_reducible refine i_dN ?_
  | ((with_reducible refine' i_len ?e ?_); (case e => rfl))
  | with_reducible refine i_d1 ?_
  | with_reducible refine i_neg ?_
  | with_reducible refine i_B ?_
  | with_reducible refine o_B ?_
  | with_reducible refine o_I ?_
  | with_reducible refine i_ifS ?_
  | with_reducible refine i_or ?_
  | with_reducible refine i_and ?_
  | with_reducible refine i_not ?_
  | with_reducible refine i_andV ?_
  | with_reducible refine i_orV ?_
  | with_reducible refine i_notV ?_
  | with_reducible refine i_if ?_
  | with_reducible refine i_yes ?_
  | with_reducible refine k_T ?_
  | with_reducible refine k_F ?_
  | with_reducible refine k_True ?_
  | with_reducible refine k_False ?_
  | with_reducible refine i_eqI ?_
  | with_reducible refine i_neI ?_
  | with_reducible refine i_addI ?_
  | with_reducible refine i_addHI ?_
  | with_reducible refine i_callT ?_
  | with_reducible refine i_callH ?_
  | ((with_reducible refine' o_Ts ?e ?_); (case e => rfl))
  | with_reducible refine o_T ?_
  | ((with_reducible refine' o_TF ?e ?_); (case e => rfl))
  | with_reducible refine o_H ?_
  | ((with_reducible refine' o_HF ?e ?_); (case e => rfl))
  | with_reducible refine i_next ?_
  | with_reducible refine i_drop ?_
  | with_reducible refine i_ret ?_
  | with_reducible refine i_retN ?_
  | ((with_reducible refine' i_gTup ?e ?_); (case e => rfl))
  | with_reducible refine i_gCons ?_
  | with_reducible refine i_gNil ?_
  | with_reducible refine i_min2 ?_
  | with_reducible refine i_max2 ?_
  | with_reducible refine i_par ?_
  | with_reducible refine o_W2 ?_
  | ((with_reducible refine' i_aug ?e ?_); (case e => rfl))
  | with_reducible refine i_intI ?_
  | with_reducible refine i_intB ?_
  | with_reducible refine i_lc ?_
  | with_reducible refine i_for ?_
  | with_reducible refine i_while ?_
  | with_reducible refine i_itL ?_
  | ((with_reducible refine' o_Lq ?e ?_); (case e => rfl))
  | with_reducible refine i_itR1 ?_
  | with_reducible refine i_itR2 ?_
  | with_reducible refine o_I1 ?_
  | with_reducible refine o_I2 ?_
  | with_reducible refine e_t ?_
  | ((with_reducible refine' e_h ?e ?p ?_); (case e => rfl); (case p => rfl))
  | with_reducible refine i_M ?_
  | with_reducible refine i_M0 ?_
  | with_reducible refine i_gSub ?_
  | with_reducible refine i_finH ?_
  | with_reducible refine i_finT ?_
  | with_reducible refine i_sl ?_
  | with_reducible refine i_slH ?_
  | with_reducible refine i_slT ?_
  | with_reducible refine i_noPart ?_
  | with_reducible refine i_part ?_
  | ((with_reducible refine' i_frzT ?e ?_); (case e => rfl))
  | ((with_reducible refine' i_frzH ?e ?m ?t ?_); (case e => rfl); (case m => rfl); (case t => rfl))
  | ((with_reducible refine' i_din ?k ?e ?_); (case k => rfl); (case e => rfl))
  | ((with_reducible refine' i_dnotin ?k ?e ?_); (case k => rfl); (case e => rfl))
  | with_reducible refine i_dput ?_
  | with_reducible refine i_newD ?_
  | with_reducible refine i_lstH ?_
  | with_reducible refine i_lst ?_
  | with_reducible refine i_tup ?_
  | with_reducible refine i_break ?_
  | with_reducible refine i_cont ?_
  | with_reducible refine i_callS ?_
  | ((with_reducible refine' i_ixHW ?e ?v ?_); (case e => first | rfl | assumption); (case v => first | assumption | rfl))
  | ((with_reducible refine' i_ixHT ?e ?v ?_); (case e => first | rfl | assumption); (case v => first | assumption | rfl))
  | ((with_reducible refine' i_lenHT ?e ?_); (case e => first | rfl | assumption))
  | ((with_reducible refine' i_lenHW ?e ?_); (case e => first | rfl | assumption))
  | ((with_reducible refine' i_frzH ?e ?m ?t ?_); (case e => rfl); (case m => rfl); (case t => rfl))
  | ((with_reducible refine' i_unw ?e ?n ?_); (case e => rfl); (case n => rfl))
  | with_reducible refine i_gwCons ?_
  | with_reducible refine i_gwNil ?_
  | with_reducible refine i_lstW ?_
  | ((with_reducible refine' i_gList ?e ?n ?_); (case e => rfl); (case n => rfl))
  | with_reducible refine i_listRgH ?_
  | with_reducible refine i_listRg ?_
  | with_reducible refine i_R1 ?_
  | with_reducible refine i_getD ?_
  | ((with_reducible refine' i_none ?k ?_); (case k => rfl))
  | walk_at "dn")
local macro_rules | `(tactic| walk_at "dl") => `(tactic| ((try walk_at "dn"); repeat walk_at "d1"))
/-! generator 2: numbers mixed, cells, draws -/
theorem mulB {a b : Int} {m n : Nat} (ha : Builtin.Int.intBits a ≤ m) (hb : Builtin.Int.intBits b ≤ n) (h : m + n ≤ 134217728) : IntMulOk a b := IntMulOk.of_le ha hb h
theorem bits64 {k : Int} (h1 : -(2 ^ 64) < k) (h2 : k < 2 ^ 64) : Builtin.Int.intBits k ≤ 64 := intBits_le_64 h1 h2
theorem mulR {a b : Int} (h1 : -(2 ^ 64) < b) (h2 : b < 2 ^ 64) : IntMulOk a b := IntMulOk.of_right (intBits_le_64 h1 h2)
theorem mulL {a b : Int} (h1 : -(2 ^ 64) < a) (h2 : a < 2 ^ 64) : IntMulOk a b := IntMulOk.of_left (intBits_le_64 h1 h2)
theorem fmod_rng {a n : Int} (h : 0 < n) : 0 ≤ a.fmod n ∧ a.fmod n < n := ⟨Int.fmod_nonneg_of_pos a h, Int.fmod_lt_of_pos a h⟩
def Fit (a : Int) : Prop := Builtin.Int.intBits a ≤ 1048640
def C__law_mix : PC := fun ts Q => ∃ a k : Int, ts = [.int a, .int k] ∧ Fit a ∧ 0 ≤ k ∧ k ≤ 1000000 ∧ ∀ r : Int, 0 ≤ r → r < 2147483587 → Q (.t (.int r))
theorem ln__law_mix : ∀ ts Q, C__law_mix ts Q → ts.length = ["a", "b"].length := by rintro ts Q ⟨_, _, rfl, _⟩; rfl
def rd__law_mix : DSt :=
  dSeq (dAsg (d2 (fI (fun _ j => j ≠ 0) fun i j => .int (i.fmod j)) (d2 (fI IntMulOk fun i j => .int (i * j)) (d2 fAdd (d2 fAdd (d2 (fI IntMulOk fun i j => .int (i * j)) (dVar 0) (dVar 0)) (d2 (fI IntMulOk fun i j => .int (i * j)) (dVar 1) (dVar 0))) (d2 (fI IntMulOk fun i j => .int (i * j)) (d2 (fI IntMulOk fun i j => .int (i * j)) (dC (.int 7)) (dVar 1)) (dVar 1))) (dC (.int 1103515245))) (dC (.int 2147483629))) (dgN 2))
  (dRet (d2 (fI (fun _ j => j ≠ 0) fun i j => .int (i.fmod j)) (d2 (fI IntMulOk fun i j => .int (i * j)) (dVar 2) (dVar 2)) (dC (.int 2147483587))))

theorem rp__law_mix : ∀ ts Q, C__law_mix ts Q → rd__law_mix ⟨FinP Q (.t .non), FinP Q, fun _ => False, fun _ => False⟩ ⟨ts.map (fun t => some (W.t t)) ++ List.replicate (3 - ts.length) none, []⟩ := by
  rintro ts Q ⟨a, k, rfl, ha, hk0, hk1, hQ⟩
  unfold rd__law_mix
  walk_at "dl"
  refine i_fI (mulB ha ha (by decide)) ?_
  walk_at "dl"
  refine i_fI (mulL (by omega) (by omega)) ?_
  walk_at "dl"
  refine i_fI (mulL (by decide) (by decide)) ?_
  walk_at "dl"
  refine i_fI (mulR (by omega) (by omega)) ?_
  walk_at "dl"
  refine i_fI (mulR (by decide) (by decide)) ?_
  walk_at "dl"
  refine i_fI (by decide) ?_
  have r1 := fmod_rng (a := (a * a + k * a + 7 * k * k) * 1103515245) (n := 2147483629) (by decide)
  generalize ((a * a + k * a + 7 * k * k) * 1103515245).fmod 2147483629 = n1 at r1
  walk_at "dl"
  refine i_fI (mulL (by omega) (by omega)) ?_
  walk_at "dl"
  refine i_fI (by decide) ?_
  have r2 := fmod_rng (a := n1 * n1) (n := 2147483587) (by decide)
  walk_at "dl"
  exact hQ _ r2.1 r2.2
def C__law_cell_at : PC := fun ts Q => ∃ (ns : List Int) (k : Nat), ts = [.sq (ns.map T.int), .int k] ∧ (∀ z ∈ ns, Builtin.Int.intBits z ≤ 1048576) ∧ ∀ z : Int, Builtin.Int.intBits z ≤ 1048576 → Q (.t (.int z))
theorem ln__law_cell_at : ∀ ts Q, C__law_cell_at ts Q → ts.length = ["a", "b"].length := by rintro ts Q ⟨_, _, rfl, _⟩; rfl
def rd__law_cell_at : DSt :=
  dSeq (dIfS (dB (d2 (fI0 fun i j => .bl (decide (i < j))) (dVar 1) (dN fLen (dCons (dVar 0) (dNil))))) (dRet (d2 fIx (dVar 0) (dVar 1))) (dNext))
  (dRet (dC (.int 0)))

theorem rp__law_cell_at : ∀ ts Q, C__law_cell_at ts Q → rd__law_cell_at ⟨FinP Q (.t .non), FinP Q, fun _ => False, fun _ => False⟩ ⟨ts.map (fun t => some (W.t t)) ++ List.replicate (2 - ts.length) none, []⟩ := by
  rintro ts Q ⟨ns, k, rfl, hns, hQ⟩
  unfold rd__law_cell_at
  walk_at "dl"
  rw [List.length_map]
  refine k_d (fun h => ?_) (fun h => ?_)
  · have hk : k < ns.length := by omega
    have hc : atI (ns.map T.int) (k : Int) = some (.int ns[k]) := atI_map T.int (atI_nat (List.getElem?_eq_getElem hk))
    walk_at "dl"
    exact hQ _ (hns _ (List.getElem_mem hk))
  · walk_at "dl"
    exact hQ 0 (by decide)
def LeftOk (a f : Int) : Prop := Fit a ∧ (f = 0 ∨ (f = 1 ∧ 0 ≤ a))
def C__law_left : PC := fun ts Q => ∃ (ns : List Int) (k : Nat), ts = [.sq (ns.map T.int), .int k] ∧ (∀ z ∈ ns, Builtin.Int.intBits z ≤ 1048576) ∧ ∀ a f : Int, LeftOk a f → Q (.f (.lt [.int a, .int f, .int 0]))
theorem ln__law_left : ∀ ts Q, C__law_left ts Q → ts.length = ["a", "b"].length := by rintro ts Q ⟨_, _, rfl, _⟩; rfl
def rd__law_left : DSt :=
  dSeq (dAsg (dCallT C__law_cell_at (dCons (dVar 0) (dCons (dVar 1) (dNil)))) (dgN 2))
  (dSeq (dIfS (dB (d2 (fI0 fun i j => .bl (decide (i < j))) (dVar 2) (d2 (fI CPow fun i j => .int (i ^ j.toNat)) (dC (.int 10)) (dC (.int 18))))) (dRet (dLstH (dCons (dVar 2) (dCons (dC (.int 0)) (dCons (dC (.int 0)) (dNil)))))) (dNext))
  (dRet (dLstH (dCons (d2 (fI0 fun i j => .int (i - j)) (dVar 2) (d2 (fI CPow fun i j => .int (i ^ j.toNat)) (dC (.int 10)) (dC (.int 18)))) (dCons (dC (.int 1)) (dCons (dC (.int 0)) (dNil)))))))

theorem rp__law_left : ∀ ts Q, C__law_left ts Q → rd__law_left ⟨FinP Q (.t .non), FinP Q, fun _ => False, fun _ => False⟩ ⟨ts.map (fun t => some (W.t t)) ++ List.replicate (3 - ts.length) none, []⟩ := by
  rintro ts Q ⟨ns, k, rfl, hns, hQ⟩
  unfold rd__law_left
  walk_at "dl"
  refine ⟨ns, k, rfl, hns, fun z hz => ?_⟩
  walk_at "dl"
  refine i_fI (by unfold CPow; decide) ?_
  walk_at "dl"
  refine k_d (fun h => ?_) (fun h => ?_)
  · walk_at "dl"
    refine ⟨by decide, ?_⟩
    walk_at "dl"
    exact hQ z 0 ⟨Nat.le_trans hz (by decide), .inl rfl⟩
  · walk_at "dl"
    refine i_fI (by unfold CPow; decide) ?_
    walk_at "dl"
    refine ⟨by decide, ?_⟩
    walk_at "dl"
    have hb := intBits_sub_le hz (bits64 (k := 10 ^ 18) (by decide) (by decide))
    refine hQ _ 1 ⟨Nat.le_trans hb (by decide), .inr ⟨rfl, ?_⟩⟩
    have : ¬ z < 10 ^ 18 := h
    show 0 ≤ z - 10 ^ 18
    omega
/-! a draw -/
def leftC (a f k : Int) : Cell := .lt [.int a, .int f, .int k]
def C__law_draw : SC := fun ws m QC => ∃ (base a f : Int) (k : Nat), ws = [.h 0, .t (.int base)] ∧ m = [leftC a f k] ∧ LeftOk a f ∧ k ≤ 100000 ∧ 0 < base ∧ base < 1000000 ∧
  ∀ r a' : Int, 0 ≤ r → r < base → LeftOk a' f → QC (.t (.int r)) [leftC a' f ((k + 1 : Nat) : Int)] []
theorem ln__law_draw : ∀ ws m Q, C__law_draw ws m Q → ws.length = ["a", "b"].length := by rintro ws m Q ⟨_, _, _, _, rfl, _⟩; rfl
def rd__law_draw : DSt :=
  dSeq (dAsg (d2 fAdd (d2 fIx (dVar 0) (dC (.int 2))) (dC (.int 1))) (dgSub (dVar 0) (dC (.int 2))))
  (dSeq (dIfS (dB (d2 (fEq false) (d2 fIx (dVar 0) (dC (.int 1))) (dC (.int 0)))) (dSeq (dAsg (dCallT C__law_mix (dCons (d2 fIx (dVar 0) (dC (.int 0))) (dCons (d2 fIx (dVar 0) (dC (.int 2))) (dNil)))) (dgN 2))
  (dRet (d2 (fI (fun _ j => j ≠ 0) fun i j => .int (i.fmod j)) (d2 (fI (fun _ j => j ≠ 0) fun i j => .int (i.fmod j)) (d2 (fI IntMulOk fun i j => .int (i * j)) (dVar 2) (d2 fAdd (dVar 2) (dC (.int 2)))) (dC (.int 2147483579))) (dVar 1)))) (dNext))
  (dSeq (dAsg (d2 (fI (fun _ j => j ≠ 0) fun i j => .int (i.fmod j)) (d2 fIx (dVar 0) (dC (.int 0))) (dVar 1)) (dgN 3))
  (dSeq (dAsg (d2 (fI CDivN fun i j => .int (i.fdiv j)) (d2 fIx (dVar 0) (dC (.int 0))) (dVar 1)) (dgSub (dVar 0) (dC (.int 0))))
  (dRet (dVar 3)))))

theorem fin_one {QC : W → List Cell → List Cell → Prop} {x : T} {c : Cell} {sl : List (Option W)} {mem : Sto} (hp : c.plain = true) (q : QC (.t x) [c] []) : FinS 1 QC (.t x) ⟨sl, some c :: mem⟩ := by
  refine fin_s [] [c] [] (.t x) (by decide) ?_ rfl rfl rfl ?_ q
  · intro j hj
    have : j = 0 := by simpa using hj
    subst this
    show 0 < (some c :: mem).length
    simp
  · intro i c' e
    match i, e with
    | 0, e => cases e; exact ⟨0, _, rfl, up_plain hp _, rfl⟩
    | i + 1, e => simp at e
theorem rp__law_draw : ∀ ws m QC, C__law_draw ws m QC → rd__law_draw ⟨FinS m.length QC (.t .non), FinS m.length QC, fun _ => False, fun _ => False⟩ ⟨ws.map some ++ List.replicate (4 - ws.length) none, m.map some⟩ := by
  rintro ws m QC ⟨base, a, f, k, rfl, rfl, hL, hk, hb0, hb1, hQ⟩
  unfold rd__law_draw leftC
  walk_at "dl"
  refine o_put rfl (ixN_nat (n := 3) (k := 2) (by decide)) ?_
  walk_at "dl"
  refine k_d (fun hf => ?_) (fun hf => ?_)
  · walk_at "dl"
    refine ⟨a, _, rfl, hL.1, by omega, by omega, fun r r0 r1 => ?_⟩
    walk_at "dl"
    refine i_fI (mulL (by omega) (by omega)) ?_
    walk_at "dl"
    refine i_fI (by decide) ?_
    walk_at "dl"
    refine i_fI (by omega) ?_
    have hr := fmod_rng (a := (r * (r + 2)).fmod 2147483579) hb0
    walk_at "dl"
    have q := hQ _ a hr.1 hr.2 hL
    rw [show ((k + 1 : Nat) : Int) = (k : Int) + 1 by omega] at q
    exact fin_one rfl q
  · walk_at "dl"
    refine i_fI (by omega) ?_
    have hr := fmod_rng (a := a) hb0
    walk_at "dl"
    refine i_fI ⟨by omega, by omega⟩ ?_
    walk_at "dl"
    refine o_put rfl (ixN_nat (n := 3) (k := 0) (by decide)) ?_
    walk_at "dl"
    have ha : f = 1 ∧ 0 ≤ a := by
      rcases hL.2 with h | h
      · exact absurd h hf
      · exact h
    have q := hQ _ (a.fdiv base) hr.1 hr.2 ⟨intBits_fdiv_le hL.1, .inr ⟨ha.1, Int.fdiv_nonneg ha.2 (by omega)⟩⟩
    rw [show ((k + 1 : Nat) : Int) = (k : Int) + 1 by omega] at q
    exact fin_one rfl q

end DL

namespace DL
open PySem PySem.Spec L2
local macro_rules | `(tactic| walk_at "dn") => `(tactic| simp only [purse_set2, purse_set3, purse_set4, purse_set5, purse_app, purse_len, purse_start, purse_l, G.set, G.put, G.push, G.wipe, wipeW, G.rs, rsW, List.set_cons_zero, List.set_cons_succ, List.map_cons, List.map_nil, List.length_cons, List.length_nil, List.nil_append, List.cons_append, List.replicate_succ, List.replicate_zero, Nat.reduceAdd, Nat.reduceSub, List.getD_cons_zero, List.getD_cons_succ, Option.getD_some, Option.getD_none])
local macro_rules | `(tactic| walk_at "d1") => `(tactic| first
  | with_reducible refine i_seq ?_
  | with_reducible refine i_asg ?_
  | with_reducible refine i_d2 ?_
  | ((with_reducible refine' i_var ?e ?_); (case e => rfl))
  | with_reducible refine i_c ?_
  | ((with_reducible refine' i_ix ?e ?v ?_); (case e => rfl); (case v => first | assumption | rfl))
  | with_reducible refine i_fI0 ?_
  | with_reducible refine i_gN ?_
  | with_reducible refine i_cons ?_
  | with_reducible refine i_nil ?_
  | with_reducible refine i_dN ?_
  | ((with_reducible refine' i_len ?e ?_); (case e => rfl))
  | with_reducible refine i_d1 ?_
  | with_reducible refine i_neg ?_
  | with_reducible refine i_B ?_
  | with_reducible refine o_B ?_
  | with_reducible refine o_I ?_
  | with_reducible refine i_ifS ?_
  | with_reducible refine i_or ?_
  | with_reducible refine i_and ?_
  | with_reducible refine i_not ?_
  | with_reducible refine i_andV ?_
  | with_reducible refine i_orV ?_
  | with_reducible refine i_notV ?_
  | with_reducible refine i_if ?_
  | with_reducible refine i_yes ?_
  | with_reducible refine k_T ?_
  | with_reducible refine k_F ?_
  | with_reducible refine k_True ?_
  | with_reducible refine k_False ?_
  | with_reducible refine i_eqI ?_
  | with_reducible refine i_neI ?_
  | with_reducible refine i_addI ?_
  | with_reducible refine i_addHI ?_
  | with_reducible refine i_callT ?_
  | with_reducible refine i_callH ?_
  | ((with_reducible refine' o_Ts ?e ?_); (case e => rfl))
  | with_reducible refine o_T ?_
  | ((with_reducible refine' o_TF ?e ?_); (case e => rfl))
  | with_reducible refine o_H ?_
  | ((with_reducible refine' o_HF ?e ?_); (case e => rfl))
  | with_reducible refine i_next ?_
  | with_reducible refine i_drop ?_
  | with_reducible refine i_ret ?_
  | with_reducible refine i_retN ?_
  | ((with_reducible refine' i_gTup ?e ?_); (case e => rfl))
  | with_reducible refine i_gCons ?_
  | with_reducible refine i_gNil ?_
  | with_reducible refine i_min2 ?_
  | with_reducible refine i_max2 ?_
  | with_reducible refine i_par ?_
  | with_reducible refine o_W2 ?_
  | ((with_reducible refine' i_aug ?e ?_); (case e => rfl))
  | with_reducible refine i_intI ?_
  | with_reducible refine i_intB ?_
  | with_reducible refine i_lc ?_
  | with_reducible refine i_for ?_
  | with_reducible refine i_while ?_
  | with_reducible refine i_itL ?_
  | ((with_reducible refine' o_Lq ?e ?_); (case e => rfl))
  | with_reducible refine i_itR1 ?_
  | with_reducible refine i_itR2 ?_
  | with_reducible refine o_I1 ?_
  | with_reducible refine o_I2 ?_
  | with_reducible refine e_t ?_
  | ((with_reducible refine' e_h ?e ?p ?_); (case e => rfl); (case p => rfl))
  | with_reducible refine i_M ?_
  | with_reducible refine i_M0 ?_
  | with_reducible refine i_gSub ?_
  | with_reducible refine i_finH ?_
  | with_reducible refine i_finT ?_
  | with_reducible refine i_sl ?_
  | with_reducible refine i_slH ?_
  | with_reducible refine i_slT ?_
  | with_reducible refine i_noPart ?_
  | with_reducible refine i_part ?_
  | ((with_reducible refine' i_frzT ?e ?_); (case e => rfl))
  | ((with_reducible refine' i_frzH ?e ?m ?t ?_); (case e => rfl); (case m => rfl); (case t => rfl))
  | ((with_reducible refine' i_din ?k ?e ?_); (case k => rfl); (case e => rfl))
  | ((with_reducible refine' i_dnotin ?k ?e ?_); (case k => rfl); (case e => rfl))
  | with_reducible refine i_dput ?_
  | with_reducible refine i_newD ?_
  | with_reducible refine i_lstH ?_
  | with_reducible refine i_lst ?_
  | with_reducible refine i_tup ?_
  | with_reducible refine i_break ?_
  | with_reducible refine i_cont ?_
  | with_reducible refine i_callS ?_
  | ((with_reducible refine' i_ixHW ?e ?v ?_); (case e => first | rfl | assumption); (case v => first | assumption | rfl))
  | ((with_reducible refine' i_ixHT ?e ?v ?_); (case e => first | rfl | assumption); (case v => first | assumption | rfl))
  | ((with_reducible refine' i_lenHT ?e ?_); (case e => first | rfl | assumption))
  | ((with_reducible refine' i_lenHW ?e ?_); (case e => first | rfl | assumption))
  | ((with_reducible refine' i_frzH ?e ?m ?t ?_); (case e => rfl); (case m => rfl); (case t => rfl))
  | ((with_reducible refine' i_unw ?e ?n ?_); (case e => rfl); (case n => rfl))
  | with_reducible refine i_gwCons ?_
  | with_reducible refine i_gwNil ?_
  | with_reducible refine i_lstW ?_
  | ((with_reducible refine' i_gList ?e ?n ?_); (case e => rfl); (case n => rfl))
  | with_reducible refine i_listRgH ?_
  | with_reducible refine i_listRg ?_
  | with_reducible refine i_R1 ?_
  | with_reducible refine i_getD ?_
  | ((with_reducible refine' i_none ?k ?_); (case k => rfl))
  | walk_at "dn")
local macro_rules | `(tactic| walk_at "dl") => `(tactic| ((try walk_at "dn"); repeat walk_at "d1"))
/-! generator 2: a part grown by new places and rows -/
structure G2 (n : Nat) (E : List (Nat × Nat)) : Prop where
  lo : 2 ≤ n
  ne : 1 ≤ E.length
  inr : ∀ ab ∈ E, ab.1 < n ∧ ab.2 < n ∧ ab.1 ≠ 1
  fw : ∀ q, q < n → Pth E 0 q
  bw : ∀ q, q < n → Pth E q 1
def bump (k x : Nat) : Nat := if k ≤ x then x + 1 else x
theorem pth_sub {E F : List (Nat × Nat)} (h : ∀ ab ∈ E, Pth F ab.1 ab.2) {a b : Nat} (p : Pth E a b) : Pth F a b := by
  induction p with
  | refl => exact .refl _
  | step _ e ih => exact ih.trans (h _ e)
theorem pth_one {E : List (Nat × Nat)} {a b : Nat} (h : (a, b) ∈ E) : Pth E a b := .step (.refl _) h
theorem g2_start : G2 2 [(0, 1)] := by
  refine ⟨by decide, by decide, fun ab h => by simp at h; subst h; decide, fun q hq => ?_, fun q hq => ?_⟩
  · match q, hq with
    | 0, _ => exact .refl _
    | 1, _ => exact pth_one (by simp)
  · match q, hq with
    | 0, _ => exact pth_one (by simp)
    | 1, _ => exact .refl _
theorem G2.row {n : Nat} {E : List (Nat × Nat)} (h : G2 n E) {a b : Nat} (ha : a < n) (hb : b < n) (h1 : a ≠ 1) : G2 n (E ++ [(a, b)]) := by
  have hs : ∀ {x y}, Pth E x y → Pth (E ++ [(a, b)]) x y := fun p => pth_sub (fun ab hab => pth_one (List.mem_append_left _ hab)) p
  refine ⟨h.lo, by rw [List.length_append]; have := h.ne; omega, fun ab hab => ?_, fun q hq => hs (h.fw q hq), fun q hq => hs (h.bw q hq)⟩
  rcases List.mem_append.mp hab with hab | hab
  · exact h.inr ab hab
  · simp at hab
    subst hab
    exact ⟨ha, hb, h1⟩
theorem pth_map {E : List (Nat × Nat)} (f : Nat → Nat) {a b : Nat} (p : Pth E a b) : Pth (E.map fun ab => (f ab.1, f ab.2)) (f a) (f b) := by
  induction p with
  | refl => exact .refl _
  | step _ e ih => exact .step ih (List.mem_map.mpr ⟨_, e, rfl⟩)
theorem bump_onto {k n x : Nat} (hk : k ≤ n) (hx : x < n + 1) (hne : x ≠ k) : ∃ y, y < n ∧ bump k y = x := by
  by_cases h : x < k
  · exact ⟨x, by omega, by unfold bump; rw [if_neg (by omega)]⟩
  · exact ⟨x - 1, by omega, by unfold bump; rw [if_pos (by omega)]; omega⟩
theorem G2.split {n : Nat} {E : List (Nat × Nat)} (h : G2 n E) {k j : Nat} {ab : Nat × Nat} (hk2 : 2 ≤ k) (hkn : k ≤ n) (hj : E[j]? = some ab) :
    G2 (n + 1) (((E.map fun ab => (bump k ab.1, bump k ab.2)) ++ [(k, bump k ab.2)]).set j (bump k ab.1, k)) := by
  have hlt : ∀ x, x < n → bump k x < n + 1 := fun x hx => by unfold bump; split <;> omega
  have h0 : bump k 0 = 0 := by unfold bump; rw [if_neg (by omega)]
  have h1 : bump k 1 = 1 := by unfold bump; rw [if_neg (by omega)]
  have hjl : j < E.length := (List.getElem?_eq_some_iff.mp hj).1
  have hab := h.inr ab (List.mem_of_getElem? hj)
  have hne1 : ∀ x, x ≠ 1 → bump k x ≠ 1 := fun x hx => by unfold bump; split <;> omega
  generalize hM : (E.map fun ab => (bump k ab.1, bump k ab.2)) = M
  have hMl : M.length = E.length := by rw [← hM, List.length_map]
  have hMj : M[j]? = some (bump k ab.1, bump k ab.2) := by rw [← hM, List.getElem?_map, hj]; rfl
  generalize hF : (M ++ [(k, bump k ab.2)]).set j (bump k ab.1, k) = F
  have f1 : (bump k ab.1, k) ∈ F := by
    rw [← hF]
    exact List.mem_of_getElem? (List.getElem?_set_self (by rw [List.length_append]; omega))
  have f2 : (k, bump k ab.2) ∈ F := by
    rw [← hF]
    refine List.mem_of_getElem? (i := M.length) ?_
    rw [List.getElem?_set_ne (by omega), List.getElem?_append_right (Nat.le_refl _), Nat.sub_self]
    rfl
  have f3 : ∀ cd ∈ M, Pth F cd.1 cd.2 := fun cd hcd => by
    obtain ⟨i, hi⟩ := List.getElem?_of_mem hcd
    by_cases e : i = j
    · subst e
      rw [hMj] at hi
      cases hi
      exact .step (pth_one f1) f2
    · refine pth_one ?_
      rw [← hF]
      refine List.mem_of_getElem? (i := i) ?_
      have := (List.getElem?_eq_some_iff.mp hi).1
      rw [List.getElem?_set_ne (fun z => e z.symm), List.getElem?_append_left this]
      exact hi
  have hp : ∀ {x y}, Pth E x y → Pth F (bump k x) (bump k y) := fun p => pth_sub f3 (by rw [← hM]; exact pth_map (bump k) p)
  refine ⟨by have := h.lo; omega, ?_, fun cd hcd => ?_, fun q hq => ?_, fun q hq => ?_⟩
  · rw [← hF, List.length_set, List.length_append]
    show 1 ≤ M.length + 1
    omega
  · rw [← hF] at hcd
    rcases List.mem_or_eq_of_mem_set hcd with hcd | hcd
    · rcases List.mem_append.mp hcd with hcd | hcd
      · rw [← hM] at hcd
        obtain ⟨z, hz, rfl⟩ := List.mem_map.mp hcd
        obtain ⟨z1, z2, z3⟩ := h.inr z hz
        exact ⟨hlt _ z1, hlt _ z2, hne1 _ z3⟩
      · simp at hcd
        subst hcd
        exact ⟨by show k < n + 1; omega, hlt _ hab.2.1, by show k ≠ 1; omega⟩
    · subst hcd
      exact ⟨hlt _ hab.1, by show k < n + 1; omega, hne1 _ hab.2.2⟩
  · by_cases e : q = k
    · subst e
      have := hp (h.fw ab.1 hab.1)
      rw [h0] at this
      exact .step this f1
    · obtain ⟨y, hy, rfl⟩ := bump_onto hkn hq e
      have := hp (h.fw y hy)
      rw [h0] at this
      exact this
  · by_cases e : q = k
    · subst e
      have := hp (h.bw ab.2 hab.2.1)
      rw [h1] at this
      exact (pth_one f2).trans this
    · obtain ⟨y, hy, rfl⟩ := bump_onto hkn hq e
      have := hp (h.bw y hy)
      rw [h1] at this
      exact this
theorem G2.spec {n : Nat} {E : List (Nat × Nat)} (h : G2 n E) (hn : n ≤ 16) : PartSpec false n E := ⟨h.lo, hn, h.inr, h.fw, h.bw, fun z => by cases z⟩

end DL

namespace DL
open PySem PySem.Spec L2
local macro_rules | `(tactic| walk_at "dn") => `(tactic| simp only [purse_set2, purse_set3, purse_set4, purse_set5, purse_app, purse_len, purse_start, purse_l, G.set, G.put, G.push, G.wipe, wipeW, G.rs, rsW, List.set_cons_zero, List.set_cons_succ, List.map_cons, List.map_nil, List.length_cons, List.length_nil, List.nil_append, List.cons_append, List.replicate_succ, List.replicate_zero, Nat.reduceAdd, Nat.reduceSub, List.getD_cons_zero, List.getD_cons_succ, Option.getD_some, Option.getD_none])
local macro_rules | `(tactic| walk_at "d1") => `(tactic| first
  | with_reducible refine i_seq ?_
  | with_reducible refine i_asg ?_
  | with_reducible refine i_d2 ?_
  | ((with_reducible refine' i_var ?e ?_); (case e => rfl))
  | with_reducible refine i_c ?_
  | ((with_reducible refine' i_ix ?e ?v ?_); (case e => rfl); (case v => first | assumption | rfl))
  | with_reducible refine i_fI0 ?_
  | with_reducible refine i_gN ?_
  | with_reducible refine i_cons ?_
  | with_reducible refine i_nil ?_
  | with_reducible refine i_dN ?_
  | ((with_reducible refine' i_len ?e ?_); (case e => rfl))
  | with_reducible refine i_d1 ?_
  | with_reducible refine i_neg ?_
  | with_reducible refine i_B ?_
  | with_reducible refine o_B ?_
  | with_reducible refine o_I ?_
  | with_reducible refine i_ifS ?_
  | with_reducible refine i_or ?_
  | with_reducible refine i_and ?_
  | with_reducible refine i_not ?_
  | with_reducible refine i_andV ?_
  | with_reducible refine i_orV ?_
  | with_reducible refine i_notV ?_
  | with_reducible refine i_if ?_
  | with_reducible refine i_yes ?_
  | with_reducible refine k_T ?_
  | with_reducible refine k_F ?_
  | with_reducible refine k_True ?_
  | with_reducible refine k_False ?_
  | with_reducible refine i_eqI ?_
  | with_reducible refine i_neI ?_
  | with_reducible refine i_addI ?_
  | with_reducible refine i_addHI ?_
  | with_reducible refine i_callT ?_
  | with_reducible refine i_callH ?_
  | ((with_reducible refine' o_Ts ?e ?_); (case e => rfl))
  | with_reducible refine o_T ?_
  | ((with_reducible refine' o_TF ?e ?_); (case e => rfl))
  | with_reducible refine o_H ?_
  | ((with_reducible refine' o_HF ?e ?_); (case e => rfl))
  | with_reducible refine i_next ?_
  | with_reducible refine i_drop ?_
  | with_reducible refine i_ret ?_
  | with_reducible refine i_retN ?_
  | ((with_reducible refine' i_gTup ?e ?_); (case e => rfl))
  | with_reducible refine i_gCons ?_
  | with_reducible refine i_gNil ?_
  | with_reducible refine i_min2 ?_
  | with_reducible refine i_max2 ?_
  | with_reducible refine i_par ?_
  | with_reducible refine o_W2 ?_
  | ((with_reducible refine' i_aug ?e ?_); (case e => rfl))
  | with_reducible refine i_intI ?_
  | with_reducible refine i_intB ?_
  | with_reducible refine i_lc ?_
  | with_reducible refine i_for ?_
  | with_reducible refine i_while ?_
  | with_reducible refine i_itL ?_
  | ((with_reducible refine' o_Lq ?e ?_); (case e => rfl))
  | with_reducible refine i_itR1 ?_
  | with_reducible refine i_itR2 ?_
  | with_reducible refine o_I1 ?_
  | with_reducible refine o_I2 ?_
  | with_reducible refine e_t ?_
  | ((with_reducible refine' e_h ?e ?p ?_); (case e => rfl); (case p => rfl))
  | with_reducible refine i_M ?_
  | with_reducible refine i_M0 ?_
  | with_reducible refine i_gSub ?_
  | with_reducible refine i_finH ?_
  | with_reducible refine i_finT ?_
  | with_reducible refine i_sl ?_
  | with_reducible refine i_slH ?_
  | with_reducible refine i_slT ?_
  | with_reducible refine i_noPart ?_
  | with_reducible refine i_part ?_
  | ((with_reducible refine' i_frzT ?e ?_); (case e => rfl))
  | ((with_reducible refine' i_frzH ?e ?m ?t ?_); (case e => rfl); (case m => rfl); (case t => rfl))
  | ((with_reducible refine' i_din ?k ?e ?_); (case k => rfl); (case e => rfl))
  | ((with_reducible refine' i_dnotin ?k ?e ?_); (case k => rfl); (case e => rfl))
  | with_reducible refine i_dput ?_
  | with_reducible refine i_newD ?_
  | with_reducible refine i_lstH ?_
  | with_reducible refine i_lst ?_
  | with_reducible refine i_tup ?_
  | with_reducible refine i_break ?_
  | with_reducible refine i_cont ?_
  | with_reducible refine i_callS ?_
  | ((with_reducible refine' i_ixHW ?e ?v ?_); (case e => first | rfl | assumption); (case v => first | assumption | rfl))
  | ((with_reducible refine' i_ixHT ?e ?v ?_); (case e => first | rfl | assumption); (case v => first | assumption | rfl))
  | ((with_reducible refine' i_lenHT ?e ?_); (case e => first | rfl | assumption))
  | ((with_reducible refine' i_lenHW ?e ?_); (case e => first | rfl | assumption))
  | ((with_reducible refine' i_frzH ?e ?m ?t ?_); (case e => rfl); (case m => rfl); (case t => rfl))
  | ((with_reducible refine' i_unw ?e ?n ?_); (case e => rfl); (case n => rfl))
  | with_reducible refine i_gwCons ?_
  | with_reducible refine i_gwNil ?_
  | with_reducible refine i_lstW ?_
  | ((with_reducible refine' i_gList ?e ?n ?_); (case e => rfl); (case n => rfl))
  | with_reducible refine i_listRgH ?_
  | with_reducible refine i_listRg ?_
  | with_reducible refine i_R1 ?_
  | with_reducible refine i_getD ?_
  | ((with_reducible refine' i_none ?k ?_); (case k => rfl))
  | walk_at "dn")
local macro_rules | `(tactic| walk_at "dl") => `(tactic| ((try walk_at "dn"); repeat walk_at "d1"))
/-! generator 2: _law_part -/
theorem callS_drawJ {j : Nat} {base a f : Int} {k : Nat} {sl : List (Option W)} {mem : Sto} {Q : W → G → Prop} (em : mem[j]? = some (some (leftC a f k))) (hL : LeftOk a f) (hk : k ≤ 100000) (h0 : 0 < base) (h1 : base < 1000000)
    (h : ∀ r a' : Int, 0 ≤ r → r < base → LeftOk a' f → Q (.t (.int r)) ⟨sl, mem.set j (some (leftC a' f ((k + 1 : Nat) : Int)))⟩) : callS C__law_draw [.h j, .t (.int base)] ⟨sl, mem⟩ Q := by
  refine ⟨[j], [leftC a f k], [.h 0, .t (.int base)], by simp, rfl, rfl, fun i c e => ?_, base, a, f, k, rfl, rfl, hL, hk, h0, h1, fun r a' r0 r1 hL' => ⟨.t (.int r), [leftC a' f ((k + 1 : Nat) : Int)], [], rfl, rfl, rfl, ?_⟩⟩
  · match i, e with
    | 0, e => cases e; exact ⟨j, _, rfl, rfl, em⟩
    | i + 1, e => simp at e
  · rw [List.map_nil, List.append_nil]
    exact h r a' r0 r1 hL'
theorem callS_draw0 {base a f : Int} {k : Nat} {sl : List (Option W)} {mem : Sto} {Q : W → G → Prop} (hL : LeftOk a f) (hk : k ≤ 100000) (h0 : 0 < base) (h1 : base < 1000000)
    (h : ∀ r a' : Int, 0 ≤ r → r < base → LeftOk a' f → Q (.t (.int r)) ⟨sl, some (leftC a' f ((k + 1 : Nat) : Int)) :: mem⟩) : callS C__law_draw [.h 0, .t (.int base)] ⟨sl, some (leftC a f k) :: mem⟩ Q :=
  callS_drawJ rfl hL hk h0 h1 h
def tupT (ab : Nat × Nat) : T := .tup [.int ab.1, .int ab.2]
theorem tup_at {E : List (Nat × Nat)} {j : Nat} {ab : Nat × Nat} (h : E[j]? = some ab) : atI (E.map tupT) (j : Int) = some (tupT ab) := atI_map tupT (atI_nat h)
theorem bumpI (k x : Nat) : ((bump k x : Nat) : Int) = (x : Int) + (if decide ((k : Int) ≤ x) = true then 1 else 0) := by
  unfold bump
  by_cases h : k ≤ x
  · rw [if_pos h, if_pos (decide_eq_true (by omega))]
    omega
  · rw [if_neg h, if_neg (fun z => h (by have := of_decide_eq_true z; omega))]
    omega
theorem getLt {α : Type} {xs : List α} {j : Nat} (h : j < xs.length) : ∃ x, xs[j]? = some x := ⟨_, List.getElem?_eq_getElem h⟩
theorem toI {i : Int} (h : 0 ≤ i) : ∃ n : Nat, i = (n : Int) := Int.eq_ofNat_of_zero_le h
/-- a loop by an invariant of the turn -/
theorem forR {D : De} {g1 : G} {gt : DGt} {tb : DSt} {ws : List W} {St : G → Prop} {ι : Type} (items : List ι) (enc : ι → W) (I : Nat → G → Prop) (hws : ws = items.map enc) (h0 : I 0 g1) (hSt : ∀ i g, I i g → St g)
    (hstep : ∀ i x, items[i]? = some x → ∀ g', I i g' → ∀ N : G → Prop, (∀ g'', I (i + 1) g'' → N g'') → gt (enc x) g' fun g2 => tb { D with nx := N, ct := N, bk := D.nx } g2)
    (hQ : ∀ g', I items.length g' → D.nx g') : forI ws St g1 gt tb D := by
  subst hws
  refine ⟨I, h0, hSt, fun i w g' hw h => ?_, fun g' h => hQ g' (by rw [List.length_map] at h; exact h)⟩
  rw [List.getElem?_map] at hw
  cases e : items[i]? with
  | none => rw [e] at hw; cases hw
  | some x =>
    rw [e] at hw
    cases hw
    exact hstep i x e g' h _ fun g'' h'' => h''
def C__law_part : SC := fun ws m QC => ∃ (most k : Nat) (a f : Int), ws = [.h 0, .t (.int most)] ∧ m = [leftC a f k] ∧ LeftOk a f ∧ k ≤ 50000 ∧ most ≤ 14 ∧
  ∀ (n : Nat) (E : List (Nat × Nat)) (a' : Int) (k' : Nat), G2 n E → n ≤ most + 2 → E.length ≤ most + 1 → LeftOk a' f → k' ≤ k + 100 → QC (.t (.tup [.int n, .lst (E.map tupT)])) [leftC a' f k'] []
theorem ln__law_part : ∀ ws m Q, C__law_part ws m Q → ws.length = ["a", "b"].length := by rintro ws m Q ⟨_, _, _, _, rfl, _⟩; rfl
def rd__law_part : DSt :=
  dSeq (dAsg (dC (.int 2)) (dgN 2))
  (dSeq (dAsg (dLstH (dCons (dTup (dCons (dC (.int 0)) (dCons (dC (.int 1)) (dNil)))) (dNil))) (dgN 3))
  (dSeq (dFor (diR1 (dCons (dCallS C__law_draw (dCons (dVar 0) (dCons (d2 fAdd (dVar 1) (dC (.int 1))) (dNil)))) (dNil))) (dgN 4) (dIfS (dB (d2 (fEq false) (dCallS C__law_draw (dCons (dVar 0) (dCons (dC (.int 2)) (dNil)))) (dC (.int 0)))) (dSeq (dAsg (dCallS C__law_draw (dCons (dVar 0) (dCons (dN fLen (dCons (dVar 3) (dNil))) (dNil)))) (dgN 5))
  (dSeq (dAsg (d2 fAdd (dC (.int 2)) (dCallS C__law_draw (dCons (dVar 0) (dCons (d2 (fI0 fun i j => .int (i - j)) (dVar 2) (dC (.int 1))) (dNil))))) (dgN 6))
  (dSeq (dAsg (dLc finH (diL (dVar 3)) (dgTup 2 (dgCons (dgN 8) (dgCons (dgN 9) (dgNil)))) (dYes) (dTup (dCons (d2 fAdd (dVar 8) (dN fInt (dCons (d2 (fI0 fun i j => .bl (decide (j ≤ i))) (dVar 8) (dVar 6)) (dNil)))) (dCons (d2 fAdd (dVar 9) (dN fInt (dCons (d2 (fI0 fun i j => .bl (decide (j ≤ i))) (dVar 9) (dVar 6)) (dNil)))) (dNil)))) [8, 9]) (dgN 3))
  (dSeq (dDrop (dM fAppend (dVar 3) (dCons (dTup (dCons (dVar 6) (dCons (d2 fIx (d2 fIx (dVar 3) (dVar 5)) (dC (.int 1))) (dNil)))) (dNil))))
  (dSeq (dAsg (dTup (dCons (d2 fIx (d2 fIx (dVar 3) (dVar 5)) (dC (.int 0))) (dCons (dVar 6) (dNil)))) (dgSub (dVar 3) (dVar 5)))
  (dAsg (d2 fAdd (dVar 2) (dC (.int 1))) (dgN 2))))))) (dSeq (dAsg (dCallS C__law_draw (dCons (dVar 0) (dCons (d2 (fI0 fun i j => .int (i - j)) (dVar 2) (dC (.int 1))) (dNil)))) (dgN 7))
  (dDrop (dM fAppend (dVar 3) (dCons (dTup (dCons (d2 fAdd (dVar 7) (dN fInt (dCons (d2 (fI0 fun i j => .bl (decide (j < i))) (dVar 7) (dC (.int 0))) (dNil)))) (dCons (dCallS C__law_draw (dCons (dVar 0) (dCons (dVar 2) (dNil)))) (dNil)))) (dNil)))))))
  (dRet (dTup (dCons (dVar 2) (dCons (dFrz 3) (dNil)))))))

theorem rp__law_part : ∀ ws m QC, C__law_part ws m QC → rd__law_part ⟨FinS m.length QC (.t .non), FinS m.length QC, fun _ => False, fun _ => False⟩ ⟨ws.map some ++ List.replicate (10 - ws.length) none, m.map some⟩ := by
  rintro ws m QC ⟨most, k, a, f, rfl, rfl, hL, hk, hm, hQ⟩
  unfold rd__law_part
  walk_at "dl"
  refine ⟨by decide, ?_⟩
  walk_at "dl"
  refine ⟨by decide, ?_⟩
  walk_at "dl"
  refine callS_draw0 hL (by omega) (by omega) (by omega) fun d a1 d0 d1 hL1 => ?_
  obtain ⟨d, rfl⟩ := toI d0
  walk_at "dl"
  refine ⟨by omega, ?_⟩
  refine forR (List.range d) (fun k => W.t (.int (k : Nat))) (fun i g' => ∃ (n : Nat) (E : List (Nat × Nat)) (a' : Int) (k' t : Nat) (loc : Sto) (o4 o5 o6 o7 o8 o9 : Option W),
      g' = ⟨[some (.h 0), some (.t (.int most)), some (.t (.int n)), some (.h (t + 1)), o4, o5, o6, o7, o8, o9], some (leftC a' f k') :: loc⟩ ∧ loc[t]? = some (some (.lt (E.map tupT))) ∧ G2 n E ∧ n ≤ i + 2 ∧ E.length ≤ i + 1 ∧ LeftOk a' f ∧ k' ≤ k + 1 + 4 * i)
    (by rw [Int.toNat_natCast, rgW0]) ⟨2, [(0, 1)], a1, k + 1, 0, _, none, none, none, none, none, none, rfl, rfl, g2_start, by omega, by simp, hL1, by omega⟩ (fun _ _ _ => trivial) ?_ ?_
  · rintro i x hx g' ⟨n, E, a', k', t, loc, o4, o5, o6, o7, o8, o9, rfl, el, hG, hn, hE, hL', hk'⟩ N hN
    have hi : i < d := by simpa using (List.getElem?_eq_some_iff.mp hx).1
    rw [List.getElem?_range hi] at hx
    cases hx
    have hlo := hG.lo
    have hne := hG.ne
    have htl := (List.getElem?_eq_some_iff.mp el).1
    walk_at "dl"
    refine callS_draw0 hL' (by omega) (by omega) (by omega) fun r a2 r0 r1 hL2 => ?_
    walk_at "dl"
    refine k_d (fun hr => ?_) (fun hr => ?_)
    · walk_at "dl"
      rw [List.length_map]
      refine callS_draw0 hL2 (by omega) (by omega) (by omega) fun j a3 j0 j1 hL3 => ?_
      obtain ⟨j, rfl⟩ := toI j0
      walk_at "dl"
      refine callS_draw0 hL3 (by omega) (by omega) (by omega) fun v a4 v0 v1 hL4 => ?_
      obtain ⟨v, rfl⟩ := toI v0
      obtain ⟨⟨ea, eb⟩, hj⟩ := getLt (xs := E) (j := j) (by omega)
      have ek : (2 : Int) + v = ((2 + v : Nat) : Int) := by omega
      refine i_addI ?_
      rw [ek]
      generalize hkk : 2 + v = kk
      have hk2 : 2 ≤ kk := by omega
      have hkn : kk ≤ n := by omega
      walk_at "dl"
      refine o_LqH (us := E.map tupT) el ?_
      refine lcP E (fun ab => W.t (tupT ab)) (fun _ => true) (fun ab => tupT (bump kk ab.1, bump kk ab.2)) (by rw [List.map_map]; rfl) (lineLe (by omega)) (lq_h el) ?_ rfl ?_
      · rintro ⟨c, d'⟩ hcd Y N2 hY hN2
        unfold tupT at *
        walk_at "dl"
        refine ⟨by decide, ?_⟩
        have q := hY rfl
        simp only [bumpI] at q
        exact q _ rfl
      have hsp := hG.split hk2 hkn hj
      rw [List.filter_eq_self.mpr (fun _ _ => rfl), show (E.map fun ab => tupT (bump kk ab.1, bump kk ab.2)) = (E.map fun ab => (bump kk ab.1, bump kk ab.2)).map tupT by rw [List.map_map]; rfl]
      have hMl : (E.map fun ab => (bump kk ab.1, bump kk ab.2)).length = E.length := List.length_map _
      have hMj : (E.map fun ab => (bump kk ab.1, bump kk ab.2))[j]? = some (bump kk ea, bump kk eb) := by rw [List.getElem?_map, hj]; rfl
      generalize (E.map fun ab => (bump kk ab.1, bump kk ab.2)) = M at hsp hMl hMj
      walk_at "dl"
      have em : ∀ {c us}, (some c :: (loc ++ [some (Cell.lt us)]))[loc.length + 1]? = some (some (Cell.lt us)) := fun {c us} => by
        show (loc ++ [some (Cell.lt us)])[loc.length]? = _
        rw [List.getElem?_append_right (Nat.le_refl _), Nat.sub_self]
        rfl
      have eset : ∀ {c us v}, (some c :: (loc ++ [some (Cell.lt us)])).set (loc.length + 1) v = some c :: (loc ++ [v]) := fun {c us v} => by
        show some c :: (loc ++ [some (Cell.lt us)]).set loc.length v = _
        rw [List.set_append_right _ _ (Nat.le_refl _), Nat.sub_self]
        rfl
      have at1 := tup_at hMj
      have hjM : j < M.length := (List.getElem?_eq_some_iff.mp hMj).1
      refine ⟨isL_lt (us := M.map tupT) em, ?_⟩
      walk_at "dl"
      refine i_ixHT (us := M.map tupT) em at1 ?_
      unfold tupT at at1
      unfold tupT
      walk_at "dl"
      refine ⟨by decide, ?_⟩
      walk_at "dl"
      refine i_append em (lineLt (by rw [List.length_map]; omega)) ?_
      simp only [G.put]
      rw [eset]
      have eM : (M.map fun ab => T.tup [T.int ab.1, T.int ab.2]) ++ [T.tup [T.int kk, T.int (bump kk eb : Nat)]] = (M ++ [(kk, bump kk eb)]).map tupT := by rw [List.map_append]; rfl
      rw [eM]
      have at2 : atI ((M ++ [(kk, bump kk eb)]).map tupT) (j : Int) = some (.tup [.int (bump kk ea : Nat), .int (bump kk eb : Nat)]) := tup_at (ab := (bump kk ea, bump kk eb)) (by rw [List.getElem?_append_left hjM]; exact hMj)
      walk_at "dl"
      refine i_ixHT em at2 ?_
      walk_at "dl"
      refine ⟨by decide, ?_⟩
      walk_at "dl"
      refine o_put em (ixN_nat (by rw [List.length_map, List.length_append]; omega)) ?_
      simp only [G.put]
      rw [eset]
      have eb2 : ((M ++ [(kk, bump kk eb)]).map tupT).set j (.tup [.int (bump kk ea : Nat), .int kk]) = ((M ++ [(kk, bump kk eb)]).set j (bump kk ea, kk)).map tupT := by rw [List.map_set]; rfl
      rw [eb2]
      walk_at "dl"
      refine hN _ ⟨n + 1, (M ++ [(kk, bump kk eb)]).set j (bump kk ea, kk), a4, k' + 1 + 1 + 1, loc.length, _, _, _, _, _, _, _, rfl, ?_, hsp, by omega, by rw [List.length_set, List.length_append, List.length_singleton]; omega, hL4, by omega⟩
      rw [List.getElem?_append_right (Nat.le_refl _), Nat.sub_self]
      rfl
    · walk_at "dl"
      refine callS_draw0 hL2 (by omega) (by omega) (by omega) fun s a3 s0 s1 hL3 => ?_
      obtain ⟨s, rfl⟩ := toI s0
      walk_at "dl"
      refine ⟨isL_lt (us := E.map tupT) el, ?_⟩
      walk_at "dl"
      refine callS_draw0 hL3 (by omega) (by omega) (by omega) fun e a4 e0 e1 hL4 => ?_
      obtain ⟨e, rfl⟩ := toI e0
      walk_at "dl"
      refine ⟨by decide, ?_⟩
      walk_at "dl"
      refine i_append (us := E.map tupT) el (lineLt (by rw [List.length_map]; omega)) ?_
      have es : ∃ s' : Nat, (s : Int) + (if decide ((0 : Int) < s) = true then 1 else 0) = s' ∧ s' < n ∧ s' ≠ 1 := by
        by_cases h : 0 < s
        · exact ⟨s + 1, by rw [if_pos (decide_eq_true (by omega))]; omega, by omega, by omega⟩
        · exact ⟨0, by rw [if_neg (fun z => h (by have := of_decide_eq_true z; omega))]; omega, by omega, by decide⟩
      obtain ⟨s', hs', hs1, hs2⟩ := es
      rw [hs']
      have ea : E.map tupT ++ [T.tup [T.int s', T.int e]] = (E ++ [(s', e)]).map tupT := by rw [List.map_append]; rfl
      rw [ea]
      simp only [G.put]
      refine hN _ ⟨n, E ++ [(s', e)], a4, k' + 1 + 1 + 1, t, loc.set t (some (.lt ((E ++ [(s', e)]).map tupT))), _, _, _, _, _, _, rfl, ?_, hG.row hs1 (by omega) hs2, by omega, by rw [List.length_append, List.length_singleton]; omega, hL4, by omega⟩
      rw [List.getElem?_set_self htl]
  · rintro g' ⟨n, E, a', k', t, loc, o4, o5, o6, o7, o8, o9, rfl, el, hG, hn, hE, hL', hk'⟩
    rw [List.length_range] at hn hE hk'
    walk_at "dl"
    refine i_frzH (c := .lt (E.map tupT)) rfl el rfl ?_
    walk_at "dl"
    refine ⟨by decide, ?_⟩
    have q := hQ n E a' k' hG (by omega) (by omega) hL' (by omega)
    simp only [G.frz]
    exact fin_one rfl q

end DL

namespace DL
open PySem PySem.Spec L2
local macro_rules | `(tactic| walk_at "dn") => `(tactic| simp only [purse_set2, purse_set3, purse_set4, purse_set5, purse_app, purse_len, purse_start, purse_l, G.set, G.put, G.push, G.wipe, wipeW, G.rs, rsW, List.set_cons_zero, List.set_cons_succ, List.map_cons, List.map_nil, List.length_cons, List.length_nil, List.nil_append, List.cons_append, List.replicate_succ, List.replicate_zero, Nat.reduceAdd, Nat.reduceSub, List.getD_cons_zero, List.getD_cons_succ, Option.getD_some, Option.getD_none])
local macro_rules | `(tactic| walk_at "d1") => `(tactic| first
  | with_reducible refine i_seq ?_
  | with_reducible refine i_asg ?_
  | with_reducible refine i_d2 ?_
  | ((with_reducible refine' i_var ?e ?_); (case e => rfl))
  | with_reducible refine i_c ?_
  | ((with_reducible refine' i_ix ?e ?v ?_); (case e => rfl); (case v => first | assumption | rfl))
  | with_reducible refine i_fI0 ?_
  | with_reducible refine i_gN ?_
  | with_reducible refine i_cons ?_
  | with_reducible refine i_nil ?_
  | with_reducible refine i_dN ?_
  | ((with_reducible refine' i_len ?e ?_); (case e => rfl))
  | with_reducible refine i_d1 ?_
  | with_reducible refine i_neg ?_
  | with_reducible refine i_B ?_
  | with_reducible refine o_B ?_
  | with_reducible refine o_I ?_
  | with_reducible refine i_ifS ?_
  | with_reducible refine i_or ?_
  | with_reducible refine i_and ?_
  | with_reducible refine i_not ?_
  | with_reducible refine i_andV ?_
  | with_reducible refine i_orV ?_
  | with_reducible refine i_notV ?_
  | with_reducible refine i_if ?_
  | with_reducible refine i_yes ?_
  | with_reducible refine k_T ?_
  | with_reducible refine k_F ?_
  | with_reducible refine k_True ?_
  | with_reducible refine k_False ?_
  | with_reducible refine i_eqI ?_
  | with_reducible refine i_neI ?_
  | with_reducible refine i_addI ?_
  | with_reducible refine i_addHI ?_
  | with_reducible refine i_callT ?_
  | with_reducible refine i_callH ?_
  | ((with_reducible refine' o_Ts ?e ?_); (case e => rfl))
  | with_reducible refine o_T ?_
  | ((with_reducible refine' o_TF ?e ?_); (case e => rfl))
  | with_reducible refine o_H ?_
  | ((with_reducible refine' o_HF ?e ?_); (case e => rfl))
  | with_reducible refine i_next ?_
  | with_reducible refine i_drop ?_
  | with_reducible refine i_ret ?_
  | with_reducible refine i_retN ?_
  | ((with_reducible refine' i_gTup ?e ?_); (case e => rfl))
  | with_reducible refine i_gCons ?_
  | with_reducible refine i_gNil ?_
  | with_reducible refine i_min2 ?_
  | with_reducible refine i_max2 ?_
  | with_reducible refine i_par ?_
  | with_reducible refine o_W2 ?_
  | ((with_reducible refine' i_aug ?e ?_); (case e => rfl))
  | with_reducible refine i_intI ?_
  | with_reducible refine i_intB ?_
  | with_reducible refine i_lc ?_
  | with_reducible refine i_for ?_
  | with_reducible refine i_while ?_
  | with_reducible refine i_itL ?_
  | ((with_reducible refine' o_Lq ?e ?_); (case e => rfl))
  | with_reducible refine i_itR1 ?_
  | with_reducible refine i_itR2 ?_
  | with_reducible refine o_I1 ?_
  | with_reducible refine o_I2 ?_
  | with_reducible refine e_t ?_
  | ((with_reducible refine' e_h ?e ?p ?_); (case e => rfl); (case p => rfl))
  | with_reducible refine i_M ?_
  | with_reducible refine i_M0 ?_
  | with_reducible refine i_gSub ?_
  | with_reducible refine i_finH ?_
  | with_reducible refine i_finT ?_
  | with_reducible refine i_sl ?_
  | with_reducible refine i_slH ?_
  | with_reducible refine i_slT ?_
  | with_reducible refine i_noPart ?_
  | with_reducible refine i_part ?_
  | ((with_reducible refine' i_frzT ?e ?_); (case e => rfl))
  | ((with_reducible refine' i_frzH ?e ?m ?t ?_); (case e => rfl); (case m => rfl); (case t => rfl))
  | ((with_reducible refine' i_din ?k ?e ?_); (case k => rfl); (case e => rfl))
  | ((with_reducible refine' i_dnotin ?k ?e ?_); (case k => rfl); (case e => rfl))
  | with_reducible refine i_dput ?_
  | with_reducible refine i_newD ?_
  | with_reducible refine i_lstH ?_
  | with_reducible refine i_lst ?_
  | with_reducible refine i_tup ?_
  | with_reducible refine i_break ?_
  | with_reducible refine i_cont ?_
  | with_reducible refine i_callS ?_
  | ((with_reducible refine' i_ixHW ?e ?v ?_); (case e => first | rfl | assumption); (case v => first | assumption | rfl))
  | ((with_reducible refine' i_ixHT ?e ?v ?_); (case e => first | rfl | assumption); (case v => first | assumption | rfl))
  | ((with_reducible refine' i_lenHT ?e ?_); (case e => first | rfl | assumption))
  | ((with_reducible refine' i_lenHW ?e ?_); (case e => first | rfl | assumption))
  | ((with_reducible refine' i_frzH ?e ?m ?t ?_); (case e => rfl); (case m => rfl); (case t => rfl))
  | ((with_reducible refine' i_unw ?e ?n ?_); (case e => rfl); (case n => rfl))
  | with_reducible refine i_gwCons ?_
  | with_reducible refine i_gwNil ?_
  | with_reducible refine i_lstW ?_
  | ((with_reducible refine' i_gList ?e ?n ?_); (case e => rfl); (case n => rfl))
  | with_reducible refine i_listRgH ?_
  | with_reducible refine i_listRg ?_
  | with_reducible refine i_R1 ?_
  | with_reducible refine i_getD ?_
  | ((with_reducible refine' i_none ?k ?_); (case k => rfl))
  | walk_at "dn")
local macro_rules | `(tactic| walk_at "dl") => `(tactic| ((try walk_at "dn"); repeat walk_at "d1"))
/-! generator 2: plain math of the web -/
def updF {α : Type} (f : Nat → α) (i : Nat) (x : α) : Nat → α := fun p => if p = i then x else f p
theorem updF_eq {α : Type} (f : Nat → α) (i : Nat) (x : α) : updF f i x i = x := if_pos rfl
theorem updF_ne {α : Type} (f : Nat → α) (i : Nat) (x : α) {p : Nat} (h : p ≠ i) : updF f i x p = f p := if_neg h
theorem range_upd {i n : Nat} {N : Nat → Nat} : (List.range (i + 1)).map (updF N i n) = (List.range i).map N ++ [n] := by
  rw [List.range_succ, List.map_append]
  congr 1
  · refine List.map_congr_left fun p hp => updF_ne _ _ _ ?_
    rw [List.mem_range] at hp
    omega
  · show [updF N i n i] = [n]
    rw [updF_eq]
theorem Reach.trans {E : List (Int × Int)} {a b c : Int} (h : Reach E a b) (k : Reach E b c) : Reach E a c := by
  induction k with
  | refl => exact h
  | step _ e ih => exact .step ih e
theorem pth_fw {E : List (Nat × Nat)} {F : List (Int × Int)} (h : ∀ ab ∈ E, ((ab.1 : Int), (ab.2 : Int)) ∈ F) {a b : Nat} (p : Pth E a b) : Reach F a b := by
  induction p with
  | refl => exact .refl
  | step _ e ih => exact .step ih (h _ e)
theorem pth_bw {E : List (Nat × Nat)} {F : List (Int × Int)} (h : ∀ ab ∈ E, ((ab.2 : Int), (ab.1 : Int)) ∈ F) {a b : Nat} (p : Pth E a b) : Reach F b a := by
  induction p with
  | refl => exact .refl
  | step _ e ih => exact Reach.trans (.step .refl (h _ e)) ih
def placesOf (i : Nat) (N : Nat → Nat) : List Int := (List.range i).map fun p => ((N p : Nat) : Int)
theorem placesOf_len (i : Nat) (N : Nat → Nat) : (placesOf i N).length = i := by unfold placesOf; rw [List.length_map, List.length_range]
theorem placesOf_next {i n : Nat} {N : Nat → Nat} : placesOf (i + 1) (updF N i n) = placesOf i N ++ [((n : Nat) : Int)] := by
  unfold placesOf
  rw [show (fun p => ((updF N i n p : Nat) : Int)) = (fun x : Nat => (x : Int)) ∘ updF N i n from rfl, ← List.map_map, range_upd, List.map_append, List.map_map]
  rfl
theorem edge_mem {w : Web} {p : Int} {tn : Bool} {r : Row} (hr : r ∈ w.rows) (hp : r.p = p) : (if tn = true then (r.e, r.s) else (r.s, r.e)) ∈ w.edges p tn := by
  obtain ⟨k, hk⟩ := List.getElem?_of_mem hr
  have hkl : k < w.rows.length := (List.getElem?_eq_some_iff.mp hk).1
  have hw : w.row k = r := by
    unfold Web.row
    rw [List.getD_eq_getElem?_getD, hk]
    rfl
  unfold Web.edges
  rw [List.mem_map]
  refine ⟨k, ?_, by unfold Web.edge; rw [hw]⟩
  unfold Web.rowsOf
  rw [List.mem_filter, List.mem_range]
  exact ⟨hkl, decide_eq_true (by rw [hw]; exact hp)⟩
/-- a row's triple -/
def Row.is (r : Row) (p : Nat) (ab : Nat × Nat) : Prop := r.p = p ∧ r.s = ab.1 ∧ r.e = ab.2
/-- while parts are put together: i parts, of which all rows but L of part i - 1 .. are in -/
structure PV (parts i : Nat) (N : Nat → Nat) (E : Nat → List (Nat × Nat)) (rs : List Row) : Prop where
  sp : ∀ p, p < i → PartSpec false (N p) (E p) ∧ 1 ≤ (E p).length
  row : ∀ r ∈ rs, ∃ p, p < i ∧ ∃ ab ∈ E p, r.is p ab ∧ (r.c = -1 ∨ (r.p < r.c ∧ r.c < parts))
  called : ∀ q : Nat, 1 ≤ q → q < i → ∃ r ∈ rs, r.c = q
/-- .. all rows in -/
def PVin (i : Nat) (E : Nat → List (Nat × Nat)) (rs : List Row) : Prop := ∀ p, p < i → ∀ ab ∈ E p, ∃ r ∈ rs, r.is p ab
theorem mem_set_other {α : Type} {xs : List α} {j : Nat} {x y z : α} (h : xs[j]? = some x) (hz : z ∈ xs) (hne : z ≠ x) : z ∈ xs.set j y := by
  obtain ⟨k, hk⟩ := List.getElem?_of_mem hz
  refine List.mem_of_getElem? (i := k) ?_
  rw [List.getElem?_set_ne (fun e => hne ?_)]
  · exact hk
  · subst e
    rw [h] at hk
    cases hk
    rfl
theorem mem_set_self {α : Type} {xs : List α} {j : Nat} {x y : α} (h : xs[j]? = some x) : y ∈ xs.set j y := List.mem_of_getElem? (List.getElem?_set_self (List.getElem?_eq_some_iff.mp h).1)
/-- a free row calls -/
theorem PV.call {parts i : Nat} {N : Nat → Nat} {E : Nat → List (Nat × Nat)} {rs : List Row} (h : PV parts i N E rs) {j : Nat} {r : Row} {c : Int} (hj : rs[j]? = some r) (hr : r.c = -1) (hc : r.p < c ∧ c < parts) : PV parts i N E (rs.set j { r with c := c }) := by
  refine ⟨h.sp, fun z hz => ?_, fun q q1 q2 => ?_⟩
  · rcases List.mem_or_eq_of_mem_set hz with hz | rfl
    · exact h.row z hz
    · obtain ⟨p, hp, ab, hab, h1, _⟩ := h.row r (List.mem_of_getElem? hj)
      exact ⟨p, hp, ab, hab, h1, .inr hc⟩
  · obtain ⟨z, hz, e⟩ := h.called q q1 q2
    refine ⟨z, mem_set_other hj hz (fun z2 => ?_), e⟩
    rw [z2, hr] at e
    omega
theorem PVin.call {i : Nat} {E : Nat → List (Nat × Nat)} {rs : List Row} (h : PVin i E rs) {j : Nat} {r : Row} {c : Int} (hj : rs[j]? = some r) : PVin i E (rs.set j { r with c := c }) := by
  intro p hp ab hab
  obtain ⟨z, hz, e⟩ := h p hp ab hab
  by_cases h2 : z = r
  · subst h2
    exact ⟨_, mem_set_self hj, e⟩
  · exact ⟨z, mem_set_other hj hz h2, e⟩
/-- one part more, its rows still to come -/
theorem PV.part {parts i : Nat} {N : Nat → Nat} {E : Nat → List (Nat × Nat)} {rs : List Row} (h : PV parts i N E rs) {n : Nat} {e : List (Nat × Nat)} (hs : PartSpec false n e) (he : 1 ≤ e.length) (hc : 1 ≤ i → ∃ r ∈ rs, r.c = (i : Nat)) : PV parts (i + 1) (updF N i n) (updF E i e) rs := by
  refine ⟨fun p hp => ?_, fun r hr => ?_, fun q q1 q2 => ?_⟩
  · by_cases q : p = i
    · subst q; rw [updF_eq, updF_eq]; exact ⟨hs, he⟩
    · rw [updF_ne _ _ _ q, updF_ne _ _ _ q]; exact h.sp p (by omega)
  · obtain ⟨p, hp, ab, hab, h1, h2⟩ := h.row r hr
    exact ⟨p, by omega, ab, by rw [updF_ne _ _ _ (by omega)]; exact hab, h1, h2⟩
  · by_cases e : q = i
    · subst e
      exact hc q1
    · exact h.called q q1 (by omega)
def insAt {α : Type} (xs : List α) (j : Nat) (x : α) : List α := xs.take j ++ [x] ++ xs.drop j
theorem mem_insAt {α : Type} {xs : List α} {j : Nat} {x y : α} : y ∈ insAt xs j x ↔ y ∈ xs ∨ y = x := by
  unfold insAt
  have e : y ∈ xs ↔ y ∈ xs.take j ∨ y ∈ xs.drop j := by
    rw [← List.mem_append, List.take_append_drop]
  rw [List.append_assoc, List.mem_append, List.mem_append, List.mem_singleton, e]
  constructor
  · rintro (h | h | h)
    · exact .inl (.inl h)
    · exact .inr h
    · exact .inl (.inr h)
  · rintro ((h | h) | h)
    · exact .inl h
    · exact .inr (.inr h)
    · exact .inr (.inl h)
theorem insAt_len {α : Type} {xs : List α} {j : Nat} {x : α} : (insAt xs j x).length = xs.length + 1 := by
  unfold insAt
  have := congrArg List.length (List.take_append_drop j xs)
  rw [List.length_append] at this
  rw [List.length_append, List.length_append, List.length_singleton]
  omega
theorem PV.ins {parts i : Nat} {N : Nat → Nat} {E : Nat → List (Nat × Nat)} {rs : List Row} (h : PV parts i N E rs) {j p : Nat} {ab : Nat × Nat} {r : Row} (hp : p < i) (hab : ab ∈ E p) (hr : r.is p ab) (hc : r.c = -1) : PV parts i N E (insAt rs j r) := by
  refine ⟨h.sp, fun z hz => ?_, fun q q1 q2 => ?_⟩
  · rcases mem_insAt.mp hz with hz | rfl
    · exact h.row z hz
    · exact ⟨p, hp, ab, hab, hr, .inl hc⟩
  · obtain ⟨z, hz, e⟩ := h.called q q1 q2
    exact ⟨z, mem_insAt.mpr (.inl hz), e⟩
theorem web_ok2 {parts : Nat} {N : Nat → Nat} {E : Nat → List (Nat × Nat)} {rs : List Row} (h : PV parts parts N E rs) (hin : PVin parts E rs) (hp1 : 1 ≤ parts) (hp4 : parts ≤ 4) (hl : rs.length ≤ 60) : (⟨placesOf parts N, rs⟩ : Web).Ok := by
  have hpl : (placesOf parts N).length = parts := placesOf_len _ _
  have hplace : ∀ {rows : List Row} (p : Nat), p < parts → (⟨placesOf parts N, rows⟩ : Web).place (p : Int) = N p := by
    intro rows p hp
    unfold Web.place placesOf
    rw [Int.toNat_natCast, List.getD_eq_getElem?_getD, List.getElem?_map, List.getElem?_range hp]
    rfl
  refine ⟨⟨by show 1 ≤ (placesOf parts N).length; omega, by show (placesOf parts N).length ≤ 4; omega, ?_, hl⟩, ?_, ?_, ?_⟩
  · obtain ⟨_, h1⟩ := h.sp 0 (by omega)
    obtain ⟨ab, hab⟩ := getLt (xs := E 0) (j := 0) (by omega)
    obtain ⟨r, hr, _⟩ := hin 0 (by omega) ab (List.mem_of_getElem? hab)
    exact List.length_pos_of_mem hr
  · intro x hx
    obtain ⟨p, hp, rfl⟩ := List.mem_map.mp (show x ∈ placesOf parts N from hx)
    rw [List.mem_range] at hp
    have hs := (h.sp p hp).1
    have := hs.lo
    have := hs.hi
    omega
  · intro r hr
    obtain ⟨p, hp, ab, hab, ⟨e1, e2, e3⟩, e4⟩ := h.row r hr
    have hs := (h.sp p hp).1
    have hin := hs.inr ab hab
    unfold Web.rowOk
    rw [e1, hplace p hp]
    rw [e1] at e4
    have hpl2 : ((⟨placesOf parts N, rs⟩ : Web).places.length) = parts := hpl
    rw [hpl2]
    refine ⟨by omega, by omega, by omega, by omega, by omega, by omega, by omega, by omega, by omega⟩
  · intro p hp
    have hp : p < parts := by rw [← hpl]; exact hp
    have hs := (h.sp p hp).1
    refine ⟨fun q h0 h1 => ?_, fun h0 => ?_⟩
    · rw [hplace p hp] at h1
      obtain ⟨q, rfl⟩ := toI h0
      refine ⟨pth_fw (E := E p) (fun ab hab => ?_) (hs.fw q (by omega)), pth_bw (E := E p) (fun ab hab => ?_) (hs.bw q (by omega))⟩
      · obtain ⟨r, hr, e1, e2, e3⟩ := hin p hp ab hab
        have := edge_mem (w := ⟨placesOf parts N, rs⟩) (tn := false) hr e1
        rw [e2, e3] at this
        exact this
      · obtain ⟨r, hr, e1, e2, e3⟩ := hin p hp ab hab
        have := edge_mem (w := ⟨placesOf parts N, rs⟩) (tn := true) hr e1
        rw [e2, e3] at this
        exact this
    · obtain ⟨r, hr, e⟩ := h.called p (by omega) hp
      exact ⟨r, hr, e⟩
/-! rows at handles -/
def rowC (r : Row) : Cell := .lt [.int r.p, .int r.s, .int r.e, .int r.c]
def hW (hs : List Nat) : List W := hs.map fun k => W.h (k + 3)
structure Rw (loc : Sto) (hs : List Nat) (rs : List Row) : Prop where
  len : hs.length = rs.length
  nd : hs.Nodup
  get : ∀ (i k : Nat) (r : Row), hs[i]? = some k → rs[i]? = some r → loc[k]? = some (some (rowC r))
theorem hW_at {hs : List Nat} {i k : Nat} (h : hs[i]? = some k) : atI (hW hs) (i : Int) = some (.h (k + 3)) := atI_map (fun k => W.h (k + 3)) (atI_nat h)
theorem hW_len (hs : List Nat) : (hW hs).length = hs.length := by unfold hW; rw [List.length_map]
theorem Rw.lt {loc : Sto} {hs : List Nat} {rs : List Row} (h : Rw loc hs rs) : ∀ k ∈ hs, k < loc.length := by
  intro k hk
  obtain ⟨i, hi⟩ := List.getElem?_of_mem hk
  have hil : i < rs.length := by rw [← h.len]; exact (List.getElem?_eq_some_iff.mp hi).1
  obtain ⟨r, er⟩ := getLt hil
  exact (List.getElem?_eq_some_iff.mp (h.get i k r hi er)).1
theorem Rw.push {loc : Sto} {hs : List Nat} {rs : List Row} (h : Rw loc hs rs) (l2 : Sto) : Rw (loc ++ l2) hs rs :=
  ⟨h.len, h.nd, fun i k r h1 h2 => by rw [List.getElem?_append_left (h.lt k (List.mem_of_getElem? h1))]; exact h.get i k r h1 h2⟩
theorem Rw.setOut {loc : Sto} {hs : List Nat} {rs : List Row} (h : Rw loc hs rs) {n : Nat} {v : Option Cell} (hn : n ∉ hs) : Rw (loc.set n v) hs rs :=
  ⟨h.len, h.nd, fun i k r h1 h2 => by rw [List.getElem?_set_ne (fun e => hn (by rw [e]; exact List.mem_of_getElem? h1))]; exact h.get i k r h1 h2⟩
theorem nd_inj {xs : List Nat} (nd : xs.Nodup) {i j k : Nat} (h1 : xs[i]? = some k) (h2 : xs[j]? = some k) : i = j := by
  have key : ∀ a b, a < b → xs[a]? = some k → xs[b]? = some k → False := fun a b hab ha hb => by
    obtain ⟨la, ea⟩ := List.getElem?_eq_some_iff.mp ha
    obtain ⟨lb, eb⟩ := List.getElem?_eq_some_iff.mp hb
    exact List.pairwise_iff_getElem.mp (List.nodup_iff_pairwise_ne.mp nd) a b la lb hab (ea.trans eb.symm)
  rcases Nat.lt_trichotomy i j with h | h | h
  · exact (key i j h h1 h2).elim
  · exact h
  · exact (key j i h h2 h1).elim
theorem Rw.put {loc : Sto} {hs : List Nat} {rs : List Row} (h : Rw loc hs rs) {j k : Nat} {r : Row} (hj : hs[j]? = some k) : Rw (loc.set k (some (rowC r))) hs (rs.set j r) := by
  have hk := h.lt k (List.mem_of_getElem? hj)
  refine ⟨by rw [List.length_set]; exact h.len, h.nd, fun i k' r' h1 h2 => ?_⟩
  by_cases e : i = j
  · subst e
    rw [hj] at h1
    cases h1
    have hl : i < rs.length := by rw [← h.len]; exact (List.getElem?_eq_some_iff.mp hj).1
    rw [List.getElem?_set_self hl] at h2
    cases h2
    rw [List.getElem?_set_self hk]
  · rw [List.getElem?_set_ne (fun z => e z.symm)] at h2
    have hne : k ≠ k' := fun z => by
      subst z
      exact e (nd_inj h.nd h1 hj)
    rw [List.getElem?_set_ne hne]
    exact h.get i k' r' h1 h2
theorem getIns {α : Type} {xs : List α} {j : Nat} {x : α} (hj : j ≤ xs.length) {i : Nat} {y : α} : (insAt xs j x)[i]? = some y ↔ (i < j ∧ xs[i]? = some y) ∨ (i = j ∧ y = x) ∨ (j < i ∧ xs[i - 1]? = some y) := by
  unfold insAt
  have ht : (xs.take j).length = j := by rw [List.length_take]; omega
  rw [List.append_assoc]
  by_cases h1 : i < j
  · rw [List.getElem?_append_left (by omega), List.getElem?_take, if_pos h1]
    constructor
    · exact fun h => .inl ⟨h1, h⟩
    · rintro (h | h | h)
      · exact h.2
      · omega
      · omega
  · rw [List.getElem?_append_right (by omega), ht]
    by_cases h2 : i = j
    · subst h2
      rw [Nat.sub_self]
      show some x = some y ↔ _
      constructor
      · intro h
        cases h
        exact .inr (.inl ⟨rfl, rfl⟩)
      · rintro (h | h | h)
        · omega
        · rw [h.2]
        · omega
    · rw [List.getElem?_append_right (by rw [List.length_singleton]; omega), List.length_singleton, List.getElem?_drop, show j + (i - j - 1) = i - 1 by omega]
      constructor
      · exact fun h => .inr (.inr ⟨by omega, h⟩)
      · rintro (h | h | h)
        · omega
        · omega
        · exact h.2
theorem Rw.ins {loc : Sto} {hs : List Nat} {rs : List Row} (h : Rw loc hs rs) {j : Nat} {r : Row} (hj : j ≤ rs.length) (l2 : Sto) : Rw (loc ++ [some (rowC r)] ++ l2) (insAt hs j loc.length) (insAt rs j r) := by
  have hjh : j ≤ hs.length := by rw [h.len]; exact hj
  have hnew : loc.length ∉ hs := fun z => by have := h.lt _ z; omega
  refine ⟨by rw [insAt_len, insAt_len, h.len], ?_, fun i k r' h1 h2 => ?_⟩
  · have hp : (insAt hs j loc.length).Perm (loc.length :: hs) := by
      unfold insAt
      rw [List.append_assoc]
      refine (List.perm_append_comm_assoc _ _ _).trans ?_
      rw [List.take_append_drop]
      exact List.Perm.refl _
    rw [hp.nodup_iff, List.nodup_cons]
    exact ⟨hnew, h.nd⟩
  · rcases (getIns hjh).mp h1 with ⟨a, b⟩ | ⟨a, b⟩ | ⟨a, b⟩
    · rcases (getIns hj).mp h2 with ⟨c, d⟩ | ⟨c, d⟩ | ⟨c, d⟩
      · rw [List.append_assoc, List.getElem?_append_left (h.lt k (List.mem_of_getElem? b))]
        exact h.get i k r' b d
      · omega
      · omega
    · rcases (getIns hj).mp h2 with ⟨c, d⟩ | ⟨c, d⟩ | ⟨c, d⟩
      · omega
      · subst b d
        rw [List.append_assoc, List.getElem?_append_right (Nat.le_refl _), Nat.sub_self]
        rfl
      · omega
    · rcases (getIns hj).mp h2 with ⟨c, d⟩ | ⟨c, d⟩ | ⟨c, d⟩
      · omega
      · omega
      · rw [List.append_assoc, List.getElem?_append_left (h.lt k (List.mem_of_getElem? b))]
        exact h.get _ k r' b d

end DL

namespace DL
open PySem PySem.Spec L2
local macro_rules | `(tactic| walk_at "dn") => `(tactic| simp only [purse_set2, purse_set3, purse_set4, purse_set5, purse_app, purse_len, purse_start, purse_l, G.set, G.put, G.push, G.wipe, wipeW, G.rs, rsW, List.set_cons_zero, List.set_cons_succ, List.map_cons, List.map_nil, List.length_cons, List.length_nil, List.nil_append, List.cons_append, List.replicate_succ, List.replicate_zero, Nat.reduceAdd, Nat.reduceSub, List.getD_cons_zero, List.getD_cons_succ, Option.getD_some, Option.getD_none])
local macro_rules | `(tactic| walk_at "d1") => `(tactic| first
  | with_reducible refine i_seq ?_
  | with_reducible refine i_asg ?_
  | with_reducible refine i_d2 ?_
  | ((with_reducible refine' i_var ?e ?_); (case e => rfl))
  | with_reducible refine i_c ?_
  | ((with_reducible refine' i_ix ?e ?v ?_); (case e => rfl); (case v => first | assumption | rfl))
  | with_reducible refine i_fI0 ?_
  | with_reducible refine i_gN ?_
  | with_reducible refine i_cons ?_
  | with_reducible refine i_nil ?_
  | with_reducible refine i_dN ?_
  | ((with_reducible refine' i_len ?e ?_); (case e => rfl))
  | with_reducible refine i_d1 ?_
  | with_reducible refine i_neg ?_
  | with_reducible refine i_B ?_
  | with_reducible refine o_B ?_
  | with_reducible refine o_I ?_
  | with_reducible refine i_ifS ?_
  | with_reducible refine i_or ?_
  | with_reducible refine i_and ?_
  | with_reducible refine i_not ?_
  | with_reducible refine i_andV ?_
  | with_reducible refine i_orV ?_
  | with_reducible refine i_notV ?_
  | with_reducible refine i_if ?_
  | with_reducible refine i_yes ?_
  | with_reducible refine k_T ?_
  | with_reducible refine k_F ?_
  | with_reducible refine k_True ?_
  | with_reducible refine k_False ?_
  | with_reducible refine i_eqI ?_
  | with_reducible refine i_neI ?_
  | with_reducible refine i_addI ?_
  | with_reducible refine i_addHI ?_
  | with_reducible refine i_callT ?_
  | with_reducible refine i_callH ?_
  | ((with_reducible refine' o_Ts ?e ?_); (case e => rfl))
  | with_reducible refine o_T ?_
  | ((with_reducible refine' o_TF ?e ?_); (case e => rfl))
  | with_reducible refine o_H ?_
  | ((with_reducible refine' o_HF ?e ?_); (case e => rfl))
  | with_reducible refine i_next ?_
  | with_reducible refine i_drop ?_
  | with_reducible refine i_ret ?_
  | with_reducible refine i_retN ?_
  | ((with_reducible refine' i_gTup ?e ?_); (case e => rfl))
  | with_reducible refine i_gCons ?_
  | with_reducible refine i_gNil ?_
  | with_reducible refine i_min2 ?_
  | with_reducible refine i_max2 ?_
  | with_reducible refine i_par ?_
  | with_reducible refine o_W2 ?_
  | ((with_reducible refine' i_aug ?e ?_); (case e => rfl))
  | with_reducible refine i_intI ?_
  | with_reducible refine i_intB ?_
  | with_reducible refine i_lc ?_
  | with_reducible refine i_for ?_
  | with_reducible refine i_while ?_
  | with_reducible refine i_itL ?_
  | ((with_reducible refine' o_Lq ?e ?_); (case e => rfl))
  | with_reducible refine i_itR1 ?_
  | with_reducible refine i_itR2 ?_
  | with_reducible refine o_I1 ?_
  | with_reducible refine o_I2 ?_
  | with_reducible refine e_t ?_
  | ((with_reducible refine' e_h ?e ?p ?_); (case e => rfl); (case p => rfl))
  | with_reducible refine i_M ?_
  | with_reducible refine i_M0 ?_
  | with_reducible refine i_gSub ?_
  | with_reducible refine i_finH ?_
  | with_reducible refine i_finT ?_
  | with_reducible refine i_sl ?_
  | with_reducible refine i_slH ?_
  | with_reducible refine i_slT ?_
  | with_reducible refine i_noPart ?_
  | with_reducible refine i_part ?_
  | ((with_reducible refine' i_frzT ?e ?_); (case e => rfl))
  | ((with_reducible refine' i_frzH ?e ?m ?t ?_); (case e => rfl); (case m => rfl); (case t => rfl))
  | ((with_reducible refine' i_din ?k ?e ?_); (case k => rfl); (case e => rfl))
  | ((with_reducible refine' i_dnotin ?k ?e ?_); (case k => rfl); (case e => rfl))
  | with_reducible refine i_dput ?_
  | with_reducible refine i_newD ?_
  | with_reducible refine i_lstH ?_
  | with_reducible refine i_lst ?_
  | with_reducible refine i_tup ?_
  | with_reducible refine i_break ?_
  | with_reducible refine i_cont ?_
  | with_reducible refine i_callS ?_
  | ((with_reducible refine' i_ixHW ?e ?v ?_); (case e => first | rfl | assumption); (case v => first | assumption | rfl))
  | ((with_reducible refine' i_ixHT ?e ?v ?_); (case e => first | rfl | assumption); (case v => first | assumption | rfl))
  | ((with_reducible refine' i_lenHT ?e ?_); (case e => first | rfl | assumption))
  | ((with_reducible refine' i_lenHW ?e ?_); (case e => first | rfl | assumption))
  | ((with_reducible refine' i_frzH ?e ?m ?t ?_); (case e => rfl); (case m => rfl); (case t => rfl))
  | ((with_reducible refine' i_unw ?e ?n ?_); (case e => rfl); (case n => rfl))
  | with_reducible refine i_gwCons ?_
  | with_reducible refine i_gwNil ?_
  | with_reducible refine i_lstW ?_
  | ((with_reducible refine' i_gList ?e ?n ?_); (case e => rfl); (case n => rfl))
  | with_reducible refine i_listRgH ?_
  | with_reducible refine i_listRg ?_
  | with_reducible refine i_R1 ?_
  | with_reducible refine i_getD ?_
  | ((with_reducible refine' i_none ?k ?_); (case k => rfl))
  | walk_at "dn")
local macro_rules | `(tactic| walk_at "dl") => `(tactic| ((try walk_at "dn"); repeat walk_at "d1"))
/-! generator 2: the web that is built -/
theorem i_finW {acc : List W} {g : G} {Q : W → G → Prop} (h : Q (.h g.mem.length) (g.push (.lw acc))) : finW acc g Q := h
theorem callS_partJ {j most k : Nat} {a f : Int} {sl : List (Option W)} {mem : Sto} {Q : W → G → Prop} (em : mem[j]? = some (some (leftC a f k))) (hL : LeftOk a f) (hk : k ≤ 50000) (hm : most ≤ 14)
    (h : ∀ (n : Nat) (E : List (Nat × Nat)) (a' : Int) (k' : Nat), G2 n E → n ≤ most + 2 → E.length ≤ most + 1 → LeftOk a' f → k' ≤ k + 100 → Q (.t (.tup [.int n, .lst (E.map tupT)])) ⟨sl, mem.set j (some (leftC a' f k'))⟩) : callS C__law_part [.h j, .t (.int most)] ⟨sl, mem⟩ Q := by
  refine ⟨[j], [leftC a f k], [.h 0, .t (.int most)], by simp, rfl, rfl, fun i c e => ?_, most, k, a, f, rfl, rfl, hL, hk, hm, fun n E a' k' h1 h2 h3 h4 h5 => ⟨.t (.tup [.int n, .lst (E.map tupT)]), [leftC a' f k'], [], rfl, rfl, rfl, ?_⟩⟩
  · match i, e with
    | 0, e => cases e; exact ⟨j, _, rfl, rfl, em⟩
    | i + 1, e => simp at e
  · rw [List.map_nil, List.append_nil]
    exact h n E a' k' h1 h2 h3 h4 h5
theorem hW_ins (hs : List Nat) (j x : Nat) : hW (insAt hs j x) = (hW hs).take j ++ [W.h (x + 3)] ++ (hW hs).drop j := by
  unfold hW insAt
  rw [List.map_append, List.map_append, List.map_take, List.map_drop]
  rfl
theorem hW_zip {hs : List Nat} {rs : List Row} (h : hs.length = rs.length) : hW hs = (hs.zip rs).map fun kr => W.h (kr.1 + 3) := by
  unfold hW
  rw [show (fun kr : Nat × Row => W.h (kr.1 + 3)) = (fun k => W.h (k + 3)) ∘ Prod.fst from rfl, ← List.map_map, List.map_fst_zip (by omega)]
theorem zip_at {hs : List Nat} {rs : List Row} {kr : Nat × Row} (h : kr ∈ hs.zip rs) : ∃ i : Nat, hs[i]? = some kr.1 ∧ rs[i]? = some kr.2 := by
  obtain ⟨i, hi⟩ := List.getElem?_of_mem h
  exact ⟨i, List.getElem?_zip_eq_some.mp hi⟩
theorem zip_len {hs : List Nat} {rs : List Row} (h : hs.length = rs.length) : (hs.zip rs).length = rs.length := by
  rw [List.length_zip, h, Nat.min_self]
/-! rows put in -/
def rdIns : DSt := dFor (diL (dVar 9)) (dgTup 2 (dgCons (dgN 11) (dgCons (dgN 12) (dgNil)))) (dDrop (dM fInsert (dVar 6) (dCons (dCallS C__law_draw (dCons (dVar 3) (dCons (d2 fAdd (dN fLen (dCons (dVar 6) (dNil))) (dC (.int 1))) (dNil)))) (dCons (dLstH (dCons (dVar 7) (dCons (dVar 11) (dCons (dVar 12) (dCons (d1 fNeg (dC (.int 1))) (dNil)))))) (dNil)))))
def slW (sq pm mo pa : Option W) (i : Nat) (o8 o9 o10 o11 o12 o13 o14 : Option W) : List (Option W) := [sq, pm, mo, some (.h 0), pa, some (.h 1), some (.h 2), some (.t (.int i)), o8, o9, o10, o11, o12, o13, o14]
theorem ins_rows {D : De} {sq pm mo pa o8 o10 o11 o12 o13 o14 : Option W} {i k parts : Nat} {e : List (Nat × Nat)} {N : Nat → Nat} {E : Nat → List (Nat × Nat)} {a f : Int} {pl : Option Cell} {loc : Sto} {hs : List Nat} {rs : List Row}
    (hRw : Rw loc hs rs) (hPV : PV parts (i + 1) N E rs) (hE : E i = e) (hin : PVin i E rs) (hlen : rs.length + e.length ≤ 60) (hL : LeftOk a f) (hk : k + 100 ≤ 100000) (he : 1 ≤ e.length)
    (hQ : ∀ (a' : Int) (k' : Nat) (loc' : Sto) (hs' : List Nat) (rs' : List Row) (o11 o12 : Option W), Rw loc' hs' rs' → PV parts (i + 1) N E rs' → PVin (i + 1) E rs' → (∃ r ∈ rs', r.c = -1) → rs'.length = rs.length + e.length → LeftOk a' f → k' ≤ k + e.length →
      D.nx ⟨slW sq pm mo pa i o8 (some (.t (.lst (e.map tupT)))) o10 o11 o12 o13 o14, some (leftC a' f k') :: pl :: some (.lw (hW hs')) :: loc'⟩) :
    rdIns D ⟨slW sq pm mo pa i o8 (some (.t (.lst (e.map tupT)))) o10 o11 o12 o13 o14, some (leftC a f k) :: pl :: some (.lw (hW hs)) :: loc⟩ := by
  unfold rdIns slW
  walk_at "dl"
  refine forR e (fun ab => W.t (tupT ab)) (fun j g' => ∃ (a' : Int) (k' : Nat) (loc' : Sto) (hs' : List Nat) (rs' : List Row) (o11 o12 : Option W), g' = ⟨slW sq pm mo pa i o8 (some (.t (.lst (e.map tupT)))) o10 o11 o12 o13 o14, some (leftC a' f k') :: pl :: some (.lw (hW hs')) :: loc'⟩ ∧
      Rw loc' hs' rs' ∧ PV parts (i + 1) N E rs' ∧ PVin i E rs' ∧ (∀ j' ab, j' < j → e[j']? = some ab → ∃ r ∈ rs', r.is i ab) ∧ (1 ≤ j → ∃ r ∈ rs', r.c = -1) ∧ rs'.length = rs.length + j ∧ LeftOk a' f ∧ k' ≤ k + j)
    (by rw [List.map_map]; rfl) ⟨a, k, loc, hs, rs, o11, o12, rfl, hRw, hPV, hin, fun _ _ h => by omega, fun h => by omega, by omega, hL, by omega⟩ (fun _ _ _ => rfl) ?_ ?_
  · rintro j ⟨x, y⟩ hj g' ⟨a', k', loc', hs', rs', o11, o12, rfl, hRw', hPV', hin', hpre, hfree, hl', hL', hk'⟩ M hM
    have hjl := (List.getElem?_eq_some_iff.mp hj).1
    have hhl := hRw'.len
    unfold tupT slW
    walk_at "dl"
    refine ⟨isL_lw rfl, ?_⟩
    walk_at "dl"
    rw [hW_len]
    refine callS_draw0 hL' (by omega) (by omega) (by omega) fun d a2 d0 d1 hL2 => ?_
    obtain ⟨d, rfl⟩ := toI d0
    walk_at "dl"
    refine ⟨by decide, ?_⟩
    walk_at "dl"
    refine i_insertW (us := hW hs') rfl ⟨lineLt (by rw [hW_len]; omega), by omega, by omega⟩ ?_
    walk_at "dn"
    rw [Int.toNat_natCast]
    have em : (List.take d (hW hs') ++ [W.h (loc'.length + 1 + 1 + 1)] ++ List.drop d (hW hs')) = hW (insAt hs' d loc'.length) := (hW_ins hs' d loc'.length).symm
    rw [em]
    have hii : (⟨(i : Nat), (x : Nat), (y : Nat), -1⟩ : Row).is i (x, y) := ⟨rfl, rfl, rfl⟩
    have hR := hRw'.ins (j := d) (r := ⟨(i : Nat), (x : Nat), (y : Nat), -1⟩) (by omega) []
    rw [List.append_nil] at hR
    refine hM _ ⟨a2, k' + 1, _, _, _, _, _, rfl, hR, hPV'.ins (p := i) (ab := (x, y)) (by omega) (by rw [hE]; exact List.mem_of_getElem? hj) hii rfl, fun p hp ab hab => ?_, fun j' ab h1 h2 => ?_, fun _ => ⟨_, mem_insAt.mpr (.inr rfl), rfl⟩, by rw [insAt_len]; omega, hL2, by omega⟩
    · obtain ⟨z, hz, e⟩ := hin' p hp ab hab
      exact ⟨z, mem_insAt.mpr (.inl hz), e⟩
    · by_cases e2 : j' = j
      · subst e2
        rw [hj] at h2
        cases h2
        exact ⟨_, mem_insAt.mpr (.inr rfl), hii⟩
      · obtain ⟨z, hz, e⟩ := hpre j' ab (by omega) h2
        exact ⟨z, mem_insAt.mpr (.inl hz), e⟩
  · rintro g' ⟨a', k', loc', hs', rs', o11, o12, rfl, hRw', hPV', hin', hpre, hfree, hl', hL', hk'⟩
    refine hQ a' k' loc' hs' rs' o11 o12 hRw' hPV' (fun p hp ab hab => ?_) (hfree he) hl' hL' hk'
    by_cases e2 : p = i
    · subst e2
      rw [hE] at hab
      obtain ⟨j', h1⟩ := List.getElem?_of_mem hab
      exact hpre j' ab (List.getElem?_eq_some_iff.mp h1).1 h1
    · exact hin' p (by omega) ab hab
def C__law_web : SC := fun ws m QC => ∃ (ns : List Int) (pm most : Nat), ws = [.t (.sq (ns.map T.int)), .t (.int pm), .t (.int most)] ∧ m = [] ∧ (∀ z ∈ ns, Builtin.Int.intBits z ≤ 1048576) ∧ 1 ≤ pm ∧ pm ≤ 4 ∧ most ≤ 14 ∧ pm * (most + 1) ≤ 60 ∧
  ∀ w : Web, w.Ok → w.places.length ≤ pm → QC (.t w.t) [] []
theorem ln__law_web : ∀ ws m Q, C__law_web ws m Q → ws.length = ["a", "b", "c"].length := by rintro ws m Q ⟨_, _, _, rfl, _⟩; rfl
def rd__law_web : DSt :=
  dSeq (dAsg (dCallH C__law_left (dCons (dVar 0) (dCons (dC (.int 0)) (dNil)))) (dgN 3))
  (dSeq (dAsg (d2 fAdd (dC (.int 1)) (dCallS C__law_draw (dCons (dVar 3) (dCons (dVar 1) (dNil))))) (dgN 4))
  (dSeq (dAsg (dLstH (dNil)) (dgN 5))
  (dSeq (dAsg (dLstW (dNil)) (dgN 6))
  (dSeq (dFor (diR1 (dCons (dVar 4) (dNil))) (dgN 7) (dSeq (dAsg (dCallS C__law_part (dCons (dCallH C__law_left (dCons (dVar 0) (dCons (d2 fAdd (dC (.int 1)) (dVar 7)) (dNil)))) (dCons (dVar 2) (dNil)))) (dgTup 2 (dgCons (dgN 8) (dgCons (dgN 9) (dgNil)))))
  (dSeq (dDrop (dM fAppend (dVar 5) (dCons (dVar 8) (dNil))))
  (dSeq (dIfS (dB (d2 (fI0 fun i j => .bl (decide (j < i))) (dVar 7) (dC (.int 0)))) (dSeq (dAsg (dLc finW (diL (dVar 6)) (dgN 13) (dB (d2 (fEq false) (d2 fIx (dVar 13) (dC (.int 3))) (d1 fNeg (dC (.int 1))))) (dVar 13) [13]) (dgN 10))
  (dAsg (dVar 7) (dgSub (d2 fIx (dVar 10) (dCallS C__law_draw (dCons (dVar 3) (dCons (dN fLen (dCons (dVar 10) (dNil))) (dNil))))) (dC (.int 3))))) (dNext))
  (dFor (diL (dVar 9)) (dgTup 2 (dgCons (dgN 11) (dgCons (dgN 12) (dgNil)))) (dDrop (dM fInsert (dVar 6) (dCons (dCallS C__law_draw (dCons (dVar 3) (dCons (d2 fAdd (dN fLen (dCons (dVar 6) (dNil))) (dC (.int 1))) (dNil)))) (dCons (dLstH (dCons (dVar 7) (dCons (dVar 11) (dCons (dVar 12) (dCons (d1 fNeg (dC (.int 1))) (dNil)))))) (dNil))))))))))
  (dSeq (dFor (diL (dVar 6)) (dgN 13) (dSeq (dAsg (dCallS C__law_draw (dCons (dVar 3) (dCons (d2 (fI0 fun i j => .int (i - j)) (dVar 4) (d2 fIx (dVar 13) (dC (.int 0)))) (dNil)))) (dgN 14))
  (dIfS (dAnd (dB (d2 (fEq false) (d2 fIx (dVar 13) (dC (.int 3))) (d1 fNeg (dC (.int 1))))) (dB (d2 (fI0 fun i j => .bl (decide (j < i))) (dVar 14) (dC (.int 0))))) (dAsg (d2 fAdd (d2 fIx (dVar 13) (dC (.int 0))) (dVar 14)) (dgSub (dVar 13) (dC (.int 3)))) (dNext))))
  (dRet (dTup (dCons (dFrz 5) (dCons (dLc finT (diL (dVar 6)) (dgN 13) (dYes) (dN fTupOf (dCons (dVar 13) (dNil))) [13]) (dNil))))))))))

theorem rp__law_web : ∀ ws m QC, C__law_web ws m QC → rd__law_web ⟨FinS m.length QC (.t .non), FinS m.length QC, fun _ => False, fun _ => False⟩ ⟨ws.map some ++ List.replicate (15 - ws.length) none, m.map some⟩ := by
  rintro ws m QC ⟨ns, pm, most, rfl, rfl, hns, hp1, hp4, hm, hpm, hQ⟩
  unfold rd__law_web
  walk_at "dl"
  refine ⟨ns, 0, rfl, hns, fun a f hL => ?_⟩
  walk_at "dl"
  refine callS_draw0 (k := 0) hL (by omega) (by omega) (by omega) fun parts0 a1 d0 d1 hL1 => ?_
  obtain ⟨parts0, rfl⟩ := toI d0
  walk_at "dl"
  refine ⟨by decide, ?_⟩
  walk_at "dl"
  refine ⟨by decide, ?_⟩
  walk_at "dl"
  refine ⟨by omega, ?_⟩
  refine forR (List.range (1 + parts0)) (fun k => W.t (.int (k : Nat))) (fun i g' => ∃ (N : Nat → Nat) (E : Nat → List (Nat × Nat)) (rs : List Row) (hs : List Nat) (a' : Int) (k' : Nat) (loc : Sto) (o7 o8 o9 o10 o11 o12 o13 o14 : Option W),
      g' = ⟨[some (.t (.sq (ns.map T.int))), some (.t (.int pm)), some (.t (.int most)), some (.h 0), some (.t (.int (1 + parts0))), some (.h 1), some (.h 2), o7, o8, o9, o10, o11, o12, o13, o14], some (leftC a' f k') :: some (.lt ((placesOf i N).map T.int)) :: some (.lw (hW hs)) :: loc⟩ ∧
      Rw loc hs rs ∧ PV (1 + parts0) i N E rs ∧ PVin i E rs ∧ (1 ≤ i → ∃ r ∈ rs, r.c = -1) ∧ rs.length ≤ i * (most + 1) ∧ LeftOk a' f ∧ k' ≤ 1 + 100 * i)
    (by rw [show ((1 : Int) + parts0).toNat = 1 + parts0 by omega, rgW0]) ⟨fun _ => 0, fun _ => [], [], [], a1, 1, [], none, none, none, none, none, none, none, none, rfl, ⟨rfl, List.nodup_nil, fun i k r h => by simp at h⟩, ⟨fun p hp => by omega, fun r hr => by simp at hr, fun q q1 q2 => by omega⟩, fun p hp => by omega, fun h => by omega, by simp, hL1, by omega⟩ (fun _ _ _ => trivial) ?_ ?_
  · rintro i k hk g' ⟨N, E, rs, hs, a', k', loc, o7, o8, o9, o10, o11, o12, o13, o14, rfl, hRw, hPV, hin, hfree, hrl, hL', hk'⟩ M hM
    have hi : i < 1 + parts0 := by simpa using (List.getElem?_eq_some_iff.mp hk).1
    rw [List.getElem?_range hi] at hk
    cases hk
    have hmul1 : i * (most + 1) + (most + 1) = (i + 1) * (most + 1) := by rw [Nat.add_mul, Nat.one_mul]
    have hmul2 : (i + 1) * (most + 1) ≤ pm * (most + 1) := Nat.mul_le_mul_right _ (by omega)
    have e1i : (1 : Int) + (i : Nat) = ((1 + i : Nat) : Int) := by omega
    walk_at "dl"
    rw [e1i]
    refine ⟨ns, 1 + i, rfl, hns, fun a2 f2 hL2 => ?_⟩
    walk_at "dl"
    have emp : (some (leftC a' f k') :: some (Cell.lt ((placesOf i N).map T.int)) :: some (Cell.lw (hW hs)) :: (loc ++ [some (Cell.lt [T.int a2, T.int f2, T.int 0])]))[loc.length + 1 + 1 + 1]? = some (some (leftC a2 f2 (0 : Nat))) := by
      show (loc ++ _)[loc.length]? = _
      rw [List.getElem?_append_right (Nat.le_refl _), Nat.sub_self]
      rfl
    refine callS_partJ emp hL2 (by omega) hm fun n e a3 k3 hG hn he hL3 hk3 => ?_
    have eset : (some (leftC a' f k') :: some (Cell.lt ((placesOf i N).map T.int)) :: some (Cell.lw (hW hs)) :: (loc ++ [some (Cell.lt [T.int a2, T.int f2, T.int 0])])).set (loc.length + 1 + 1 + 1) (some (leftC a3 f2 k3)) = some (leftC a' f k') :: some (Cell.lt ((placesOf i N).map T.int)) :: some (Cell.lw (hW hs)) :: (loc ++ [some (leftC a3 f2 k3)]) := by
      show some (leftC a' f k') :: some (Cell.lt ((placesOf i N).map T.int)) :: some (Cell.lw (hW hs)) :: (loc ++ _).set loc.length _ = _
      rw [List.set_append_right _ _ (Nat.le_refl _), Nat.sub_self]
      rfl
    rw [eset]
    have hpl := placesOf_len i N
    walk_at "dl"
    refine ⟨isL_lt (us := (placesOf i N).map T.int) rfl, ?_⟩
    walk_at "dl"
    refine i_append (us := (placesOf i N).map T.int) rfl (lineLt (by rw [List.length_map]; omega)) ?_
    have epl2 : (placesOf i N).map T.int ++ [T.int (n : Nat)] = (placesOf (i + 1) (updF N i n)).map T.int := by
      rw [placesOf_next, List.map_append]
      rfl
    rw [epl2]
    walk_at "dl"
    have hspec : PartSpec false n e := hG.spec (by omega)
    have hne := hG.ne
    have hrw1 := hRw.push [some (leftC a3 f2 k3)]
    generalize loc ++ [some (leftC a3 f2 k3)] = loc2 at hrw1
    have upin : ∀ rs2 : List Row, PVin i E rs2 → PVin i (updF E i e) rs2 := fun rs2 h p hp ab hab => by
      rw [updF_ne _ _ _ (by omega)] at hab
      exact h p hp ab hab
    refine k_d (fun hi0 => ?_) (fun hi0 => ?_)
    · obtain ⟨rf, hrf, hrc⟩ := hfree (by omega)
      walk_at "dl"
      refine o_LqW rfl rfl ?_
      refine lcW (hs.zip rs) (fun kr => W.h (kr.1 + 3)) (fun kr => decide (kr.2.c = -1)) (fun kr => W.h (kr.1 + 3)) (hW_zip hRw.len) (lineLe (by rw [zip_len hRw.len]; omega)) rfl ?_ ?_
      · rintro ⟨x, r⟩ hx Y N2 hY hN2
        obtain ⟨j, hj1, hj2⟩ := zip_at hx
        have em : (some (leftC a' f k') :: some (Cell.lt ((placesOf (i + 1) (updF N i n)).map T.int)) :: some (Cell.lw (hW hs)) :: loc2)[x + 3]? = some (some (rowC r)) := hrw1.get j x r hj1 hj2
        unfold rowC at em
        walk_at "dl"
        refine k_d (fun h => ?_) (fun h => ?_)
        · walk_at "dl"
          exact hY (decide_eq_true h) _ rfl
        · exact hN2 (decide_eq_false h) _ rfl
      · refine i_finW ?_
        have hLne : 0 < ((hs.zip rs).filter fun kr => decide (kr.2.c = -1)).length := by
          obtain ⟨j, hj⟩ := List.getElem?_of_mem hrf
          obtain ⟨x, hx⟩ := getLt (xs := hs) (j := j) (by rw [hRw.len]; exact (List.getElem?_eq_some_iff.mp hj).1)
          have hz : (hs.zip rs)[j]? = some (x, rf) := List.getElem?_zip_eq_some.mpr ⟨hx, hj⟩
          exact List.length_pos_of_mem (List.mem_filter.mpr ⟨List.mem_of_getElem? hz, decide_eq_true hrc⟩)
        have hLle : ((hs.zip rs).filter fun kr => decide (kr.2.c = -1)).length ≤ rs.length := by
          have := List.length_filter_le (fun kr : Nat × Row => decide (kr.2.c = -1)) (hs.zip rs)
          rw [zip_len hRw.len] at this
          exact this
        have hLm : ∀ kr ∈ (hs.zip rs).filter (fun kr => decide (kr.2.c = -1)), kr ∈ hs.zip rs ∧ kr.2.c = -1 := fun kr h => by
          rw [List.mem_filter] at h
          exact ⟨h.1, of_decide_eq_true h.2⟩
        generalize ((hs.zip rs).filter fun kr => decide (kr.2.c = -1)) = L at hLne hLle hLm
        walk_at "dl"
        have eml : ∀ c : Option Cell, (c :: some (Cell.lt ((placesOf (i + 1) (updF N i n)).map T.int)) :: some (Cell.lw (hW hs)) :: (loc2 ++ [some (Cell.lw (L.map fun kr => W.h (kr.1 + 3)))]))[loc2.length + 1 + 1 + 1]? = some (some (Cell.lw (L.map fun kr => W.h (kr.1 + 3)))) := fun c => by
          show (loc2 ++ _)[loc2.length]? = _
          rw [List.getElem?_append_right (Nat.le_refl _), Nat.sub_self]
          rfl
        refine i_lenHW (eml _) ?_
        walk_at "dl"
        rw [List.length_map]
        refine callS_draw0 hL' (by omega) (by omega) (by omega) fun j a4 j0 j1 hL4 => ?_
        obtain ⟨j, rfl⟩ := toI j0
        obtain ⟨⟨x, r⟩, hx⟩ := getLt (xs := L) (j := j) (by omega)
        obtain ⟨hxm, hrc2⟩ := hLm _ (List.mem_of_getElem? hx)
        obtain ⟨jj, hj1, hj2⟩ := zip_at hxm
        have hrw2 := hrw1.push [some (Cell.lw (L.map fun kr => W.h (kr.1 + 3)))]
        have em2 : ∀ c : Option Cell, (c :: some (Cell.lt ((placesOf (i + 1) (updF N i n)).map T.int)) :: some (Cell.lw (hW hs)) :: (loc2 ++ [some (Cell.lw (L.map fun kr => W.h (kr.1 + 3)))]))[x + 3]? = some (some (rowC r)) := fun c => hrw2.get jj x r hj1 hj2
        have hat : atI (L.map fun kr => W.h (kr.1 + 3)) (j : Int) = some (.h (x + 3)) := atI_map (fun kr : Nat × Row => W.h (kr.1 + 3)) (atI_nat hx)
        refine i_ixHW (eml _) hat ?_
        walk_at "dl"
        unfold rowC at em2
        refine o_put (em2 _) (ixN_nat (n := 4) (k := 3) (by decide)) ?_
        walk_at "dn"
        obtain ⟨pr, hpr, ab, hab, ⟨his, _⟩, _⟩ := hPV.row r (List.mem_of_getElem? hj2)
        have hcall : r.p < (i : Int) ∧ (i : Int) < (1 + parts0 : Nat) := by omega
        have hPV2 := hPV.call (c := (i : Int)) hj2 hrc2 hcall
        have hin2 := hin.call (c := (i : Int)) hj2
        have hRw3 := hrw2.put (r := { r with c := (i : Int) }) hj1
        refine ins_rows (hs := hs) (rs := rs.set jj { r with c := (i : Int) }) (E := updF E i e) (parts := 1 + parts0) hRw3 (hPV2.part (n := n) hspec hne (fun h => ⟨_, mem_set_self hj2, rfl⟩)) (updF_eq _ _ _) (upin _ hin2) (by rw [List.length_set]; omega) hL4 (by omega) hne fun a5 k5 loc5 hs5 rs5 p11 p12 h1 h2 h3 h4 h5 h6 h7 => hM _ ⟨_, _, _, _, _, _, _, _, _, _, _, _, _, _, _, rfl, h1, h2, h3, fun _ => h4, by rw [List.length_set] at h5; omega, h6, by omega⟩
    · walk_at "dl"
      have hi0' : i = 0 := by omega
      refine ins_rows (hs := hs) (rs := rs) (E := updF E i e) (parts := 1 + parts0) hrw1 (hPV.part (n := n) hspec hne (fun h => by omega)) (updF_eq _ _ _) (upin _ hin) (by omega) hL' (by omega) hne fun a5 k5 loc5 hs5 rs5 p11 p12 h1 h2 h3 h4 h5 h6 h7 => hM _ ⟨_, _, _, _, _, _, _, _, _, _, _, _, _, _, _, rfl, h1, h2, h3, fun _ => h4, by omega, h6, by omega⟩
  · rintro g' ⟨N, E, rs, hs, a', k', loc, o7, o8, o9, o10, o11, o12, o13, o14, rfl, hRw, hPV, hin, hfree, hrl, hL', hk'⟩
    have hLr : (List.range (1 + parts0)).length = 1 + parts0 := List.length_range
    rw [hLr] at hPV hin hrl hk' ⊢
    have hmul2 : (1 + parts0) * (most + 1) ≤ pm * (most + 1) := Nat.mul_le_mul_right _ (by omega)
    have hpl := placesOf_len (1 + parts0) N
    walk_at "dl"
    refine o_LqW rfl rfl ?_
    refine forR hs (fun k => W.h (k + 3)) (fun j g' => ∃ (a' : Int) (k' : Nat) (loc : Sto) (rs : List Row) (o13 o14 : Option W), g' = ⟨[some (.t (.sq (ns.map T.int))), some (.t (.int pm)), some (.t (.int most)), some (.h 0), some (.t (.int (1 + parts0))), some (.h 1), some (.h 2), o7, o8, o9, o10, o11, o12, o13, o14], some (leftC a' f k') :: some (.lt ((placesOf (1 + parts0) N).map T.int)) :: some (.lw (hW hs)) :: loc⟩ ∧
      Rw loc hs rs ∧ PV (1 + parts0) (1 + parts0) N E rs ∧ PVin (1 + parts0) E rs ∧ rs.length ≤ 60 ∧ LeftOk a' f ∧ k' ≤ 1000 + j)
      rfl ⟨a', k', loc, rs, o13, o14, rfl, hRw, hPV, hin, by omega, hL', by omega⟩ (by rintro _ _ ⟨_, _, _, _, _, _, rfl, _⟩; rfl) ?_ ?_
    · rintro j x hj g' ⟨a', k', loc, rs, o13, o14, rfl, hRw, hPV, hin, hrl, hL', hk'⟩ M hM
      have hjl := (List.getElem?_eq_some_iff.mp hj).1
      have hhl := hRw.len
      obtain ⟨r, hr⟩ := getLt (xs := rs) (j := j) (by omega)
      obtain ⟨pr, hpr, ab, hab, ⟨his, _⟩, _⟩ := hPV.row r (List.mem_of_getElem? hr)
      have em : ∀ c : Option Cell, (c :: some (Cell.lt ((placesOf (1 + parts0) N).map T.int)) :: some (Cell.lw (hW hs)) :: loc)[x + 3]? = some (some (rowC r)) := fun c => hRw.get j x r hj hr
      unfold rowC at em
      have em1 := em (some (leftC a' f k'))
      have a0 : atI [T.int r.p, T.int r.s, T.int r.e, T.int r.c] 0 = some (T.int r.p) := rfl
      walk_at "dl"
      refine callS_draw0 hL' (by omega) (by omega) (by omega) fun d a2 d0 d1 hL2 => ?_
      have em2 := em (some (leftC a2 f (k' + 1 : Nat)))
      walk_at "dl"
      refine k_d (fun hc => ?_) (fun hc => ?_)
      · walk_at "dl"
        refine k_d (fun hd => ?_) (fun hd => ?_)
        · walk_at "dl"
          refine o_put em2 (ixN_nat (n := 4) (k := 3) (by decide)) ?_
          walk_at "dn"
          refine hM _ ⟨a2, k' + 1, _, rs.set j { r with c := r.p + d }, _, _, rfl, hRw.put (r := { r with c := r.p + d }) hj, hPV.call hr hc ⟨by omega, by omega⟩, hin.call hr, by rw [List.length_set]; exact hrl, hL2, by omega⟩
        · walk_at "dl"
          exact hM _ ⟨a2, k' + 1, loc, rs, _, _, rfl, hRw, hPV, hin, hrl, hL2, by omega⟩
      · walk_at "dl"
        exact hM _ ⟨a2, k' + 1, loc, rs, _, _, rfl, hRw, hPV, hin, hrl, hL2, by omega⟩
    · rintro g' ⟨a', k', loc, rs, o13, o14, rfl, hRw, hPV, hin, hrl, hL', hk'⟩
      dsimp only
      refine i_ret ?_
      refine i_tup ?_
      refine i_cons ?_
      refine i_frzH rfl rfl rfl ?_
      simp only [G.frz, List.map_cons, List.map_nil]
      have f0 : ∀ y, frzW 1 y (some (.h 0)) = some (.h 0) := fun y => rfl
      have f2 : ∀ y, frzW 1 y (some (.h 2)) = some (.h 2) := fun y => rfl
      have f1 : ∀ y, frzW 1 y (some (.h 1)) = some (.t y) := fun y => rfl
      have ft : ∀ y z, frzW 1 y (some (.t z)) = some (.t z) := fun y z => rfl
      simp only [f0, f1, f2, ft]
      generalize frzW 1 _ o7 = p7
      generalize frzW 1 _ o8 = p8
      generalize frzW 1 _ o9 = p9
      generalize frzW 1 _ o10 = p10
      generalize frzW 1 _ o11 = p11
      generalize frzW 1 _ o12 = p12
      generalize frzW 1 _ o13 = p13
      generalize frzW 1 _ o14 = p14
      walk_at "dl"
      refine o_LqW rfl rfl ?_
      refine lcP (hs.zip rs) (fun kr => W.h (kr.1 + 3)) (fun _ => true) (fun kr => kr.2.t) (hW_zip hRw.len) (lineLe (by rw [zip_len hRw.len]; omega)) rfl ?_ rfl ?_
      · rintro ⟨x, r⟩ hx Y N2 hY hN2
        obtain ⟨j, hj1, hj2⟩ := zip_at hx
        have em : (some (leftC a' f k') :: none :: some (Cell.lw (hW hs)) :: loc)[x + 3]? = some (some (.lt [.int r.p, .int r.s, .int r.e, .int r.c])) := hRw.get j x r hj1 hj2
        walk_at "dl"
        refine i_tupOfH em ?_
        exact hY rfl _ rfl
      rw [List.filter_eq_self.mpr (fun _ _ => rfl)]
      have ez : ((hs.zip rs).map fun kr => kr.2.t) = rs.map Row.t := by
        rw [show (fun kr : Nat × Row => kr.2.t) = Row.t ∘ Prod.snd from rfl, ← List.map_map, List.map_snd_zip (by rw [hRw.len]; exact Nat.le_refl _)]
      rw [ez]
      walk_at "dl"
      refine ⟨by decide, ?_⟩
      have q := hQ ⟨placesOf (1 + parts0) N, rs⟩ (web_ok2 hPV hin (by omega) (by omega) hrl) (by show (placesOf (1 + parts0) N).length ≤ pm; omega)
      exact fin_s [] [] [] (.t (Web.t ⟨placesOf (1 + parts0) N, rs⟩)) List.nodup_nil (fun j hj => by simp at hj) rfl rfl rfl (fun i c e => by simp at e) q

end DL

namespace DL
open PySem PySem.Spec L2
local macro_rules | `(tactic| walk_at "dn") => `(tactic| simp only [purse_set2, purse_set3, purse_set4, purse_set5, purse_app, purse_len, purse_start, purse_l, G.set, G.put, G.push, G.wipe, wipeW, G.rs, rsW, List.set_cons_zero, List.set_cons_succ, List.map_cons, List.map_nil, List.length_cons, List.length_nil, List.nil_append, List.cons_append, List.replicate_succ, List.replicate_zero, Nat.reduceAdd, Nat.reduceSub, List.getD_cons_zero, List.getD_cons_succ, Option.getD_some, Option.getD_none])
local macro_rules | `(tactic| walk_at "d1") => `(tactic| first
  | with_reducible refine i_seq ?_
  | with_reducible refine i_asg ?_
  | with_reducible refine i_d2 ?_
  | ((with_reducible refine' i_var ?e ?_); (case e => rfl))
  | with_reducible refine i_c ?_
  | ((with_reducible refine' i_ix ?e ?v ?_); (case e => rfl); (case v => first | assumption | rfl))
  | with_reducible refine i_fI0 ?_
  | with_reducible refine i_gN ?_
  | with_reducible refine i_cons ?_
  | with_reducible refine i_nil ?_
  | with_reducible refine i_dN ?_
  | ((with_reducible refine' i_len ?e ?_); (case e => rfl))
  | with_reducible refine i_d1 ?_
  | with_reducible refine i_neg ?_
  | with_reducible refine i_B ?_
  | with_reducible refine o_B ?_
  | with_reducible refine o_I ?_
  | with_reducible refine i_ifS ?_
  | with_reducible refine i_or ?_
  | with_reducible refine i_and ?_
  | with_reducible refine i_not ?_
  | with_reducible refine i_andV ?_
  | with_reducible refine i_orV ?_
  | with_reducible refine i_notV ?_
  | with_reducible refine i_if ?_
  | with_reducible refine i_yes ?_
  | with_reducible refine k_T ?_
  | with_reducible refine k_F ?_
  | with_reducible refine k_True ?_
  | with_reducible refine k_False ?_
  | with_reducible refine i_eqI ?_
  | with_reducible refine i_neI ?_
  | with_reducible refine i_addI ?_
  | with_reducible refine i_addHI ?_
  | with_reducible refine i_callT ?_
  | with_reducible refine i_callH ?_
  | ((with_reducible refine' o_Ts ?e ?_); (case e => rfl))
  | with_reducible refine o_T ?_
  | ((with_reducible refine' o_TF ?e ?_); (case e => rfl))
  | with_reducible refine o_H ?_
  | ((with_reducible refine' o_HF ?e ?_); (case e => rfl))
  | with_reducible refine i_next ?_
  | with_reducible refine i_drop ?_
  | with_reducible refine i_ret ?_
  | with_reducible refine i_retN ?_
  | ((with_reducible refine' i_gTup ?e ?_); (case e => rfl))
  | with_reducible refine i_gCons ?_
  | with_reducible refine i_gNil ?_
  | with_reducible refine i_min2 ?_
  | with_reducible refine i_max2 ?_
  | with_reducible refine i_par ?_
  | with_reducible refine o_W2 ?_
  | ((with_reducible refine' i_aug ?e ?_); (case e => rfl))
  | with_reducible refine i_intI ?_
  | with_reducible refine i_intB ?_
  | with_reducible refine i_lc ?_
  | with_reducible refine i_for ?_
  | with_reducible refine i_while ?_
  | with_reducible refine i_itL ?_
  | ((with_reducible refine' o_Lq ?e ?_); (case e => rfl))
  | with_reducible refine i_itR1 ?_
  | with_reducible refine i_itR2 ?_
  | with_reducible refine o_I1 ?_
  | with_reducible refine o_I2 ?_
  | with_reducible refine e_t ?_
  | ((with_reducible refine' e_h ?e ?p ?_); (case e => rfl); (case p => rfl))
  | with_reducible refine i_M ?_
  | with_reducible refine i_M0 ?_
  | with_reducible refine i_gSub ?_
  | with_reducible refine i_finH ?_
  | with_reducible refine i_finT ?_
  | with_reducible refine i_sl ?_
  | with_reducible refine i_slH ?_
  | with_reducible refine i_slT ?_
  | with_reducible refine i_noPart ?_
  | with_reducible refine i_part ?_
  | ((with_reducible refine' i_frzT ?e ?_); (case e => rfl))
  | ((with_reducible refine' i_frzH ?e ?m ?t ?_); (case e => rfl); (case m => rfl); (case t => rfl))
  | ((with_reducible refine' i_din ?k ?e ?_); (case k => rfl); (case e => rfl))
  | ((with_reducible refine' i_dnotin ?k ?e ?_); (case k => rfl); (case e => rfl))
  | with_reducible refine i_dput ?_
  | with_reducible refine i_newD ?_
  | with_reducible refine i_lstH ?_
  | with_reducible refine i_lst ?_
  | with_reducible refine i_tup ?_
  | with_reducible refine i_break ?_
  | with_reducible refine i_cont ?_
  | with_reducible refine i_callS ?_
  | ((with_reducible refine' i_ixHW ?e ?v ?_); (case e => first | rfl | assumption); (case v => first | assumption | rfl))
  | ((with_reducible refine' i_ixHT ?e ?v ?_); (case e => first | rfl | assumption); (case v => first | assumption | rfl))
  | ((with_reducible refine' i_lenHT ?e ?_); (case e => first | rfl | assumption))
  | ((with_reducible refine' i_lenHW ?e ?_); (case e => first | rfl | assumption))
  | ((with_reducible refine' i_frzH ?e ?m ?t ?_); (case e => rfl); (case m => rfl); (case t => rfl))
  | ((with_reducible refine' i_unw ?e ?n ?_); (case e => rfl); (case n => rfl))
  | with_reducible refine i_gwCons ?_
  | with_reducible refine i_gwNil ?_
  | with_reducible refine i_lstW ?_
  | ((with_reducible refine' i_gList ?e ?n ?_); (case e => rfl); (case n => rfl))
  | with_reducible refine i_listRgH ?_
  | with_reducible refine i_listRg ?_
  | with_reducible refine i_R1 ?_
  | with_reducible refine i_getD ?_
  | ((with_reducible refine' i_none ?k ?_); (case k => rfl))
  | walk_at "dn")
local macro_rules | `(tactic| walk_at "dl") => `(tactic| ((try walk_at "dn"); repeat walk_at "d1"))
/-! equality of plain data with itself -/
theorem eqvAll_self : ∀ xs : List T, (∀ x ∈ xs, teq x x = true) → PyData.eqvAll (xs.map T.pd) (xs.map T.pd) = true
  | [], _ => by simp [PyData.eqvAll]
  | x :: xs, h => by
    have h1 := h x (by simp)
    unfold teq at h1
    rw [List.map_cons]
    simp only [PyData.eqvAll]
    rw [h1, eqvAll_self xs fun y hy => h y (by simp [hy])]
    rfl
theorem teq_lst {xs : List T} (h : ∀ x ∈ xs, teq x x = true) : teq (.lst xs) (.lst xs) = true := by
  unfold teq
  simp only [T.pd, PyData.eqv]
  exact eqvAll_self xs h
theorem teq_tup {xs : List T} (h : ∀ x ∈ xs, teq x x = true) : teq (.tup xs) (.tup xs) = true := by
  unfold teq
  simp only [T.pd, PyData.eqv]
  exact eqvAll_self xs h
theorem teq_int (i : Int) : teq (.int i) (.int i) = true := by
  unfold teq
  simp only [T.pd, PyData.eqv]
  simp
theorem teq_ints (xs : List Int) : teq (.lst (xs.map T.int)) (.lst (xs.map T.int)) = true := teq_lst fun x hx => by
  obtain ⟨i, _, rfl⟩ := List.mem_map.mp hx
  exact teq_int i
theorem teq_web (w : Web) : teq w.t w.t = true := by
  unfold Web.t
  refine teq_tup fun x hx => ?_
  have : x = .lst (w.places.map T.int) ∨ x = .lst (w.rows.map Row.t) := by simpa using hx
  rcases this with rfl | rfl
  · exact teq_ints _
  · refine teq_lst fun x hx => ?_
    obtain ⟨r, _, rfl⟩ := List.mem_map.mp hx
    unfold Row.t
    refine teq_tup fun y hy => ?_
    have : y = .int r.p ∨ y = .int r.s ∨ y = .int r.e ∨ y = .int r.c := by simpa using hy
    rcases this with rfl | rfl | rfl | rfl <;> exact teq_int _
theorem sh_web (w : Web) (n : Nat) : w.t.sh (n + 3) = true := by
  simp [Web.t, T.sh, Row.t]
theorem sh_ints (n : Nat) (xs : List Int) : (T.lst (xs.map T.int)).sh (n + 1) = true := by
  simp [T.sh]
/-! a law that answers True at every script -/
def C_law : SC := fun ws m QC => ∃ ns : List Int, ws = [.t (.sq (ns.map T.int))] ∧ m = [] ∧ ns.length ≤ 63 ∧ (∀ z ∈ ns, Builtin.Int.intBits z ≤ 1048576) ∧ QC (.t (.bl true)) [] []
theorem ln_law : ∀ ws m Q, C_law ws m Q → ws.length = ["_law_script"].length := by rintro ws m Q ⟨_, rfl, _⟩; rfl
theorem fin_true {QC : W → List Cell → List Cell → Prop} {g : G} (q : QC (.t (.bl true)) [] []) : FinS 0 QC (.t (.bl true)) g :=
  fin_s [] [] [] (.t (.bl true)) List.nodup_nil (fun j hj => by simp at hj) rfl rfl rfl (fun i c e => by simp at e) q
theorem callS_web2 {ns : List Int} {pm most : Nat} {sl : List (Option W)} {mem : Sto} {Q : W → G → Prop} (hns : ∀ z ∈ ns, Builtin.Int.intBits z ≤ 1048576) (h1 : 1 ≤ pm) (h4 : pm ≤ 4) (hm : most ≤ 14) (hpm : pm * (most + 1) ≤ 60)
    (h : ∀ w : Web, w.Ok → w.places.length ≤ pm → Q (.t w.t) ⟨sl, mem⟩) : callS C__law_web [.t (.sq (ns.map T.int)), .t (.int pm), .t (.int most)] ⟨sl, mem⟩ Q := by
  refine ⟨[], [], [.t (.sq (ns.map T.int)), .t (.int pm), .t (.int most)], List.nodup_nil, rfl, rfl, fun i c e => by simp at e, ns, pm, most, rfl, rfl, hns, h1, h4, hm, hpm, fun w hok hl => ⟨.t w.t, [], [], rfl, rfl, rfl, ?_⟩⟩
  rw [List.map_nil, List.append_nil]
  exact h w hok hl
/-! loops, lists -/
theorem foldG {ι : Type} (pre acc : List ι) : pre.foldl (fun a x => a ++ [x]) acc = acc ++ pre := by
  induction pre generalizing acc with
  | nil => rw [List.foldl_nil, List.append_nil]
  | cons x pre ih => rw [List.foldl_cons, ih, List.append_assoc]; rfl
/-- a loop, with what has been gone through -/
theorem forG {D : De} {g1 : G} {gt : DGt} {tb : DSt} {ws : List W} {St : G → Prop} {ι : Type} (items : List ι) (enc : ι → W) (R : List ι → G → Prop) (hws : ws = items.map enc) (h0 : R [] g1) (hSt : ∀ b g, R b g → St g)
    (hstep : ∀ pre x post, items = pre ++ x :: post → ∀ g', R pre g' → ∀ N : G → Prop, (∀ g'', R (pre ++ [x]) g'' → N g'') → gt (enc x) g' fun g2 => tb { D with nx := N, ct := N, bk := D.nx } g2)
    (hQ : ∀ g', R items g' → D.nx g') : forI ws St g1 gt tb D := by
  refine forP items enc (fun a x => a ++ [x]) R [] hws h0 hSt ?_ ?_
  · intro pre x post hs g' hR N hN
    rw [foldG, List.nil_append] at hR hN
    exact hstep pre x post hs g' hR N hN
  · intro g' hR
    rw [foldG, List.nil_append] at hR
    exact hQ g' hR
theorem i_inI {g : G} {Q : W → G → Prop} {x : Int} {y : W} {xs : List Int} (e : g.seq? y = some (xs.map T.int)) (h : Q (.t (.bl (decide (x ∈ xs)))) g) : fIn false g (.t (.int x)) y Q := by
  refine i_in e rfl (fun t ht => ?_) ?_
  · obtain ⟨i, _, rfl⟩ := List.mem_map.mp ht
    rfl
  · rw [inT_ints]
    exact h
theorem i_ninI {g : G} {Q : W → G → Prop} {x : Int} {y : W} {xs : List Int} (e : g.seq? y = some (xs.map T.int)) (h : Q (.t (.bl (!decide (x ∈ xs)))) g) : fIn true g (.t (.int x)) y Q := by
  refine i_notIn e rfl (fun t ht => ?_) ?_
  · obtain ⟨i, _, rfl⟩ := List.mem_map.mp ht
    rfl
  · rw [inT_ints]
    exact h
theorem teq_pair (a b c d : Int) : teq (.tup [.int a, .int b]) (.tup [.int c, .int d]) = (decide (a = c) && decide (b = d)) := by
  unfold teq
  simp only [T.pd, PyData.eqv, List.map_cons, List.map_nil, PyData.eqvAll, Bool.beq_eq_decide_eq, Bool.and_true]
theorem set_same {α : Type} {xs : List α} {i : Nat} {x : α} (h : xs[i]? = some x) : xs.set i x = xs := by
  refine List.ext_getElem? fun j => ?_
  rw [List.getElem?_set]
  by_cases e : i = j
  · subst e
    rw [if_pos rfl, if_pos (List.getElem?_eq_some_iff.mp h).1, h]
  · rw [if_neg e]
theorem at_last {α : Type} {xs : List α} {x : α} : (xs ++ [x])[xs.length]? = some x := by
  rw [List.getElem?_append_right (Nat.le_refl _), Nat.sub_self]
  rfl
theorem at_more {α : Type} {xs ys : List α} {n : Nat} {x : α} (h : xs[n]? = some x) : (xs ++ ys)[n]? = some x := by
  rw [List.getElem?_append_left (List.getElem?_eq_some_iff.mp h).1]
  exact h
theorem flat_one {α : Type} : ∀ xs : List α, (List.replicate xs.length [T.int 0]).flatten = xs.map fun _ => T.int 0
  | [] => rfl
  | x :: xs => by
    show [T.int 0] ++ (List.replicate xs.length [T.int 0]).flatten = T.int 0 :: xs.map fun _ => T.int 0
    rw [flat_one xs]
    rfl
theorem flat_rep (n : Nat) : (List.replicate n [T.int 0]).flatten = (List.replicate n (0 : Int)).map T.int := by
  induction n with
  | zero => rfl
  | succ n ih =>
    show [T.int 0] ++ (List.replicate n [T.int 0]).flatten = T.int 0 :: (List.replicate n (0 : Int)).map T.int
    rw [ih]
    rfl
def upTo (n : Nat) : List Int := (List.range n).map fun k => ((k : Nat) : Int)

end DL

namespace DL
open PySem PySem.Spec L2
local macro_rules | `(tactic| walk_at "dn") => `(tactic| simp only [purse_set2, purse_set3, purse_set4, purse_set5, purse_app, purse_len, purse_start, purse_l, G.set, G.put, G.push, G.wipe, wipeW, G.rs, rsW, List.set_cons_zero, List.set_cons_succ, List.map_cons, List.map_nil, List.length_cons, List.length_nil, List.nil_append, List.cons_append, List.replicate_succ, List.replicate_zero, Nat.reduceAdd, Nat.reduceSub, List.getD_cons_zero, List.getD_cons_succ, Option.getD_some, Option.getD_none])
local macro_rules | `(tactic| walk_at "d1") => `(tactic| first
  | with_reducible refine i_seq ?_
  | with_reducible refine i_asg ?_
  | with_reducible refine i_d2 ?_
  | ((with_reducible refine' i_var ?e ?_); (case e => rfl))
  | with_reducible refine i_c ?_
  | ((with_reducible refine' i_ix ?e ?v ?_); (case e => rfl); (case v => first | assumption | rfl))
  | with_reducible refine i_fI0 ?_
  | with_reducible refine i_gN ?_
  | with_reducible refine i_cons ?_
  | with_reducible refine i_nil ?_
  | with_reducible refine i_dN ?_
  | ((with_reducible refine' i_len ?e ?_); (case e => rfl))
  | with_reducible refine i_d1 ?_
  | with_reducible refine i_neg ?_
  | with_reducible refine i_B ?_
  | with_reducible refine o_B ?_
  | with_reducible refine o_I ?_
  | with_reducible refine i_ifS ?_
  | with_reducible refine i_or ?_
  | with_reducible refine i_and ?_
  | with_reducible refine i_not ?_
  | with_reducible refine i_andV ?_
  | with_reducible refine i_orV ?_
  | with_reducible refine i_notV ?_
  | with_reducible refine i_if ?_
  | with_reducible refine i_yes ?_
  | with_reducible refine k_T ?_
  | with_reducible refine k_F ?_
  | with_reducible refine k_True ?_
  | with_reducible refine k_False ?_
  | with_reducible refine i_eqI ?_
  | with_reducible refine i_neI ?_
  | with_reducible refine i_addI ?_
  | with_reducible refine i_addHI ?_
  | with_reducible refine i_callT ?_
  | with_reducible refine i_callH ?_
  | ((with_reducible refine' o_Ts ?e ?_); (case e => rfl))
  | with_reducible refine o_T ?_
  | ((with_reducible refine' o_TF ?e ?_); (case e => rfl))
  | with_reducible refine o_H ?_
  | ((with_reducible refine' o_HF ?e ?_); (case e => rfl))
  | with_reducible refine i_next ?_
  | with_reducible refine i_drop ?_
  | with_reducible refine i_ret ?_
  | with_reducible refine i_retN ?_
  | ((with_reducible refine' i_gTup ?e ?_); (case e => rfl))
  | with_reducible refine i_gCons ?_
  | with_reducible refine i_gNil ?_
  | with_reducible refine i_min2 ?_
  | with_reducible refine i_max2 ?_
  | with_reducible refine i_par ?_
  | with_reducible refine o_W2 ?_
  | ((with_reducible refine' i_aug ?e ?_); (case e => rfl))
  | with_reducible refine i_intI ?_
  | with_reducible refine i_intB ?_
  | with_reducible refine i_lc ?_
  | with_reducible refine i_for ?_
  | with_reducible refine i_while ?_
  | with_reducible refine i_itL ?_
  | ((with_reducible refine' o_Lq ?e ?_); (case e => rfl))
  | with_reducible refine i_itR1 ?_
  | with_reducible refine i_itR2 ?_
  | with_reducible refine o_I1 ?_
  | with_reducible refine o_I2 ?_
  | with_reducible refine e_t ?_
  | ((with_reducible refine' e_h ?e ?p ?_); (case e => rfl); (case p => rfl))
  | with_reducible refine i_M ?_
  | with_reducible refine i_M0 ?_
  | with_reducible refine i_gSub ?_
  | with_reducible refine i_finH ?_
  | with_reducible refine i_finT ?_
  | with_reducible refine i_sl ?_
  | with_reducible refine i_slH ?_
  | with_reducible refine i_slT ?_
  | with_reducible refine i_noPart ?_
  | with_reducible refine i_part ?_
  | ((with_reducible refine' i_frzT ?e ?_); (case e => rfl))
  | ((with_reducible refine' i_frzH ?e ?m ?t ?_); (case e => rfl); (case m => rfl); (case t => rfl))
  | ((with_reducible refine' i_din ?k ?e ?_); (case k => rfl); (case e => rfl))
  | ((with_reducible refine' i_dnotin ?k ?e ?_); (case k => rfl); (case e => rfl))
  | with_reducible refine i_dput ?_
  | with_reducible refine i_newD ?_
  | with_reducible refine i_lstH ?_
  | with_reducible refine i_lst ?_
  | with_reducible refine i_tup ?_
  | with_reducible refine i_break ?_
  | with_reducible refine i_cont ?_
  | with_reducible refine i_callS ?_
  | ((with_reducible refine' i_ixHW ?e ?v ?_); (case e => first | rfl | assumption); (case v => first | assumption | rfl))
  | ((with_reducible refine' i_ixHT ?e ?v ?_); (case e => first | rfl | assumption); (case v => first | assumption | rfl))
  | ((with_reducible refine' i_lenHT ?e ?_); (case e => first | rfl | assumption))
  | ((with_reducible refine' i_lenHW ?e ?_); (case e => first | rfl | assumption))
  | ((with_reducible refine' i_frzH ?e ?m ?t ?_); (case e => rfl); (case m => rfl); (case t => rfl))
  | ((with_reducible refine' i_unw ?e ?n ?_); (case e => rfl); (case n => rfl))
  | with_reducible refine i_gwCons ?_
  | with_reducible refine i_gwNil ?_
  | with_reducible refine i_lstW ?_
  | ((with_reducible refine' i_gList ?e ?n ?_); (case e => rfl); (case n => rfl))
  | with_reducible refine i_listRgH ?_
  | with_reducible refine i_listRg ?_
  | with_reducible refine i_R1 ?_
  | with_reducible refine i_getD ?_
  | ((with_reducible refine' i_none ?k ?_); (case k => rfl))
  | walk_at "dn")
local macro_rules | `(tactic| walk_at "dl") => `(tactic| ((try walk_at "dn"); repeat walk_at "d1"))
def C__law_copy : PC := fun ts Q => ∃ w : Web, ts = [w.t] ∧ Q (.t w.t)
theorem ln__law_copy : ∀ ts Q, C__law_copy ts Q → ts.length = ["a"].length := by rintro ts Q ⟨_, rfl, _⟩; rfl
def rd__law_copy : DSt :=
  dRet (dTup (dCons (dN fListOf (dCons (d2 fIx (dVar 0) (dC (.int 0))) (dNil))) (dCons (dN fListOf (dCons (d2 fIx (dVar 0) (dC (.int 1))) (dNil))) (dNil))))

theorem rp__law_copy : ∀ ts Q, C__law_copy ts Q → rd__law_copy ⟨FinP Q (.t .non), FinP Q, fun _ => False, fun _ => False⟩ ⟨ts.map (fun t => some (W.t t)) ++ List.replicate (1 - ts.length) none, []⟩ := by
  rintro ts Q ⟨w, rfl, hQ⟩
  unfold rd__law_copy Web.t at *
  walk_at "dl"
  refine i_listOf rfl ?_
  walk_at "dl"
  refine i_listOf rfl ?_
  walk_at "dl"
  refine ⟨by decide, ?_⟩
  walk_at "dl"
  exact hQ

end DL

namespace DL
open PySem PySem.Spec L2
local macro_rules | `(tactic| walk_at "dn") => `(tactic| simp only [purse_set2, purse_set3, purse_set4, purse_set5, purse_app, purse_len, purse_start, purse_l, G.set, G.put, G.push, G.wipe, wipeW, G.rs, rsW, List.set_cons_zero, List.set_cons_succ, List.map_cons, List.map_nil, List.length_cons, List.length_nil, List.nil_append, List.cons_append, List.replicate_succ, List.replicate_zero, Nat.reduceAdd, Nat.reduceSub, List.getD_cons_zero, List.getD_cons_succ, Option.getD_some, Option.getD_none])
local macro_rules | `(tactic| walk_at "d1") => `(tactic| first
  | with_reducible refine i_seq ?_
  | with_reducible refine i_asg ?_
  | with_reducible refine i_d2 ?_
  | ((with_reducible refine' i_var ?e ?_); (case e => rfl))
  | with_reducible refine i_c ?_
  | ((with_reducible refine' i_ix ?e ?v ?_); (case e => rfl); (case v => first | assumption | rfl))
  | with_reducible refine i_fI0 ?_
  | with_reducible refine i_gN ?_
  | with_reducible refine i_cons ?_
  | with_reducible refine i_nil ?_
  | with_reducible refine i_dN ?_
  | ((with_reducible refine' i_len ?e ?_); (case e => rfl))
  | with_reducible refine i_d1 ?_
  | with_reducible refine i_neg ?_
  | with_reducible refine i_B ?_
  | with_reducible refine o_B ?_
  | with_reducible refine o_I ?_
  | with_reducible refine i_ifS ?_
  | with_reducible refine i_or ?_
  | with_reducible refine i_and ?_
  | with_reducible refine i_not ?_
  | with_reducible refine i_andV ?_
  | with_reducible refine i_orV ?_
  | with_reducible refine i_notV ?_
  | with_reducible refine i_if ?_
  | with_reducible refine i_yes ?_
  | with_reducible refine k_T ?_
  | with_reducible refine k_F ?_
  | with_reducible refine k_True ?_
  | with_reducible refine k_False ?_
  | with_reducible refine i_eqI ?_
  | with_reducible refine i_neI ?_
  | with_reducible refine i_addI ?_
  | with_reducible refine i_addHI ?_
  | with_reducible refine i_callT ?_
  | with_reducible refine i_callH ?_
  | ((with_reducible refine' o_Ts ?e ?_); (case e => rfl))
  | with_reducible refine o_T ?_
  | ((with_reducible refine' o_TF ?e ?_); (case e => rfl))
  | with_reducible refine o_H ?_
  | ((with_reducible refine' o_HF ?e ?_); (case e => rfl))
  | with_reducible refine i_next ?_
  | with_reducible refine i_drop ?_
  | with_reducible refine i_ret ?_
  | with_reducible refine i_retN ?_
  | ((with_reducible refine' i_gTup ?e ?_); (case e => rfl))
  | with_reducible refine i_gCons ?_
  | with_reducible refine i_gNil ?_
  | with_reducible refine i_min2 ?_
  | with_reducible refine i_max2 ?_
  | with_reducible refine i_par ?_
  | with_reducible refine o_W2 ?_
  | ((with_reducible refine' i_aug ?e ?_); (case e => rfl))
  | with_reducible refine i_intI ?_
  | with_reducible refine i_intB ?_
  | with_reducible refine i_lc ?_
  | with_reducible refine i_for ?_
  | with_reducible refine i_while ?_
  | with_reducible refine i_itL ?_
  | ((with_reducible refine' o_Lq ?e ?_); (case e => rfl))
  | with_reducible refine i_itR1 ?_
  | with_reducible refine i_itR2 ?_
  | with_reducible refine o_I1 ?_
  | with_reducible refine o_I2 ?_
  | with_reducible refine e_t ?_
  | ((with_reducible refine' e_h ?e ?p ?_); (case e => rfl); (case p => rfl))
  | with_reducible refine i_M ?_
  | with_reducible refine i_M0 ?_
  | with_reducible refine i_gSub ?_
  | with_reducible refine i_finH ?_
  | with_reducible refine i_finT ?_
  | with_reducible refine i_sl ?_
  | with_reducible refine i_slH ?_
  | with_reducible refine i_slT ?_
  | with_reducible refine i_noPart ?_
  | with_reducible refine i_part ?_
  | ((with_reducible refine' i_frzT ?e ?_); (case e => rfl))
  | ((with_reducible refine' i_frzH ?e ?m ?t ?_); (case e => rfl); (case m => rfl); (case t => rfl))
  | ((with_reducible refine' i_din ?k ?e ?_); (case k => rfl); (case e => rfl))
  | ((with_reducible refine' i_dnotin ?k ?e ?_); (case k => rfl); (case e => rfl))
  | with_reducible refine i_dput ?_
  | with_reducible refine i_newD ?_
  | with_reducible refine i_lstH ?_
  | with_reducible refine i_lst ?_
  | with_reducible refine i_tup ?_
  | with_reducible refine i_break ?_
  | with_reducible refine i_cont ?_
  | with_reducible refine i_callS ?_
  | ((with_reducible refine' i_ixHW ?e ?v ?_); (case e => first | rfl | assumption); (case v => first | assumption | rfl))
  | ((with_reducible refine' i_ixHT ?e ?v ?_); (case e => first | rfl | assumption); (case v => first | assumption | rfl))
  | ((with_reducible refine' i_lenHT ?e ?_); (case e => first | rfl | assumption))
  | ((with_reducible refine' i_lenHW ?e ?_); (case e => first | rfl | assumption))
  | ((with_reducible refine' i_frzH ?e ?m ?t ?_); (case e => rfl); (case m => rfl); (case t => rfl))
  | ((with_reducible refine' i_unw ?e ?n ?_); (case e => rfl); (case n => rfl))
  | with_reducible refine i_gwCons ?_
  | with_reducible refine i_gwNil ?_
  | with_reducible refine i_lstW ?_
  | ((with_reducible refine' i_gList ?e ?n ?_); (case e => rfl); (case n => rfl))
  | with_reducible refine i_listRgH ?_
  | with_reducible refine i_listRg ?_
  | with_reducible refine i_R1 ?_
  | with_reducible refine i_getD ?_
  | ((with_reducible refine' i_none ?k ?_); (case k => rfl))
  | walk_at "dn")
local macro_rules | `(tactic| walk_at "dl") => `(tactic| ((try walk_at "dn"); repeat walk_at "d1"))
/-! generator 2: how far the end of a part is, runs -/
def dI (ks : List Int) (F : Int → Int) : Cell := .dt (ks.map Sum.inl) (ks.map fun x => T.int (F x))
theorem look_dI {b : Int} {F : Int → Int} : ∀ ks : List Int, look (ks.map Sum.inl) (ks.map fun x => T.int (F x)) (Sum.inl b) = if b ∈ ks then some (T.int (F b)) else none
  | [] => rfl
  | k :: ks => by
    rw [List.map_cons, List.map_cons]
    unfold look
    by_cases e : k = b
    · subst e
      rw [if_pos rfl, if_pos (by simp)]
    · rw [if_neg (fun z => e (by injection z)), look_dI ks]
      by_cases h : b ∈ ks
      · rw [if_pos h, if_pos (List.mem_cons_of_mem _ h)]
      · rw [if_neg h, if_neg (fun z => by rcases List.mem_cons.mp z with z | z; exact e z.symm; exact h z)]
theorem look_in {b : Int} {F : Int → Int} {ks : List Int} (h : b ∈ ks) : look (ks.map Sum.inl) (ks.map fun x => T.int (F x)) (Sum.inl b) = some (T.int (F b)) := by rw [look_dI, if_pos h]
theorem look_is {b : Int} {F : Int → Int} (ks : List Int) : (look (ks.map Sum.inl) (ks.map fun x => T.int (F x)) (Sum.inl b)).isSome = decide (b ∈ ks) := by
  rw [look_dI]
  by_cases h : b ∈ ks
  · rw [if_pos h, decide_eq_true h]; rfl
  · rw [if_neg h, decide_eq_false h]; rfl
theorem has_no {b : Int} {ks : List Int} (h : b ∉ ks) : hasK (ks.map Sum.inl) (Sum.inl b : Key) = false := by
  unfold hasK
  rw [List.any_eq_false]
  intro x hx
  obtain ⟨y, hy, rfl⟩ := List.mem_map.mp hx
  intro z
  have := of_decide_eq_true z
  injection this with this
  subst this
  exact h hy
theorem putKs_new {b : Int} {ks : List Int} (h : b ∉ ks) : putKs (ks.map Sum.inl) (Sum.inl b) = (ks ++ [b]).map Sum.inl := by
  unfold putKs
  rw [has_no h, List.map_append]
  rfl
def updI (F : Int → Int) (x v : Int) : Int → Int := fun y => if y = x then v else F y
theorem updI_eq (F : Int → Int) (x v : Int) : updI F x v x = v := if_pos rfl
theorem updI_ne (F : Int → Int) (x v : Int) {y : Int} (h : y ≠ x) : updI F x v y = F y := if_neg h
theorem putXs_new {b v : Int} {ks : List Int} {F : Int → Int} (h : b ∉ ks) : putXs (ks.map Sum.inl) (ks.map fun x => T.int (F x)) (Sum.inl b) (T.int v) = (ks ++ [b]).map fun x => T.int (updI F b v x) := by
  unfold putXs
  rw [has_no h, List.map_append]
  show _ ++ [T.int v] = _ ++ [T.int (updI F b v b)]
  rw [updI_eq]
  congr 1
  refine List.map_congr_left fun x hx => ?_
  rw [updI_ne _ _ _ (fun z => h (by rw [← z]; exact hx))]
def Web.fromP (w : Web) (p x : Int) : List Nat := (List.range w.rows.length).filter fun k => decide ((w.row k).p = p) && decide ((w.row k).s = x)
theorem mem_fromP {w : Web} {p x : Int} {k : Nat} : k ∈ w.fromP p x ↔ k < w.rows.length ∧ (w.row k).p = p ∧ (w.row k).s = x := by
  unfold Web.fromP
  rw [List.mem_filter, List.mem_range]
  simp
theorem fromP_len (w : Web) (p x : Int) : (w.fromP p x).length ≤ w.rows.length := by
  unfold Web.fromP
  exact Nat.le_trans (List.length_filter_le _ _) (by rw [List.length_range]; exact Nat.le_refl _)
theorem has_yes {b : Int} {ks : List Int} (h : b ∈ ks) : hasK (ks.map Sum.inl) (Sum.inl b : Key) = true := by
  unfold hasK
  rw [List.any_eq_true]
  exact ⟨Sum.inl b, List.mem_map.mpr ⟨b, h, rfl⟩, decide_eq_true rfl⟩
theorem putAll_dI {b v : Int} {F : Int → Int} : ∀ ks : List Int, putAll (Sum.inl b : Key) (T.int v) (ks.map Sum.inl) (ks.map fun x => T.int (F x)) = ks.map fun x => T.int (updI F b v x)
  | [] => rfl
  | k :: ks => by
    rw [List.map_cons, List.map_cons, List.map_cons]
    unfold putAll
    rw [putAll_dI ks]
    by_cases e : k = b
    · subst e
      rw [if_pos rfl, updI_eq]
    · rw [if_neg (fun z => e (by injection z)), updI_ne _ _ _ e]
theorem put_dI {b v : Int} {ks : List Int} {F : Int → Int} : Cell.dt (putKs (ks.map Sum.inl) (Sum.inl b)) (putXs (ks.map Sum.inl) (ks.map fun x => T.int (F x)) (Sum.inl b) (T.int v)) = dI (ins ks b) (updI F b v) := by
  unfold dI ins
  by_cases h : b ∈ ks
  · rw [if_pos h]
    unfold putKs putXs
    rw [has_yes h]
    rw [if_pos rfl, if_pos rfl, putAll_dI]
  · rw [if_neg h, putKs_new h, putXs_new h]
/-! how far the end is -/
structure FarI (w : Web) (p : Int) (ks : List Int) (F : Int → Int) : Prop where
  nd : ks.Nodup
  one : 1 ∈ ks
  inr : ∀ x ∈ ks, 0 ≤ x ∧ x < w.place p
  bd : ∀ x ∈ ks, 0 ≤ F x ∧ F x < ks.length
  st : ∀ x ∈ ks, x ≠ 1 → ∃ k ∈ w.fromP p x, (w.row k).e ∈ ks ∧ F (w.row k).e < F x
theorem FarI.start {w : Web} {p : Int} (h : 1 < w.place p) : FarI w p [1] (fun _ => 0) where
  nd := by simp
  one := by simp
  inr := fun x hx => by simp at hx; omega
  bd := fun x hx => ⟨Int.le_refl _, by simp⟩
  st := fun x hx h1 => by simp at hx; exact absurd hx h1
theorem range_len {ks : List Int} {n : Int} (h0 : 0 ≤ n) (nd : ks.Nodup) (h : ∀ x ∈ ks, 0 ≤ x ∧ x < n) : (ks.length : Int) ≤ n := by
  obtain ⟨m, rfl⟩ := Int.eq_ofNat_of_zero_le h0
  have h5 := nd.length_le_of_subset (l₂ := (List.range m).map fun k => ((k : Nat) : Int)) (by
    intro x hx
    have := h x hx
    rw [List.mem_map]
    exact ⟨x.toNat, by rw [List.mem_range]; omega, by omega⟩)
  rw [List.length_map, List.length_range] at h5
  omega
def minI (i j : Int) : Int := if j < i then j else i
theorem FarI.next {w : Web} {p : Int} {ks : List Int} {F : Int → Int} (h : FarI w p ks F) {k : Nat} (hk : k < w.rows.length) (hp : (w.row k).p = p) (hs : (w.row k).s ≠ 1) (hr : 0 ≤ (w.row k).s ∧ (w.row k).s < w.place p) (he : (w.row k).e ∈ ks) :
    FarI w p (ins ks (w.row k).s) (updI F (w.row k).s (minI (if (w.row k).s ∈ ks then F (w.row k).s else 99) (F (w.row k).e + 1))) ∨ (ks.length : Int) > 90 := by
  by_cases hlen : (ks.length : Int) > 90
  · exact .inr hlen
  refine .inl ?_
  have hb := h.bd _ he
  by_cases hx : (w.row k).s ∈ ks
  · rw [if_pos hx]
    have ei : ins ks (w.row k).s = ks := by unfold ins; rw [if_pos hx]
    rw [ei]
    have hv : minI (F (w.row k).s) (F (w.row k).e + 1) ≤ F (w.row k).s := by unfold minI; split <;> omega
    have hle : ∀ y, updI F (w.row k).s (minI (F (w.row k).s) (F (w.row k).e + 1)) y ≤ F y := fun y => by
      by_cases e : y = (w.row k).s
      · subst e
        rw [updI_eq]
        exact hv
      · rw [updI_ne _ _ _ e]
        exact Int.le_refl _
    refine ⟨h.nd, h.one, h.inr, fun x hx2 => ⟨?_, Int.lt_of_le_of_lt (hle x) (h.bd x hx2).2⟩, fun x hx2 h1 => ?_⟩
    · by_cases e : x = (w.row k).s
      · subst e
        rw [updI_eq]
        have := h.bd _ hx
        unfold minI
        split <;> omega
      · rw [updI_ne _ _ _ e]
        exact (h.bd x hx2).1
    · by_cases e : x = (w.row k).s
      · subst e
        rw [updI_eq]
        by_cases hc : F (w.row k).e + 1 < F (w.row k).s
        · refine ⟨k, mem_fromP.mpr ⟨hk, hp, rfl⟩, he, ?_⟩
          have hne : (w.row k).e ≠ (w.row k).s := fun z => by rw [z] at hc; omega
          rw [updI_ne _ _ _ hne]
          unfold minI
          rw [if_pos hc]
          omega
        · obtain ⟨k', h2, h3, h4⟩ := h.st _ hx hs
          refine ⟨k', h2, h3, Int.lt_of_le_of_lt (hle _) ?_⟩
          unfold minI
          rw [if_neg hc]
          exact h4
      · obtain ⟨k', h2, h3, h4⟩ := h.st _ hx2 h1
        refine ⟨k', h2, h3, Int.lt_of_le_of_lt (hle _) ?_⟩
        rw [updI_ne _ _ _ e]
        exact h4
  · rw [if_neg hx]
    have ei : ins ks (w.row k).s = ks ++ [(w.row k).s] := by unfold ins; rw [if_neg hx]
    have hv : minI 99 (F (w.row k).e + 1) = F (w.row k).e + 1 := by
      unfold minI
      rw [if_pos (by omega)]
    rw [hv, ei]
    have hne : ∀ y ∈ ks, y ≠ (w.row k).s := fun y hy z => hx (by rw [← z]; exact hy)
    refine ⟨?_, by simp [h.one], fun x hx2 => ?_, fun x hx2 => ?_, fun x hx2 h1 => ?_⟩
    · rw [← ei]
      exact ins_nd h.nd
    · rcases List.mem_append.mp hx2 with z | z
      · exact h.inr x z
      · simp at z
        subst z
        exact hr
    · rw [List.length_append, List.length_singleton]
      rcases List.mem_append.mp hx2 with z | z
      · rw [updI_ne _ _ _ (hne x z)]
        have := h.bd x z
        omega
      · simp at z
        subst z
        rw [updI_eq]
        omega
    · rcases List.mem_append.mp hx2 with z | z
      · obtain ⟨k', h2, h3, h4⟩ := h.st _ z h1
        refine ⟨k', h2, List.mem_append_left _ h3, ?_⟩
        rw [updI_ne _ _ _ (hne x z), updI_ne _ _ _ (hne _ h3)]
        exact h4
      · simp at z
        subst z
        refine ⟨k, mem_fromP.mpr ⟨hk, hp, rfl⟩, List.mem_append_left _ he, ?_⟩
        rw [updI_eq, updI_ne _ _ _ (hne _ he)]
        omega
/-- all places are there -/
structure FarF (w : Web) (p : Int) (ks : List Int) (F : Int → Int) : Prop extends FarI w p ks F where
  full : ∀ q, 0 ≤ q → q < w.place p → q ∈ ks
theorem far_more {w : Web} {p : Int} {ks ks' : List Int} (hall : ∀ q : Int, 0 ≤ q → q < w.place p → Reach (w.edges p true) 1 q) (h1 : 1 ∈ ks) (nd : ks.Nodup) (nd' : ks'.Nodup) (sub : ∀ x ∈ ks, x ∈ ks') (step : ∀ k ∈ w.rowsOf p, (w.row k).e ∈ ks → (w.row k).s ∈ ks') :
    (∀ q, 0 ≤ q → q < w.place p → q ∈ ks) ∨ ks.length + 1 ≤ ks'.length := by
  by_cases hc : ∀ k ∈ w.rowsOf p, (w.row k).e ∈ ks → (w.row k).s ∈ ks
  · refine .inl fun q h2 h3 => reach_closed h1 (fun a b hab ha => ?_) (hall q h2 h3)
    unfold Web.edges at hab
    obtain ⟨k, hk, ek⟩ := List.mem_map.mp hab
    unfold Web.edge at ek
    rw [if_pos rfl] at ek
    cases ek
    exact hc k hk ha
  · refine .inr ?_
    obtain ⟨k, hk⟩ := Classical.not_forall.mp hc
    obtain ⟨hk, hk2⟩ := Classical.not_forall.mp hk
    obtain ⟨hk3, hk4⟩ := Classical.not_forall.mp hk2
    have nd2 : ((w.row k).s :: ks).Nodup := List.nodup_cons.mpr ⟨hk4, nd⟩
    have := nd2.length_le_of_subset (l₂ := ks') (fun x hx => by
      rcases List.mem_cons.mp hx with rfl | hx
      · exact step k hk hk3
      · exact sub x hx)
    rw [List.length_cons] at this
    exact this
theorem i_getI {g : G} {Q : W → G → Prop} {w : W} {x : Int} {ks : List Int} {F : Int → Int} (e : g.dct? w = some (ks.map Sum.inl, ks.map fun x => T.int (F x))) (hx : x ∈ ks) (h : Q (.t (.int (F x))) g) : fGet g w (.t (.int x)) Q := i_get rfl e (look_in hx) h
def C__law_far : PC := fun ts Q => ∃ (w : Web) (p : Nat), ts = [w.t, .int p] ∧ w.Ok ∧ p < w.places.length ∧ ∀ ks F, FarF w p ks F → Q (.f (dI ks F))
theorem ln__law_far : ∀ ts Q, C__law_far ts Q → ts.length = ["a", "b"].length := by rintro ts Q ⟨_, _, rfl, _⟩; rfl
def rd__law_far : DSt :=
  dSeq (dAsg (dDisp [(dC (.int 1), dC (.int 0))]) (dgN 2))
  (dSeq (dFor (diR1 (dCons (d2 fIx (d2 fIx (dVar 0) (dC (.int 0))) (dVar 1)) (dNil))) (dgN 3) (dFor (diL (d2 fIx (dVar 0) (dC (.int 1)))) (dgN 4) (dIfS (dAnd (dB (d2 (fEq false) (d2 fIx (dVar 4) (dC (.int 0))) (dVar 1))) (dB (d2 (fDin false) (d2 fIx (dVar 4) (dC (.int 2))) (dVar 2)))) (dDput (dVar 2) (d2 fIx (dVar 4) (dC (.int 1))) (dN fMin (dCons (dGetD (dVar 2) (d2 fIx (dVar 4) (dC (.int 1))) (dC (.int 99))) (dCons (d2 fAdd (d2 fGet (dVar 2) (d2 fIx (dVar 4) (dC (.int 2)))) (dC (.int 1))) (dNil))))) (dNext))))
  (dRet (dVar 2)))

theorem rp__law_far : ∀ ts Q, C__law_far ts Q → rd__law_far ⟨FinP Q (.t .non), FinP Q, fun _ => False, fun _ => False⟩ ⟨ts.map (fun t => some (W.t t)) ++ List.replicate (5 - ts.length) none, []⟩ := by
  rintro ts Q ⟨w, p, rfl, hok, hp, hQ⟩
  have h1 := hok.1
  have hpm := hok.2.1 _ (place_mem hp)
  have hpa := place_at (w := w) (i := (p : Int)) (by omega) (by omega)
  obtain ⟨n, hn⟩ := toI (i := w.place p) (by omega)
  unfold rd__law_far Web.t
  walk_at "dl"
  refine i_disp1 ?_
  walk_at "dl"
  refine o_Key rfl ?_
  walk_at "dl"
  refine ⟨by decide, ?_⟩
  walk_at "dl"
  rw [hn]
  refine ⟨by omega, ?_⟩
  have hall : ∀ q : Int, 0 ≤ q → q < w.place p → Reach (w.edges p true) 1 q := fun q h2 h3 => ((hok.2.2.2 p hp).1 q h2 h3).2
  refine forR (List.range n) (fun k => W.t (natT k)) (fun i g' => ∃ (ks : List Int) (F : Int → Int) (o3 o4 : Option W), g' = ⟨[some (.t (.tup [.lst (w.places.map T.int), .lst (w.rows.map Row.t)])), some (.t (.int p)), some (.h 0), o3, o4], [some (dI ks F)]⟩ ∧ FarI w p ks F ∧ ((∀ q, 0 ≤ q → q < w.place p → q ∈ ks) ∨ i + 1 ≤ ks.length))
    (by rw [Int.toNat_natCast, rgW0]; rfl) ⟨[1], fun _ => 0, none, none, rfl, .start (by omega), .inr (by decide)⟩ (fun _ _ _ => trivial) ?_ ?_
  · rintro i x hx g' ⟨ks0, F0, o3, o4, rfl, hF0, hful⟩ N hN
    unfold natT
    walk_at "dl"
    refine forG w.rows (fun r => W.t r.t) (fun pre g' => ∃ (ks : List Int) (F : Int → Int) (o4 : Option W), g' = ⟨[some (.t (.tup [.lst (w.places.map T.int), .lst (w.rows.map Row.t)])), some (.t (.int p)), some (.h 0), some (.t (.int x)), o4], [some (dI ks F)]⟩ ∧ FarI w p ks F ∧ (∀ y ∈ ks0, y ∈ ks) ∧ ∀ r ∈ pre, r.p = p → r.e ∈ ks0 → r.s ∈ ks)
      (by rw [List.map_map]; rfl) ⟨ks0, F0, _, rfl, hF0, fun y h => h, fun r h => by simp at h⟩ (by rintro _ _ ⟨_, _, _, rfl, _⟩; rfl) ?_ ?_
    · rintro pre r post hsp g'' ⟨ks, F, o4', rfl, hF, hsub, hpre⟩ N2 hN2
      have hrm : r ∈ w.rows := by rw [hsp]; simp
      obtain ⟨k, hk, ek⟩ := List.getElem_of_mem hrm
      have ekr : w.row k = r := by
        unfold Web.row
        rw [List.getD_eq_getElem?_getD, List.getElem?_eq_getElem hk, ek]
        rfl
      have hro := hok.2.2.1 r hrm
      unfold Web.rowOk at hro
      have hlen := range_len (n := w.place p) (by omega) hF.nd hF.inr
      unfold dI Row.t
      walk_at "dl"
      refine k_d (fun c1 => ?_) (fun c1 => ?_)
      · walk_at "dl"
        rw [look_is]
        refine k_d (fun c2 => ?_) (fun c2 => ?_)
        · walk_at "dl"
          refine ⟨rfl, ?_⟩
          walk_at "dl"
          have hro2 := hro
          rw [c1] at hro2
          have nx := hF.next (k := k) hk (by rw [ekr]; exact c1) (by rw [ekr]; exact hro.2.2.2.2.2.2.1) (by rw [ekr]; omega) (by rw [ekr]; exact c2)
          rw [ekr] at nx
          have nx2 := nx.resolve_right (by omega)
          have fin : ∀ v, v = minI (if r.s ∈ ks then F r.s else 99) (F r.e + 1) → N2 ⟨[some (.t (.tup [.lst (w.places.map T.int), .lst (w.rows.map Row.t)])), some (.t (.int p)), some (.h 0), some (.t (.int x)), some (.t (.tup [.int r.p, .int r.s, .int r.e, .int r.c]))], [some (dI (ins ks r.s) (updI F r.s v))]⟩ := fun v hv => by
            subst hv
            refine hN2 _ ⟨_, _, _, rfl, nx2, fun y hy => ins_mem.mpr (.inl (hsub y hy)), fun r2 h2 h3 h4 => ?_⟩
            rcases List.mem_append.mp h2 with z | z
            · exact ins_mem.mpr (.inl (hpre r2 z h3 h4))
            · simp at z
              subst z
              exact ins_mem.mpr (.inr rfl)
          have kl : ks.length ≤ 16 := by omega
          by_cases c3 : r.s ∈ ks
          · refine o_getS (k := Sum.inl r.s) rfl rfl (look_in c3) ?_
            walk_at "dl"
            refine i_getI rfl c2 ?_
            walk_at "dl"
            refine o_dput (k := Sum.inl r.s) (ks := ks.map Sum.inl) (us := ks.map fun x => T.int (F x)) rfl rfl (by rw [List.length_map]; exact lineLt (by omega)) ?_
            simp only [G.put, List.set_cons_zero]
            rw [put_dI]
            exact fin _ (by rw [if_pos c3]; rfl)
          · refine o_getN (k := Sum.inl r.s) rfl rfl (by rw [look_dI, if_neg c3]) ?_
            walk_at "dl"
            refine i_getI rfl c2 ?_
            walk_at "dl"
            refine o_dput (k := Sum.inl r.s) (ks := ks.map Sum.inl) (us := ks.map fun x => T.int (F x)) rfl rfl (by rw [List.length_map]; exact lineLt (by omega)) ?_
            simp only [G.put, List.set_cons_zero]
            rw [put_dI]
            exact fin _ (by rw [if_neg c3]; rfl)
        · walk_at "dl"
          refine hN2 _ ⟨_, _, _, rfl, hF, hsub, fun r2 h2 h3 h4 => ?_⟩
          rcases List.mem_append.mp h2 with z | z
          · exact hpre r2 z h3 h4
          · simp at z
            subst z
            exact absurd (hsub _ h4) c2
      · walk_at "dl"
        refine hN2 _ ⟨_, _, _, rfl, hF, hsub, fun r2 h2 h3 h4 => ?_⟩
        rcases List.mem_append.mp h2 with z | z
        · exact hpre r2 z h3 h4
        · simp at z
          subst z
          exact absurd h3 c1
    · rintro g'' ⟨ks, F, o4', rfl, hF, hsub, hpre⟩
      refine hN _ ⟨ks, F, _, _, rfl, hF, ?_⟩
      rcases far_more hall hF0.one hF0.nd hF.nd hsub (fun k hk he => by
        obtain ⟨h2, h3⟩ := mem_rowsOf.mp hk
        exact hpre _ (row_mem h2) h3 he) with h2 | h2
      · exact .inl fun q h3 h4 => hsub q (h2 q h3 h4)
      · rcases hful with h3 | h3
        · exact .inl fun q h4 h5 => hsub q (h3 q h4 h5)
        · exact .inr (by omega)
  · rintro g' ⟨ks, F, o3, o4, rfl, hF, hful⟩
    walk_at "dl"
    have hlen := range_len (n := w.place p) (by omega) hF.nd hF.inr
    have hff : FarF w p ks F := ⟨hF, by
      rcases hful with h3 | h3
      · exact h3
      · rw [List.length_range] at h3
        omega⟩
    exact hQ ks F hff
/-! stacks, the top first -/
abbrev Stk := List (Int × Int)
def stT (ab : Int × Int) : T := .tup [.int ab.1, .int ab.2]
def stL (s : Stk) : List T := s.reverse.map stT
theorem stL_cons (a : Int × Int) (r : Stk) : stL (a :: r) = stL r ++ [stT a] := by unfold stL; rw [List.reverse_cons, List.map_append]; rfl
theorem stL_len (s : Stk) : (stL s).length = s.length := by unfold stL; rw [List.length_map, List.length_reverse]
def popE : Stk → Stk
  | [] => []
  | (p, x) :: r => if x = 1 then popE r else (p, x) :: r
def bhd (w : Web) (k : Nat) (r : Stk) : Stk := popE (if 0 ≤ (w.row k).c then ((w.row k).c, 0) :: ((w.row k).p, (w.row k).e) :: r else ((w.row k).p, (w.row k).e) :: r)
theorem atI_last {α : Type} (ys : List α) (y : α) : atI (ys ++ [y]) (-1) = some y := by
  unfold atI ixN
  rw [List.length_append, List.length_singleton, if_neg (by decide), if_pos (by omega)]
  show (ys ++ [y])[((-1 : Int) + ((ys.length + 1 : Nat) : Int)).toNat]? = some y
  rw [show ((-1 : Int) + ((ys.length + 1 : Nat) : Int)).toNat = ys.length by omega, List.getElem?_append_right (Nat.le_refl _), Nat.sub_self]
  rfl
theorem cut_m1 {α : Type} (xs : List α) (x : α) : DL.cut (xs ++ [x]) none (some (-1)) = xs := by
  unfold DL.cut
  rw [HT.sIx_none, List.drop_zero, List.length_append, List.length_singleton]
  have : HT.sIx (xs.length + 1) (xs.length + 1) (some (-1)) = xs.length := by
    unfold HT.sIx
    simp
    omega
  rw [this, Nat.sub_zero, List.take_left]
theorem cut_hi2 {α : Type} (xs : List α) (k : Nat) : DL.cut xs none (some (k : Int)) = xs.take k := by
  unfold DL.cut
  rw [HT.sIx_none, HT.sIx_nat, List.drop_zero, Nat.sub_zero]
  by_cases h : k ≤ xs.length
  · rw [Nat.min_eq_left h]
  · rw [Nat.min_eq_right (by omega), List.take_length, List.take_of_length_le (by omega)]
theorem lineBig {n : Nat} (h : n ≤ 1000000) : n < sizeLine := Nat.lt_of_le_of_lt h (by rw [sizeLine_eq]; decide)
def C__law_behind : PC := fun ts Q => ∃ (w : Web) (a : Int × Int) (r : Stk) (k : Nat), ts = [w.t, .lst (stL (a :: r)), .int k] ∧ k < w.rows.length ∧ w.rows.length ≤ 1000 ∧ r.length ≤ 1000 ∧ Q (.f (.lt (stL (bhd w k r))))
theorem ln__law_behind : ∀ ts Q, C__law_behind ts Q → ts.length = ["a", "b", "c"].length := by rintro ts Q ⟨_, _, _, _, rfl, _⟩; rfl
theorem popE_last {s : Stk} {p x : Int} {r : Stk} (h : s = (p, x) :: r) (hx : x ≠ 1) : popE s = s := by subst h; unfold popE; rw [if_neg hx]
def rd__law_behind : DSt :=
  dSeq (dAsg (d2 fAddH (dSl (dVar 1) (dNoPart) (dPart (d1 fNeg (dC (.int 1))))) (dLst (dCons (dTup (dCons (d2 fIx (d2 fIx (d2 fIx (dVar 0) (dC (.int 1))) (dVar 2)) (dC (.int 0))) (dCons (d2 fIx (d2 fIx (d2 fIx (dVar 0) (dC (.int 1))) (dVar 2)) (dC (.int 2))) (dNil)))) (dNil)))) (dgN 1))
  (dSeq (dIfS (dB (d2 (fI0 fun i j => .bl (decide (j ≤ i))) (d2 fIx (d2 fIx (d2 fIx (dVar 0) (dC (.int 1))) (dVar 2)) (dC (.int 3))) (dC (.int 0)))) (dDrop (dM fAppend (dVar 1) (dCons (dTup (dCons (d2 fIx (d2 fIx (d2 fIx (dVar 0) (dC (.int 1))) (dVar 2)) (dC (.int 3))) (dCons (dC (.int 0)) (dNil)))) (dNil)))) (dNext))
  (dSeq (dWhile (dAnd (dB (d2 (fI0 fun i j => .bl (decide (j < i))) (dN fLen (dCons (dVar 1) (dNil))) (dC (.int 0)))) (dB (d2 (fEq false) (d2 fIx (d2 fIx (dVar 1) (d1 fNeg (dC (.int 1)))) (dC (.int 1))) (dC (.int 1))))) (dDrop (dM0 fPop (dVar 1))))
  (dRet (dVar 1))))

theorem rp__law_behind : ∀ ts Q, C__law_behind ts Q → rd__law_behind ⟨FinP Q (.t .non), FinP Q, fun _ => False, fun _ => False⟩ ⟨ts.map (fun t => some (W.t t)) ++ List.replicate (3 - ts.length) none, []⟩ := by
  rintro ts Q ⟨w, a, r, k, rfl, hk, hwl, hr, hQ⟩
  unfold rd__law_behind Web.t
  have hrow := row_at hk
  unfold Row.t at hrow
  have hll := stL_len r
  walk_at "dl"
  refine o_cut (us := stL (a :: r)) rfl ?_
  rw [stL_cons, cut_m1]
  walk_at "dl"
  refine ⟨by decide, ?_⟩
  walk_at "dl"
  refine ⟨by decide, ?_⟩
  refine i_addHL (xs := stL r) (ys := [T.tup [.int (w.row k).p, .int (w.row k).e]]) rfl rfl (lineLe (by rw [List.length_singleton]; omega)) ?_
  rw [show stL r ++ [T.tup [.int (w.row k).p, .int (w.row k).e]] = stL (((w.row k).p, (w.row k).e) :: r) by rw [stL_cons]; rfl]
  have loop : ∀ s : Stk, s.length ≤ 2000 → popE s = bhd w k r → ∀ o1 : Option W, whI (dAnd (dB (d2 (fI0 fun i j => .bl (decide (j < i))) (dN fLen (dCons (dVar 1) (dNil))) (dC (.int 0)))) (dB (d2 (fEq false) (d2 fIx (d2 fIx (dVar 1) (d1 fNeg (dC (.int 1)))) (dC (.int 1))) (dC (.int 1))))) (dDrop (dM0 fPop (dVar 1)))
      ⟨[some (.t (.tup [.lst (w.places.map T.int), .lst (w.rows.map Row.t)])), some (.h 0), some (.t (.int k))], [some (.lt (stL s))]⟩ ⟨fun g => dRet (dVar 1) ⟨FinP Q (.t .non), FinP Q, fun _ => False, fun _ => False⟩ g, FinP Q, fun _ => False, fun _ => False⟩ := by
    intro s hs hp o1
    refine ⟨fun n g' => ∃ s : Stk, n = s.length ∧ popE s = bhd w k r ∧ g' = ⟨[some (.t (.tup [.lst (w.places.map T.int), .lst (w.rows.map Row.t)])), some (.h 0), some (.t (.int k))], [some (.lt (stL s))]⟩, ⟨_, s, rfl, hp, rfl⟩, ?_⟩
    rintro n g' ⟨s, rfl, hp, rfl⟩
    match s, hp with
    | [], hp =>
      walk_at "dl"
      refine k_dF (by show ¬ (0 : Int) < ((stL []).length : Nat); decide) ?_
      walk_at "dl"
      have hp' : ([] : Stk) = bhd w k r := hp
      rw [← hp'] at hQ
      exact hQ
    | (p, x) :: s', hp =>
      have e1 : (stL ((p, x) :: s')).length = s'.length + 1 := by rw [stL_len]; rfl
      walk_at "dl"
      rw [e1]
      refine k_dT (by omega) ?_
      have hlast : atI (stL ((p, x) :: s')) (-1) = some (.tup [.int p, .int x]) := by rw [stL_cons]; exact atI_last _ _
      walk_at "dl"
      unfold popE at hp
      by_cases hx : x = 1
      · rw [if_pos hx] at hp
        refine k_dT hx ?_
        walk_at "dl"
        refine ⟨isL_lt rfl, ?_⟩
        refine' i_pop (us := stL ((p, x) :: s')) (x := stT (p, x)) ?eb ?hx ?_
        case eb => rfl
        case hx =>
          rw [stL_cons, List.length_append, List.length_singleton, Nat.add_sub_cancel]
          exact at_last
        simp only [G.put, List.set_cons_zero]
        rw [stL_cons, List.dropLast_concat]
        exact ⟨s'.length, by show s'.length < s'.length + 1; omega, s', rfl, hp, rfl⟩
      · rw [if_neg hx] at hp
        refine k_dF hx ?_
        walk_at "dl"
        rw [← hp] at hQ
        exact hQ
  walk_at "dl"
  refine k_d (fun hc => ?_) (fun hc => ?_)
  · walk_at "dl"
    refine ⟨isL_lt rfl, ?_⟩
    walk_at "dl"
    refine ⟨by decide, ?_⟩
    walk_at "dl"
    refine' i_append (us := stL (((w.row k).p, (w.row k).e) :: r)) ?ea ?la ?_
    case ea => rfl
    case la => exact lineLt (by rw [stL_len, List.length_cons]; omega)
    simp only [G.put, List.set_cons_zero]
    rw [show stL (((w.row k).p, (w.row k).e) :: r) ++ [T.tup [T.int (w.row k).c, T.int 0]] = stL (((w.row k).c, 0) :: ((w.row k).p, (w.row k).e) :: r) from (stL_cons ((w.row k).c, 0) _).symm]
    walk_at "dl"
    exact loop _ (by simp; omega) (by unfold bhd; rw [if_pos hc]) none
  · walk_at "dl"
    exact loop _ (by simp; omega) (by unfold bhd; rw [if_neg hc]) none

end DL

namespace DL
open PySem PySem.Spec L2
local macro_rules | `(tactic| walk_at "dn") => `(tactic| simp only [purse_set2, purse_set3, purse_set4, purse_set5, purse_app, purse_len, purse_start, purse_l, G.set, G.put, G.push, G.wipe, wipeW, G.rs, rsW, List.set_cons_zero, List.set_cons_succ, List.map_cons, List.map_nil, List.length_cons, List.length_nil, List.nil_append, List.cons_append, List.replicate_succ, List.replicate_zero, Nat.reduceAdd, Nat.reduceSub, List.getD_cons_zero, List.getD_cons_succ, Option.getD_some, Option.getD_none])
local macro_rules | `(tactic| walk_at "d1") => `(tactic| first
  | with_reducible refine i_seq ?_
  | with_reducible refine i_asg ?_
  | with_reducible refine i_d2 ?_
  | ((with_reducible refine' i_var ?e ?_); (case e => rfl))
  | with_reducible refine i_c ?_
  | ((with_reducible refine' i_ix ?e ?v ?_); (case e => rfl); (case v => first | assumption | rfl))
  | with_reducible refine i_fI0 ?_
  | with_reducible refine i_gN ?_
  | with_reducible refine i_cons ?_
  | with_reducible refine i_nil ?_
  | with_reducible refine i_dN ?_
  | ((with_reducible refine' i_len ?e ?_); (case e => rfl))
  | with_reducible refine i_d1 ?_
  | with_reducible refine i_neg ?_
  | with_reducible refine i_B ?_
  | with_reducible refine o_B ?_
  | with_reducible refine o_I ?_
  | with_reducible refine i_ifS ?_
  | with_reducible refine i_or ?_
  | with_reducible refine i_and ?_
  | with_reducible refine i_not ?_
  | with_reducible refine i_andV ?_
  | with_reducible refine i_orV ?_
  | with_reducible refine i_notV ?_
  | with_reducible refine i_if ?_
  | with_reducible refine i_yes ?_
  | with_reducible refine k_T ?_
  | with_reducible refine k_F ?_
  | with_reducible refine k_True ?_
  | with_reducible refine k_False ?_
  | with_reducible refine i_eqI ?_
  | with_reducible refine i_neI ?_
  | with_reducible refine i_addI ?_
  | with_reducible refine i_addHI ?_
  | with_reducible refine i_callT ?_
  | with_reducible refine i_callH ?_
  | ((with_reducible refine' o_Ts ?e ?_); (case e => rfl))
  | with_reducible refine o_T ?_
  | ((with_reducible refine' o_TF ?e ?_); (case e => rfl))
  | with_reducible refine o_H ?_
  | ((with_reducible refine' o_HF ?e ?_); (case e => rfl))
  | with_reducible refine i_next ?_
  | with_reducible refine i_drop ?_
  | with_reducible refine i_ret ?_
  | with_reducible refine i_retN ?_
  | ((with_reducible refine' i_gTup ?e ?_); (case e => rfl))
  | with_reducible refine i_gCons ?_
  | with_reducible refine i_gNil ?_
  | with_reducible refine i_min2 ?_
  | with_reducible refine i_max2 ?_
  | with_reducible refine i_par ?_
  | with_reducible refine o_W2 ?_
  | ((with_reducible refine' i_aug ?e ?_); (case e => rfl))
  | with_reducible refine i_intI ?_
  | with_reducible refine i_intB ?_
  | with_reducible refine i_lc ?_
  | with_reducible refine i_for ?_
  | with_reducible refine i_while ?_
  | with_reducible refine i_itL ?_
  | ((with_reducible refine' o_Lq ?e ?_); (case e => rfl))
  | with_reducible refine i_itR1 ?_
  | with_reducible refine i_itR2 ?_
  | with_reducible refine o_I1 ?_
  | with_reducible refine o_I2 ?_
  | with_reducible refine e_t ?_
  | ((with_reducible refine' e_h ?e ?p ?_); (case e => rfl); (case p => rfl))
  | with_reducible refine i_M ?_
  | with_reducible refine i_M0 ?_
  | with_reducible refine i_gSub ?_
  | with_reducible refine i_finH ?_
  | with_reducible refine i_finT ?_
  | with_reducible refine i_sl ?_
  | with_reducible refine i_slH ?_
  | with_reducible refine i_slT ?_
  | with_reducible refine i_noPart ?_
  | with_reducible refine i_part ?_
  | ((with_reducible refine' i_frzT ?e ?_); (case e => rfl))
  | ((with_reducible refine' i_frzH ?e ?m ?t ?_); (case e => rfl); (case m => rfl); (case t => rfl))
  | ((with_reducible refine' i_din ?k ?e ?_); (case k => rfl); (case e => rfl))
  | ((with_reducible refine' i_dnotin ?k ?e ?_); (case k => rfl); (case e => rfl))
  | with_reducible refine i_dput ?_
  | with_reducible refine i_newD ?_
  | with_reducible refine i_lstH ?_
  | with_reducible refine i_lst ?_
  | with_reducible refine i_tup ?_
  | with_reducible refine i_break ?_
  | with_reducible refine i_cont ?_
  | with_reducible refine i_callS ?_
  | ((with_reducible refine' i_ixHW ?e ?v ?_); (case e => first | rfl | assumption); (case v => first | assumption | rfl))
  | ((with_reducible refine' i_ixHT ?e ?v ?_); (case e => first | rfl | assumption); (case v => first | assumption | rfl))
  | ((with_reducible refine' i_lenHT ?e ?_); (case e => first | rfl | assumption))
  | ((with_reducible refine' i_lenHW ?e ?_); (case e => first | rfl | assumption))
  | ((with_reducible refine' i_frzH ?e ?m ?t ?_); (case e => rfl); (case m => rfl); (case t => rfl))
  | ((with_reducible refine' i_unw ?e ?n ?_); (case e => rfl); (case n => rfl))
  | with_reducible refine i_gwCons ?_
  | with_reducible refine i_gwNil ?_
  | with_reducible refine i_lstW ?_
  | ((with_reducible refine' i_gList ?e ?n ?_); (case e => rfl); (case n => rfl))
  | with_reducible refine i_listRgH ?_
  | with_reducible refine i_listRg ?_
  | with_reducible refine i_R1 ?_
  | with_reducible refine i_getD ?_
  | ((with_reducible refine' i_none ?k ?_); (case k => rfl))
  | walk_at "dn")
local macro_rules | `(tactic| walk_at "dl") => `(tactic| ((try walk_at "dn"); repeat walk_at "d1"))
/-! generator 2: runs -/
def Fars (w : Web) (fars : List T) (K : Nat → List Int) (F : Nat → Int → Int) : Prop := ∀ q < w.places.length, fars[q]? = some (.dk ((K q).map Sum.inl) ((K q).map fun x => T.int (F q x))) ∧ FarF w q (K q) (F q)
def C__law_leaving : PC := fun ts Q => ∃ (w : Web) (p : Nat) (x : Int) (r : Stk) (short : Bool) (fars : List T) (K : Nat → List Int) (F : Nat → Int → Int), ts = [w.t, .lst (stL (((p : Int), x) :: r)), .bl short, .lst fars] ∧ w.Ok ∧ Fars w fars K F ∧ p < w.places.length ∧ 0 ≤ x ∧ x < w.place p ∧ x ≠ 1 ∧
  ∀ ks : List Nat, ks ≠ [] → ks.length ≤ 60 → (∀ k ∈ ks, k ∈ w.fromP p x ∧ (short = true → F p (w.row k).e < F p x)) → Q (.t (.lst (ks.map natT)))
theorem ln__law_leaving : ∀ ts Q, C__law_leaving ts Q → ts.length = ["a", "b", "c", "d"].length := by rintro ts Q ⟨_, _, _, _, _, _, _, _, rfl, _⟩; rfl
def rd__law_leaving : DSt :=
  dSeq (dAsg (d2 fIx (dVar 1) (d1 fNeg (dC (.int 1)))) (dgTup 2 (dgCons (dgN 4) (dgCons (dgN 5) (dgNil)))))
  (dSeq (dAsg (dLc finT (diR1 (dCons (dN fLen (dCons (d2 fIx (dVar 0) (dC (.int 1))) (dNil))) (dNil))) (dgN 8) (dB (d2 (fEq false) (dSlT (d2 fIx (d2 fIx (dVar 0) (dC (.int 1))) (dVar 8)) (dNoPart) (dPart (dC (.int 2)))) (dTup (dCons (dVar 4) (dCons (dVar 5) (dNil)))))) (dVar 8) [8]) (dgN 6))
  (dSeq (dIfS (dB (dVar 2)) (dSeq (dAsg (dN fMin (dCons (dLc finT (diL (dVar 6)) (dgN 8) (dYes) (d2 fGet (d2 fIx (dVar 3) (dVar 4)) (d2 fIx (d2 fIx (d2 fIx (dVar 0) (dC (.int 1))) (dVar 8)) (dC (.int 2)))) [8]) (dNil))) (dgN 7))
  (dAsg (dSl (dLc finT (diL (dVar 6)) (dgN 8) (dB (d2 (fEq false) (d2 fGet (d2 fIx (dVar 3) (dVar 4)) (d2 fIx (d2 fIx (d2 fIx (dVar 0) (dC (.int 1))) (dVar 8)) (dC (.int 2)))) (dVar 7))) (dVar 8) [8]) (dNoPart) (dPart (dC (.int 1)))) (dgN 6))) (dNext))
  (dRet (dVar 6))))

theorem rp__law_leaving : ∀ ts Q, C__law_leaving ts Q → rd__law_leaving ⟨FinP Q (.t .non), FinP Q, fun _ => False, fun _ => False⟩ ⟨ts.map (fun t => some (W.t t)) ++ List.replicate (9 - ts.length) none, []⟩ := by
  rintro ts Q ⟨w, p, x, r, short, fars, K, F, rfl, hok, hF, hp, hx0, hx1, hx2, hQ⟩
  have h1 := hok.1
  obtain ⟨hfp, hfar⟩ := hF p hp
  have hfpa : atI fars (p : Int) = some (.dk ((K p).map Sum.inl) ((K p).map fun x => T.int (F p x))) := atI_nat hfp
  have hlast : atI (stL (((p : Int), x) :: r)) (-1) = some (.tup [.int p, .int x]) := by rw [stL_cons]; exact atI_last _ _
  obtain ⟨k0, hk0, hk0e, hk0F⟩ := hfar.st x (hfar.full x hx0 hx1) hx2
  unfold rd__law_leaving Web.t
  walk_at "dl"
  rw [List.length_map]
  refine ⟨by omega, ?_⟩
  refine lcP (List.range w.rows.length) (fun k => W.t (natT k)) (fun k => decide ((w.row k).p = p) && decide ((w.row k).s = x)) natT (by rw [Int.toNat_natCast, rgW0]; rfl) (by rw [List.length_range]; exact lineLe (by omega)) trivial ?_ rfl ?_
  · intro k hk Y N2 hY hN2
    have hk' : k < w.rows.length := by simpa using hk
    have hr := row_at hk'
    unfold natT Row.t at *
    walk_at "dl"
    refine o_cutT (by show ¬ (HT.sIx 4 0 none = 0 ∧ HT.sIx 4 4 (some 2) = 4); decide) ?_
    have ec : cut [T.int (w.row k).p, T.int (w.row k).s, T.int (w.row k).e, T.int (w.row k).c] none (some 2) = [T.int (w.row k).p, T.int (w.row k).s] := cut_hi2 _ 2
    rw [ec]
    walk_at "dl"
    refine ⟨by decide, ?_⟩
    refine i_eqT (u := .tup [.int (w.row k).p, .int (w.row k).s]) (v := .tup [.int p, .int x]) rfl rfl rfl rfl ?_
    rw [teq_pair]
    cases e : (decide ((w.row k).p = (p : Int)) && decide ((w.row k).s = x)) with
    | true =>
      walk_at "dl"
      exact hY e _ rfl
    | false =>
      walk_at "dl"
      exact hN2 e _ rfl
  rw [show (List.range w.rows.length).filter (fun k => decide ((w.row k).p = (p : Int)) && decide ((w.row k).s = x)) = w.fromP p x from rfl]
  have hfl := fromP_len w p x
  have hin : ∀ k ∈ w.fromP p x, k < w.rows.length ∧ (w.row k).e ∈ K p := fun k hk => by
    obtain ⟨e1, e2, e3⟩ := mem_fromP.mp hk
    have hro := hok.2.2.1 _ (row_mem e1)
    unfold Web.rowOk at hro
    rw [e2] at hro
    exact ⟨e1, hfar.full _ (by omega) (by omega)⟩
  walk_at "dl"
  cases short with
  | false =>
    walk_at "dl"
    exact hQ _ (fun z => by rw [z] at hk0; simp at hk0) (by omega) fun k hk => ⟨hk, fun z => by cases z⟩
  | true =>
    walk_at "dl"
    refine lcP (w.fromP p x) (fun k => W.t (natT k)) (fun _ => true) (fun k => .int (F p (w.row k).e)) (by rw [List.map_map]; rfl) (lineLe (by omega)) rfl ?_ rfl ?_
    · intro k hk Y N2 hY hN2
      obtain ⟨hk', hke⟩ := hin k hk
      have hr := row_at hk'
      unfold natT Row.t at *
      walk_at "dl"
      refine i_getI rfl hke ?_
      exact hY rfl _ rfl
    rw [List.filter_eq_self.mpr (fun _ _ => rfl), show ((w.fromP p x).map fun k => T.int (F p (w.row k).e)) = ((w.fromP p x).map fun k => F p (w.row k).e).map T.int by rw [List.map_map]; rfl]
    walk_at "dl"
    refine i_min rfl (by rw [List.length_map]; exact List.length_pos_of_mem hk0) fun mn m1 m2 => ?_
    have hmn : mn < F p x := Int.lt_of_le_of_lt (m2 _ (List.mem_map.mpr ⟨k0, hk0, rfl⟩)) hk0F
    walk_at "dl"
    refine lcP (w.fromP p x) (fun k => W.t (natT k)) (fun k => decide (F p (w.row k).e = mn)) natT (by rw [List.map_map]; rfl) (lineLe (by omega)) rfl ?_ rfl ?_
    · intro k hk Y N2 hY hN2
      obtain ⟨hk', hke⟩ := hin k hk
      have hr := row_at hk'
      unfold natT Row.t at *
      walk_at "dl"
      refine i_getI rfl hke ?_
      walk_at "dl"
      refine k_d (fun c => ?_) (fun c => ?_)
      · walk_at "dl"
        exact hY (decide_eq_true c) _ rfl
      · exact hN2 (decide_eq_false c) _ rfl
    walk_at "dl"
    refine o_cut rfl ?_
    have ec : DL.cut (((w.fromP p x).filter fun k => decide (F p (w.row k).e = mn)).map natT) none (some 1) = (((w.fromP p x).filter fun k => decide (F p (w.row k).e = mn)).take 1).map natT := by rw [List.map_take]; exact cut_hi2 _ 1
    rw [ec]
    walk_at "dl"
    obtain ⟨k1, hk1, ek1⟩ := List.mem_map.mp m1
    have hmem : k1 ∈ (w.fromP p x).filter fun k => decide (F p (w.row k).e = mn) := List.mem_filter.mpr ⟨hk1, decide_eq_true ek1⟩
    refine hQ _ (fun z => ?_) (Nat.le_trans (List.length_take_le _ _) (by decide)) fun k hk => ?_
    · cases e : (w.fromP p x).filter fun k => decide (F p (w.row k).e = mn) with
      | nil => rw [e] at hmem; simp at hmem
      | cons a b => rw [e] at z; simp at z
    · obtain ⟨e1, e2⟩ := List.mem_filter.mp (List.mem_of_mem_take hk)
      exact ⟨e1, fun _ => by rw [of_decide_eq_true e2]; exact hmn⟩
/-! what rows leave on the stack -/
def stp (w : Web) : Stk → Int → Option Stk
  | [], _ => none
  | (p, x) :: r, k => if 0 ≤ k ∧ k < w.rows.length ∧ (w.row k.toNat).p = p ∧ (w.row k.toNat).s = x then some (bhd w k.toNat r) else none
def stk (w : Web) (ks : List Int) : Option Stk := ks.foldl (fun o k => o.bind fun s => stp w s k) (some [(0, 0)])
theorem stk_snoc (w : Web) (ks : List Int) (k : Int) : stk w (ks ++ [k]) = (stk w ks).bind fun s => stp w s k := by
  unfold stk
  rw [List.foldl_append]
  rfl
theorem stp_in {w : Web} {p x : Int} {r : Stk} {k : Nat} (h : k ∈ w.fromP p x) : stp w ((p, x) :: r) (k : Int) = some (bhd w k r) := by
  obtain ⟨h1, h2, h3⟩ := mem_fromP.mp h
  show (if 0 ≤ (k : Int) ∧ (k : Int) < w.rows.length ∧ (w.row ((k : Int)).toNat).p = p ∧ (w.row ((k : Int)).toNat).s = x then some (bhd w ((k : Int)).toNat r) else none) = some (bhd w k r)
  rw [Int.toNat_natCast, if_pos ⟨by omega, by omega, h2, h3⟩]
def natI (ks : List Nat) : List Int := ks.map fun k => ((k : Nat) : Int)
structure StkIn (w : Web) (s : Stk) : Prop where
  pw : s.Pairwise fun a b => b.1 < a.1
  inr : ∀ a ∈ s, ∃ p : Nat, a.1 = (p : Int) ∧ p < w.places.length ∧ 0 ≤ a.2 ∧ a.2 < w.place p
structure StkOk (w : Web) (s : Stk) : Prop extends StkIn w s where
  top : ∀ p x r, s = (p, x) :: r → x ≠ 1
theorem StkIn.tail {w : Web} {a : Int × Int} {r : Stk} (h : StkIn w (a :: r)) : StkIn w r := ⟨(List.pairwise_cons.mp h.pw).2, fun b hb => h.inr b (List.mem_cons_of_mem _ hb)⟩
theorem StkIn.popE {w : Web} : ∀ {s : Stk}, StkIn w s → StkOk w (DL.popE s)
  | [], h => ⟨h, fun p x r e => by cases e⟩
  | (p, x) :: r, h => by
    unfold DL.popE
    split
    · exact h.tail.popE
    · rename_i hx
      exact ⟨h, fun p' x' r' e => by cases e; exact hx⟩
theorem StkIn.cons {w : Web} {q : Nat} {x : Int} {r : Stk} (h : StkIn w r) (hlt : ∀ a ∈ r, a.1 < (q : Int)) (hq : q < w.places.length) (h0 : 0 ≤ x) (h1 : x < w.place q) : StkIn w (((q : Int), x) :: r) :=
  ⟨List.pairwise_cons.mpr ⟨hlt, h.pw⟩, fun a ha => by
    rcases List.mem_cons.mp ha with rfl | ha
    · exact ⟨q, rfl, hq, h0, h1⟩
    · exact h.inr a ha⟩
theorem StkOk.next {w : Web} (hok : w.Ok) {p x : Int} {r : Stk} (h : StkOk w ((p, x) :: r)) {k : Nat} (hk : k ∈ w.fromP p x) : StkOk w (bhd w k r) := by
  obtain ⟨h1, h2, h3⟩ := mem_fromP.mp hk
  have hro := hok.2.2.1 _ (row_mem h1)
  unfold Web.rowOk at hro
  obtain ⟨hlt, _⟩ := List.pairwise_cons.mp h.pw
  obtain ⟨q, e1, e2, _⟩ := h.inr (p, x) (by simp)
  rw [h2] at hro
  dsimp only at e1
  subst e1
  have low : StkIn w (((q : Int), (w.row k).e) :: r) := h.toStkIn.tail.cons hlt e2 (by omega) (by omega)
  unfold bhd
  rw [h2]
  split
  · rename_i hc
    obtain ⟨c, hc2⟩ := toI hc
    rw [hc2] at hro ⊢
    have h0 := hok.2.1 _ (place_mem (p := c) (by omega))
    refine (low.cons (q := c) (fun a ha => ?_) (by omega) (Int.le_refl _) (by omega)).popE
    rcases List.mem_cons.mp ha with rfl | ha
    · show (q : Int) < c
      omega
    · have := hlt a ha
      dsimp only at this
      omega
  · exact low.popE
/-! how much there is still to go, on the shortest way -/
def wt (p : Nat) : Nat := if p = 0 then 4096 else if p = 1 then 256 else if p = 2 then 16 else 1
theorem wt_lt {p c : Nat} (h : p < c) (hc : c < 4) : 16 * wt c ≤ wt p := by
  unfold wt
  repeat' split
  all_goals omega
theorem wt_pos (p : Nat) : 0 < wt p := by
  unfold wt
  repeat' split
  all_goals omega
def Mv (F : Nat → Int → Int) : Stk → Nat
  | [] => 0
  | (p, x) :: r => (F p.toNat x).toNat * wt p.toNat + Mv F r
theorem Mv_popE (F : Nat → Int → Int) : ∀ s : Stk, Mv F (popE s) ≤ Mv F s
  | [] => Nat.le_refl _
  | (p, x) :: r => by
    unfold popE
    split
    · show Mv F (popE r) ≤ (F p.toNat x).toNat * wt p.toNat + Mv F r
      exact Nat.le_trans (Mv_popE F r) (Nat.le_add_left _ _)
    · exact Nat.le_refl _
theorem far15 {w : Web} (hok : w.Ok) {q : Nat} (hq : q < w.places.length) {ks : List Int} {F : Int → Int} (h : FarF w q ks F) {x : Int} (h0 : 0 ≤ x) (h1 : x < w.place q) : 0 ≤ F x ∧ F x ≤ 15 := by
  have hm := hok.2.1 _ (place_mem hq)
  have hl := range_len (n := w.place q) (by omega) h.nd h.inr
  have hb := h.bd x (h.full x h0 h1)
  omega
theorem Mv_le {w : Web} (hok : w.Ok) {fars : List T} {K : Nat → List Int} {F : Nat → Int → Int} (hF : Fars w fars K F) : ∀ {s : Stk} {t : Nat}, StkIn w s → t ≤ 3 → (∀ a ∈ s, a.1 ≤ (t : Int)) → Mv F s + wt t ≤ 65536
  | [], t, _, ht, _ => by
    unfold Mv wt
    repeat' split
    all_goals omega
  | (p, x) :: r, t, h, ht, hle => by
    obtain ⟨q, e1, e2, e3, e4⟩ := h.inr (p, x) (by simp)
    dsimp only at e1 e3 e4
    subst e1
    have f := far15 hok e2 (hF q e2).2 e3 e4
    have hqt := hle _ (List.mem_cons_self)
    dsimp only at hqt
    have hlt := (List.pairwise_cons.mp h.pw).1
    have h1 := hok.1
    unfold Mv
    rw [Int.toNat_natCast]
    have hm : (F q x).toNat * wt q ≤ 15 * wt q := Nat.mul_le_mul_right _ (by omega)
    have hwt : wt t ≤ wt q := by
      unfold wt
      repeat' split
      all_goals omega
    match q, hm, hwt, hlt with
    | 0, hm, hwt, hlt =>
      have : r = [] := by
        cases r with
        | nil => rfl
        | cons a r' =>
          have h3 := hlt a (by simp)
          obtain ⟨q', e5, _⟩ := h.tail.inr a (by simp)
          dsimp only at h3
          omega
      subst this
      unfold Mv
      have : wt 0 = 4096 := rfl
      omega
    | q + 1, hm, hwt, hlt =>
      have ih := Mv_le hok hF (t := q) h.tail (by omega) (fun a ha => by
        have := hlt a ha
        dsimp only at this
        omega)
      have w1 := wt_lt (p := q) (c := q + 1) (by omega) (by omega)
      omega
theorem Mv_bound {w : Web} (hok : w.Ok) {fars : List T} {K : Nat → List Int} {F : Nat → Int → Int} (hF : Fars w fars K F) {s : Stk} (h : StkIn w s) : Mv F s ≤ 65535 := by
  have h1 := hok.1
  have := Mv_le hok hF (t := 3) h (by omega) (fun a ha => by
    obtain ⟨q, e1, e2, _⟩ := h.inr a ha
    omega)
  have : wt 3 = 1 := rfl
  omega
theorem Mv_next {w : Web} (hok : w.Ok) {fars : List T} {K : Nat → List Int} {F : Nat → Int → Int} (hF : Fars w fars K F) {q : Nat} {x : Int} {r : Stk} (h : StkIn w (((q : Int), x) :: r)) {k : Nat} (hk : k ∈ w.fromP q x) (hd : F q (w.row k).e < F q x) : Mv F (bhd w k r) < Mv F (((q : Int), x) :: r) := by
  obtain ⟨h1, h2, h3⟩ := mem_fromP.mp hk
  have hro := hok.2.2.1 _ (row_mem h1)
  unfold Web.rowOk at hro
  rw [h2] at hro
  obtain ⟨q', e1, e2, e3, e4⟩ := h.inr ((q : Int), x) (by simp)
  have : q' = q := by dsimp only at e1; omega
  subst this
  have fe := far15 hok e2 (hF q' e2).2 (x := (w.row k).e) (by omega) (by omega)
  dsimp only at e3 e4
  have fx := far15 hok e2 (hF q' e2).2 (x := x) e3 e4
  have ok1 := hok.1
  refine Nat.lt_of_le_of_lt (Mv_popE F _) ?_
  rw [h2]
  have hstep : (F q' (w.row k).e).toNat * wt q' + wt q' ≤ (F q' x).toNat * wt q' := by
    have : (F q' (w.row k).e).toNat + 1 ≤ (F q' x).toNat := by omega
    calc (F q' (w.row k).e).toNat * wt q' + wt q' = ((F q' (w.row k).e).toNat + 1) * wt q' := by rw [Nat.add_mul, Nat.one_mul]
      _ ≤ _ := Nat.mul_le_mul_right _ this
  have wp := wt_pos q'
  split
  · rename_i hc
    obtain ⟨c, hc2⟩ := toI hc
    rw [hc2] at hro ⊢
    have h0 := hok.2.1 _ (place_mem (p := c) (by omega))
    have fc := far15 hok (q := c) (by omega) (hF c (by omega)).2 (x := 0) (Int.le_refl _) (by omega)
    show (F ((c : Int)).toNat 0).toNat * wt ((c : Int)).toNat + ((F ((q' : Int)).toNat (w.row k).e).toNat * wt ((q' : Int)).toNat + Mv F r) < (F ((q' : Int)).toNat x).toNat * wt ((q' : Int)).toNat + Mv F r
    rw [Int.toNat_natCast, Int.toNat_natCast]
    have w1 := wt_lt (p := q') (c := c) (by omega) (by omega)
    have hm : (F c 0).toNat * wt c ≤ 15 * wt c := Nat.mul_le_mul_right _ (by omega)
    have wc := wt_pos c
    omega
  · show ((F ((q' : Int)).toNat (w.row k).e).toNat * wt ((q' : Int)).toNat + Mv F r) < (F ((q' : Int)).toNat x).toNat * wt ((q' : Int)).toNat + Mv F r
    rw [Int.toNat_natCast]
    omega
/-! _law_run -/
theorem lcR {g1 : G} {gt : DGt} {te : Dt} {vs : List Nat} {fin : Fin3} {Q : W → G → Prop} {ws : List W} {St : G → Prop} {ι : Type} (items : List ι) (enc : ι → W) (P : ι → T → Prop) (hws : ws = items.map enc) (hlen : items.length ≤ sizeLine) (hSt : St (g1.wipe vs))
    (hel : ∀ x ∈ items, ∀ Y : W → G → Prop, (∀ u, P x u → ∀ g4, g4.wipe vs = g1.wipe vs → Y (.t u) g4) → gt (enc x) (g1.wipe vs) fun g2 => te g2 Y)
    (hQ : ∀ us : List T, us.length = items.length → (∀ (i : Nat) (x : ι) (u : T), items[i]? = some x → us[i]? = some u → P x u) → fin (us.map W.t) ((g1.wipe vs).rs g1 vs) Q) : lcI fin ws St g1 gt dYes te vs Q := by
  subst hws
  refine ⟨fun i acc g' => g' = g1.wipe vs ∧ ∃ us : List T, acc = us.map W.t ∧ us.length = i ∧ ∀ (j : Nat) (x : ι) (u : T), items[j]? = some x → us[j]? = some u → P x u, ⟨rfl, [], rfl, rfl, fun j x u _ h => by simp at h⟩, ?_, ?_, by simpa using hlen, ?_⟩
  · rintro i acc g' ⟨rfl, us, rfl, hl, _⟩
    exact ⟨hSt, by rw [List.length_map]; omega⟩
  · rintro i acc w g' hw ⟨rfl, us, rfl, hl, hP⟩
    rw [List.getElem?_map] at hw
    cases e : items[i]? with
    | none => rw [e] at hw; cases hw
    | some x =>
      rw [e] at hw
      cases hw
      refine hel x (List.mem_of_getElem? e) _ fun u hu g4 h4 => ⟨h4, us ++ [u], by rw [List.map_append]; rfl, by rw [List.length_append, List.length_singleton, hl], fun j y v hy hv => ?_⟩
      rcases Nat.lt_or_ge j us.length with q | q
      · rw [List.getElem?_append_left q] at hv
        exact hP j y v hy hv
      · rw [List.getElem?_append_right q] at hv
        rcases Nat.eq_or_lt_of_le q with q2 | q2
        · rw [← q2, Nat.sub_self] at hv
          cases hv
          rw [← q2, hl, e] at hy
          cases hy
          exact hu
        · rw [List.getElem?_eq_none (by simp; omega)] at hv
          cases hv
  · rintro acc g' ⟨rfl, us, rfl, hl, hP⟩
    exact hQ us (by rw [hl, List.length_map]) hP
theorem stk_len {w : Web} : ∀ {s : Stk} {t : Nat}, StkIn w s → (∀ a ∈ s, a.1 < (t : Int)) → s.length ≤ t
  | [], t, _, _ => Nat.zero_le _
  | (p, x) :: r, t, h, hlt => by
    obtain ⟨q, e1, _⟩ := h.inr (p, x) (by simp)
    have h1 := hlt (p, x) (by simp)
    have h2 := (List.pairwise_cons.mp h.pw).1
    dsimp only at e1 h1
    have := stk_len (t := q) h.tail fun a ha => by
      have := h2 a ha
      dsimp only at this
      omega
    rw [List.length_cons]
    omega
def C__law_run : SC := fun ws m QC => ∃ (w : Web) (a f : Int) (k most : Nat), ws = [.t w.t, .h 0, .t (.int most)] ∧ m = [leftC a f k] ∧ LeftOk a f ∧ k ≤ 1000 ∧ w.Ok ∧ most ≤ 1000 ∧
  ∀ (ks : List Nat) (a' : Int) (k' : Nat), stk w (natI ks) = some [] → ks.length ≤ 70000 → (∀ k ∈ ks, k < w.rows.length) → LeftOk a' f → QC (.h 1) [leftC a' f k'] [.lt (ks.map natT)]
theorem ln__law_run : ∀ ws m Q, C__law_run ws m Q → ws.length = ["a", "b", "c"].length := by rintro ws m Q ⟨_, _, _, _, _, rfl, _⟩; rfl
def rd__law_run : DSt :=
  dSeq (dAsg (dLc finT (diR1 (dCons (dN fLen (dCons (d2 fIx (dVar 0) (dC (.int 0))) (dNil))) (dNil))) (dgN 7) (dYes) (dCallT C__law_far (dCons (dVar 0) (dCons (dVar 7) (dNil)))) [7]) (dgN 3))
  (dSeq (dAsg (dLstH (dNil)) (dgN 4))
  (dSeq (dAsg (dLst (dCons (dTup (dCons (dC (.int 0)) (dCons (dC (.int 0)) (dNil)))) (dNil))) (dgN 5))
  (dSeq (dWhile (dB (d2 (fI0 fun i j => .bl (decide (j < i))) (dN fLen (dCons (dVar 5) (dNil))) (dC (.int 0)))) (dSeq (dAsg (dCallT C__law_leaving (dCons (dVar 0) (dCons (dVar 5) (dCons (d2 (fI0 fun i j => .bl (decide (j ≤ i))) (dN fLen (dCons (dVar 4) (dNil))) (dVar 2)) (dCons (dVar 3) (dNil)))))) (dgN 6))
  (dSeq (dDrop (dM fAppend (dVar 4) (dCons (d2 fIx (dVar 6) (dCallS C__law_draw (dCons (dVar 1) (dCons (dN fLen (dCons (dVar 6) (dNil))) (dNil))))) (dNil))))
  (dAsg (dCallT C__law_behind (dCons (dVar 0) (dCons (dVar 5) (dCons (d2 fIx (dVar 4) (d1 fNeg (dC (.int 1)))) (dNil))))) (dgN 5)))))
  (dRet (dVar 4)))))

theorem rp__law_run : ∀ ws m QC, C__law_run ws m QC → rd__law_run ⟨FinS m.length QC (.t .non), FinS m.length QC, fun _ => False, fun _ => False⟩ ⟨ws.map some ++ List.replicate (8 - ws.length) none, m.map some⟩ := by
  rintro ws m QC ⟨w, a, f, k, most, rfl, rfl, hL, hk, hok, hmost, hQ⟩
  have h1 := hok.1
  unfold rd__law_run Web.t
  walk_at "dl"
  rw [List.length_map]
  refine ⟨by omega, ?_⟩
  refine lcR (List.range w.places.length) (fun k => W.t (natT k)) (fun q u => ∃ ks F, u = .dk (ks.map Sum.inl) (ks.map fun x => T.int (F x)) ∧ FarF w q ks F) (by rw [Int.toNat_natCast, rgW0]; rfl) (by rw [List.length_range]; exact lineLe (by omega)) trivial ?_ fun fars hfl hfars => ?_
  · intro q hq Y hY
    have hq' : q < w.places.length := by simpa using hq
    unfold natT
    walk_at "dl"
    refine ⟨w, q, rfl, hok, hq', fun ks F hF => ?_⟩
    exact hY _ ⟨ks, F, rfl, hF⟩ _ rfl
  have hfars' : ∀ q : Nat, ∃ kf : List Int × (Int → Int), q < w.places.length → fars[q]? = some (.dk (kf.1.map Sum.inl) (kf.1.map fun x => T.int (kf.2 x))) ∧ FarF w q kf.1 kf.2 := fun q => by
    by_cases hq : q < w.places.length
    · obtain ⟨u, hu⟩ := getLt (xs := fars) (j := q) (by rw [hfl, List.length_range]; exact hq)
      obtain ⟨ks, F, rfl, hF⟩ := hfars q q u (List.getElem?_range hq) hu
      exact ⟨(ks, F), fun _ => ⟨hu, hF⟩⟩
    · exact ⟨([], fun _ => 0), fun z => absurd z hq⟩
  obtain ⟨KF, hKF⟩ := Classical.axiomOfChoice hfars'
  have hF : Fars w fars (fun q => (KF q).1) (fun q => (KF q).2) := fun q hq => hKF q hq
  generalize (fun q => (KF q).1) = K at hF
  generalize (fun q => (KF q).2) = F at hF
  walk_at "dl"
  refine ⟨by decide, ?_⟩
  walk_at "dl"
  refine ⟨by decide, ?_⟩
  walk_at "dl"
  refine ⟨by decide, ?_⟩
  walk_at "dl"
  have s0 : StkOk w [(0, 0)] := by
    have hm := hok.2.1 _ (place_mem (w := w) (p := 0) (by omega))
    refine ⟨⟨by simp, fun a ha => ?_⟩, fun p x r e => by cases e; decide⟩
    simp at ha
    subst ha
    exact ⟨0, rfl, by omega, Int.le_refl _, by show (0 : Int) < w.place 0; have : w.place ((0 : Nat) : Int) = w.place 0 := rfl; omega⟩
  refine ⟨fun n g' => ∃ (ks : List Nat) (s : Stk) (a' : Int) (k' : Nat) (o6 o7 : Option W), g' = ⟨[some (.t (.tup [.lst (w.places.map T.int), .lst (w.rows.map Row.t)])), some (.h 0), some (.t (.int most)), some (.t (.lst fars)), some (.h 1), some (.t (.lst (stL s))), o6, o7], [some (leftC a' f k'), some (.lt (ks.map natT))]⟩ ∧
    n = (most - ks.length) * 70000 + Mv F s ∧ stk w (natI ks) = some s ∧ StkOk w s ∧ LeftOk a' f ∧ k' = k + ks.length ∧ ks.length + Mv F s ≤ most + 65535 ∧ ∀ k ∈ ks, k < w.rows.length,
    ⟨_, [], [(0, 0)], a, k, none, none, rfl, rfl, rfl, s0, hL, rfl, by have := Mv_bound hok hF s0.toStkIn; simp; omega, fun k h => by simp at h⟩, ?_⟩
  rintro n g' ⟨ks, s, a', k', o6, o7, rfl, rfl, hst, hs, hL', rfl, hbd, hks⟩
  walk_at "dl"
  rw [stL_len]
  match s, hst, hs, hbd with
  | [], hst, hs, hbd =>
    refine k_dF (by decide) ?_
    walk_at "dl"
    have q := hQ ks a' (k + ks.length) hst (by omega) hks hL'
    refine fin_s [1] [leftC a' f ((k + ks.length : Nat) : Int)] [.lt (ks.map natT)] (.h 1) (by decide) ?_ rfl rfl rfl ?_ q
    · intro j hj
      have : j = 0 ∨ j = 1 := by simpa using hj
      show j < 2
      omega
    · intro i c' e
      match i, e with
      | 0, e => cases e; exact ⟨0, _, rfl, rfl, rfl⟩
      | 1, e => cases e; exact ⟨1, _, rfl, up_plain rfl _, rfl⟩
      | i + 2, e => simp at e
  | (p, x) :: r, hst, hs, hbd =>
    refine k_dT (by simp) ?_
    obtain ⟨q, e1, e2, e3, e4⟩ := hs.inr (p, x) (by simp)
    dsimp only at e1 e3 e4
    subst e1
    have hx1 := hs.top _ _ _ rfl
    walk_at "dl"
    rw [List.length_map]
    refine ⟨w, q, x, r, _, fars, K, F, rfl, hok, hF, e2, e3, e4, hx1, fun ls hne hll hls => ?_⟩
    walk_at "dl"
    refine ⟨isL_lt rfl, ?_⟩
    walk_at "dl"
    rw [List.length_map]
    have hlp : 0 < ls.length := List.length_pos_iff.mpr hne
    refine callS_draw0 hL' (by omega) (by omega) (by omega) fun j a2 j0 j1 hL2 => ?_
    obtain ⟨j, rfl⟩ := toI j0
    obtain ⟨l, hl⟩ := getLt (xs := ls) (j := j) (by omega)
    have hla : atI (ls.map natT) (j : Int) = some (natT l) := atI_map natT (atI_nat hl)
    obtain ⟨hlf, hlF⟩ := hls l (List.mem_of_getElem? hl)
    obtain ⟨l1, _, _⟩ := mem_fromP.mp hlf
    walk_at "dl"
    refine' i_append (us := ks.map natT) ?ea ?la ?_
    case ea => rfl
    case la => exact lineBig (by rw [List.length_map]; omega)
    simp only [G.put, List.set_cons_succ, List.set_cons_zero]
    rw [show ks.map natT ++ [natT l] = (ks ++ [l]).map natT by rw [List.map_append]; rfl]
    have hlast : atI ((ks ++ [l]).map natT) (-1) = some (.int l) := by rw [List.map_append]; exact atI_last _ _
    walk_at "dl"
    have hrl : r.length ≤ 1000 := by
      have := stk_len hs.toStkIn (t := 4) (fun a ha => by
        obtain ⟨q', e5, e6, _⟩ := hs.inr a ha
        omega)
      rw [List.length_cons] at this
      omega
    refine ⟨w, ((q : Int), x), r, l, rfl, l1, by omega, hrl, ?_⟩
    walk_at "dl"
    have hnx : stk w (natI (ks ++ [l])) = some (bhd w l r) := by
      rw [show natI (ks ++ [l]) = natI ks ++ [(l : Int)] by unfold natI; rw [List.map_append]; rfl, stk_snoc, hst]
      exact stp_in hlf
    have hs2 := hs.next hok hlf
    have hM2 := Mv_bound hok hF hs2.toStkIn
    have hlen : (ks ++ [l]).length = ks.length + 1 := by rw [List.length_append, List.length_singleton]
    have hdec : most ≤ ks.length → Mv F (bhd w l r) < Mv F (((q : Int), x) :: r) := fun hm => Mv_next hok hF hs.toStkIn hlf (hlF (decide_eq_true (by omega)))
    refine ⟨(most - (ks ++ [l]).length) * 70000 + Mv F (bhd w l r), ?_, ks ++ [l], bhd w l r, a2, _, _, _, rfl, rfl, hnx, hs2, hL2, by rw [hlen]; omega, ?_, fun y hy => ?_⟩
    · rw [hlen]
      by_cases hm : most ≤ ks.length
      · have := hdec hm
        have e0 : most - (ks.length + 1) = 0 := by omega
        have e00 : most - ks.length = 0 := by omega
        rw [e0, e00]
        omega
      · have : most - ks.length = (most - (ks.length + 1)) + 1 := by omega
        rw [this, Nat.add_mul]
        omega
    · rw [hlen]
      by_cases hm : most ≤ ks.length
      · have := hdec hm
        omega
      · omega
    · rcases List.mem_append.mp hy with z | z
      · exact hks y z
      · simp at z
        subst z
        exact l1

end DL

namespace DL
open PySem PySem.Spec L2
local macro_rules | `(tactic| walk_at "dn") => `(tactic| simp only [purse_set2, purse_set3, purse_set4, purse_set5, purse_app, purse_len, purse_start, purse_l, G.set, G.put, G.push, G.wipe, wipeW, G.rs, rsW, List.set_cons_zero, List.set_cons_succ, List.map_cons, List.map_nil, List.length_cons, List.length_nil, List.nil_append, List.cons_append, List.replicate_succ, List.replicate_zero, Nat.reduceAdd, Nat.reduceSub, List.getD_cons_zero, List.getD_cons_succ, Option.getD_some, Option.getD_none])
local macro_rules | `(tactic| walk_at "d1") => `(tactic| first
  | with_reducible refine i_seq ?_
  | with_reducible refine i_asg ?_
  | with_reducible refine i_d2 ?_
  | ((with_reducible refine' i_var ?e ?_); (case e => rfl))
  | with_reducible refine i_c ?_
  | ((with_reducible refine' i_ix ?e ?v ?_); (case e => rfl); (case v => first | assumption | rfl))
  | with_reducible refine i_fI0 ?_
  | with_reducible refine i_gN ?_
  | with_reducible refine i_cons ?_
  | with_reducible refine i_nil ?_
  | with_reducible refine i_dN ?_
  | ((with_reducible refine' i_len ?e ?_); (case e => rfl))
  | with_reducible refine i_d1 ?_
  | with_reducible refine i_neg ?_
  | with_reducible refine i_B ?_
  | with_reducible refine o_B ?_
  | with_reducible refine o_I ?_
  | with_reducible refine i_ifS ?_
  | with_reducible refine i_or ?_
  | with_reducible refine i_and ?_
  | with_reducible refine i_not ?_
  | with_reducible refine i_andV ?_
  | with_reducible refine i_orV ?_
  | with_reducible refine i_notV ?_
  | with_reducible refine i_if ?_
  | with_reducible refine i_yes ?_
  | with_reducible refine k_T ?_
  | with_reducible refine k_F ?_
  | with_reducible refine k_True ?_
  | with_reducible refine k_False ?_
  | with_reducible refine i_eqI ?_
  | with_reducible refine i_neI ?_
  | with_reducible refine i_addI ?_
  | with_reducible refine i_addHI ?_
  | with_reducible refine i_callT ?_
  | with_reducible refine i_callH ?_
  | ((with_reducible refine' o_Ts ?e ?_); (case e => rfl))
  | with_reducible refine o_T ?_
  | ((with_reducible refine' o_TF ?e ?_); (case e => rfl))
  | with_reducible refine o_H ?_
  | ((with_reducible refine' o_HF ?e ?_); (case e => rfl))
  | with_reducible refine i_next ?_
  | with_reducible refine i_drop ?_
  | with_reducible refine i_ret ?_
  | with_reducible refine i_retN ?_
  | ((with_reducible refine' i_gTup ?e ?_); (case e => rfl))
  | with_reducible refine i_gCons ?_
  | with_reducible refine i_gNil ?_
  | with_reducible refine i_min2 ?_
  | with_reducible refine i_max2 ?_
  | with_reducible refine i_par ?_
  | with_reducible refine o_W2 ?_
  | ((with_reducible refine' i_aug ?e ?_); (case e => rfl))
  | with_reducible refine i_intI ?_
  | with_reducible refine i_intB ?_
  | with_reducible refine i_lc ?_
  | with_reducible refine i_for ?_
  | with_reducible refine i_while ?_
  | with_reducible refine i_itL ?_
  | ((with_reducible refine' o_Lq ?e ?_); (case e => rfl))
  | with_reducible refine i_itR1 ?_
  | with_reducible refine i_itR2 ?_
  | with_reducible refine o_I1 ?_
  | with_reducible refine o_I2 ?_
  | with_reducible refine e_t ?_
  | ((with_reducible refine' e_h ?e ?p ?_); (case e => rfl); (case p => rfl))
  | with_reducible refine i_M ?_
  | with_reducible refine i_M0 ?_
  | with_reducible refine i_gSub ?_
  | with_reducible refine i_finH ?_
  | with_reducible refine i_finT ?_
  | with_reducible refine i_sl ?_
  | with_reducible refine i_slH ?_
  | with_reducible refine i_slT ?_
  | with_reducible refine i_noPart ?_
  | with_reducible refine i_part ?_
  | ((with_reducible refine' i_frzT ?e ?_); (case e => rfl))
  | ((with_reducible refine' i_frzH ?e ?m ?t ?_); (case e => rfl); (case m => rfl); (case t => rfl))
  | ((with_reducible refine' i_din ?k ?e ?_); (case k => rfl); (case e => rfl))
  | ((with_reducible refine' i_dnotin ?k ?e ?_); (case k => rfl); (case e => rfl))
  | with_reducible refine i_dput ?_
  | with_reducible refine i_newD ?_
  | with_reducible refine i_lstH ?_
  | with_reducible refine i_lst ?_
  | with_reducible refine i_tup ?_
  | with_reducible refine i_break ?_
  | with_reducible refine i_cont ?_
  | with_reducible refine i_callS ?_
  | ((with_reducible refine' i_ixHW ?e ?v ?_); (case e => first | rfl | assumption); (case v => first | assumption | rfl))
  | ((with_reducible refine' i_ixHT ?e ?v ?_); (case e => first | rfl | assumption); (case v => first | assumption | rfl))
  | ((with_reducible refine' i_lenHT ?e ?_); (case e => first | rfl | assumption))
  | ((with_reducible refine' i_lenHW ?e ?_); (case e => first | rfl | assumption))
  | ((with_reducible refine' i_frzH ?e ?m ?t ?_); (case e => rfl); (case m => rfl); (case t => rfl))
  | ((with_reducible refine' i_unw ?e ?n ?_); (case e => rfl); (case n => rfl))
  | with_reducible refine i_gwCons ?_
  | with_reducible refine i_gwNil ?_
  | with_reducible refine i_lstW ?_
  | ((with_reducible refine' i_gList ?e ?n ?_); (case e => rfl); (case n => rfl))
  | with_reducible refine i_listRgH ?_
  | with_reducible refine i_listRg ?_
  | with_reducible refine i_R1 ?_
  | with_reducible refine i_getD ?_
  | ((with_reducible refine' i_none ?k ?_); (case k => rfl))
  | walk_at "dn")
local macro_rules | `(tactic| walk_at "dl") => `(tactic| ((try walk_at "dn"); repeat walk_at "d1"))
/-! what the program says of runs -/
theorem stL_nil : stL [] = [] := rfl
theorem pair_stT (a b : Int) : stT (a, b) = .tup [.int a, .int b] := rfl
theorem sh_stL (n : Nat) (s : Stk) : (T.lst (stL s)).sh (n + 2) = true := by
  show (stL s).all (T.sh (n + 1)) = true
  rw [List.all_eq_true]
  intro t ht
  obtain ⟨a, _, rfl⟩ := List.mem_map.mp ht
  simp [stT, T.sh]
theorem teq_nonL (xs : List T) : teq .non (.lst xs) = false := by
  unfold teq
  simp [T.pd, PyData.eqv]
theorem teq_nilD (xs : List T) : teq (.lst xs) (.lst []) = decide (xs = []) := by
  unfold teq
  cases xs <;> simp [T.pd, PyData.eqv, PyData.eqvAll]
theorem teq_stL (s : Stk) : teq (.lst (stL s)) (.lst []) = decide (s = []) := by
  rw [teq_nilD]
  cases s with
  | nil => rfl
  | cons a r =>
    rw [stL_cons]
    simp
theorem stk_none {w : Web} : ∀ {as bs : List Int}, stk w as = none → stk w (as ++ bs) = none := by
  intro as bs h
  unfold stk at *
  rw [List.foldl_append, h]
  clear h
  induction bs with
  | nil => rfl
  | cons b bs ih => exact ih
theorem stp_ok {w : Web} (hok : w.Ok) {s s' : Stk} {k : Int} (h : StkOk w s) (e : stp w s k = some s') : StkOk w s' := by
  match s with
  | [] => cases e
  | (p, x) :: r =>
    by_cases hc : 0 ≤ k ∧ k < w.rows.length ∧ (w.row k.toNat).p = p ∧ (w.row k.toNat).s = x
    · have e2 : stp w ((p, x) :: r) k = some (bhd w k.toNat r) := if_pos hc
      rw [e2] at e
      cases e
      exact h.next hok (mem_fromP.mpr ⟨by omega, hc.2.2.1, hc.2.2.2⟩)
    · have e2 : stp w ((p, x) :: r) k = none := if_neg hc
      rw [e2] at e
      cases e
theorem stk0 {w : Web} (hok : w.Ok) : StkOk w [(0, 0)] := by
  have h1 := hok.1
  have hm := hok.2.1 _ (place_mem (w := w) (p := 0) (by omega))
  refine ⟨⟨by simp, fun a ha => ?_⟩, fun p x r e => by cases e; decide⟩
  simp at ha
  subst ha
  exact ⟨0, rfl, by omega, Int.le_refl _, by show (0 : Int) < w.place 0; have : w.place ((0 : Nat) : Int) = w.place 0 := rfl; omega⟩
theorem StkOk.len {w : Web} (hok : w.Ok) {s : Stk} (h : StkOk w s) : s.length ≤ 4 := stk_len h.toStkIn (t := 4) (fun a ha => by
  have h1 := hok.1
  obtain ⟨q', e5, e6, _⟩ := h.inr a ha
  omega)
def C_ended : SC := fun ws m QC => ∃ s : Stk, ws = [.h 0] ∧ m = [.lt (stL s)] ∧ (popE s = s → QC (.h 0) [.lt (stL s)] []) ∧ QC (.h 1) [.lt (stL s)] [.lt (stL (popE s))]
theorem ln_ended : ∀ ws m Q, C_ended ws m Q → ws.length = ["a"].length := by rintro ws m Q ⟨_, rfl, _⟩; rfl
def rd_ended : DSt :=
  dSeq (dWhile (dAnd (dB (d2 (fI0 fun i j => .bl (decide (j < i))) (dN fLen (dCons (dVar 0) (dNil))) (dC (.int 0)))) (dB (d2 (fEq false) (d2 fIx (d2 fIx (dVar 0) (d1 fNeg (dC (.int 1)))) (dC (.int 1))) (dC (.int 1))))) (dAsg (dSlH (dVar 0) (dNoPart) (dPart (d1 fNeg (dC (.int 1))))) (dgN 0)))
  (dRet (dVar 0))

theorem rp_ended : ∀ ws m QC, C_ended ws m QC → rd_ended ⟨FinS m.length QC (.t .non), FinS m.length QC, fun _ => False, fun _ => False⟩ ⟨ws.map some ++ List.replicate (1 - ws.length) none, m.map some⟩ := by
  rintro ws m QC ⟨s, rfl, rfl, hQ0, hQ1⟩
  unfold rd_ended
  walk_at "dl"
  have fin : ∀ (n : Nat) (mem : Sto), mem[n]? = some (some (.lt (stL (popE s)))) → mem[0]? = some (some (.lt (stL s))) → (n = 0 → popE s = s) → FinS 1 QC (.h n) ⟨[some (.h n)], mem⟩ := by
    intro n mem en e0 h0
    have hn := (List.getElem?_eq_some_iff.mp en).1
    by_cases hz : n = 0
    · subst hz
      refine fin_s [] [.lt (stL s)] [] (.h 0) (by decide) ?_ rfl rfl rfl ?_ (hQ0 (h0 rfl))
      · intro j hj
        have : j = 0 := by simpa using hj
        subst this
        exact hn
      · intro i c' e
        match i, e with
        | 0, e => cases e; exact ⟨0, _, rfl, up_plain rfl _, e0⟩
        | i + 1, e => simp at e
    · refine fin_s [n] [.lt (stL s)] [.lt (stL (popE s))] (.h 1) (by simp; omega) ?_ rfl rfl rfl ?_ hQ1
      · intro j hj
        have : j = 0 ∨ j = n := by simpa using hj
        rcases this with rfl | rfl
        · show 0 < mem.length
          omega
        · exact hn
      · intro i c' e
        match i, e with
        | 0, e => cases e; exact ⟨0, _, rfl, up_plain rfl _, e0⟩
        | 1, e => cases e; exact ⟨n, _, rfl, up_plain rfl _, en⟩
        | i + 2, e => simp at e
  refine ⟨fun m g' => ∃ (s' : Stk) (n : Nat) (mem : Sto), m = s'.length ∧ popE s' = popE s ∧ g' = ⟨[some (.h n)], mem⟩ ∧ mem[n]? = some (some (.lt (stL s'))) ∧ mem[0]? = some (some (.lt (stL s))) ∧ (n = 0 → s' = s), ⟨_, s, 0, _, rfl, rfl, rfl, rfl, rfl, fun _ => rfl⟩, ?_⟩
  rintro m g' ⟨s', n, mem, rfl, hp, rfl, en, e0, h0⟩
  match s', hp, en, h0 with
  | [], hp, en, h0 =>
    walk_at "dl"
    refine k_dF (by decide) ?_
    walk_at "dl"
    refine fin n mem ?_ e0 (fun z => ?_)
    · rw [← hp]; exact en
    · rw [← hp, ← h0 z]; rfl
  | (p, x) :: r, hp, en, h0 =>
    walk_at "dl"
    rw [stL_len]
    refine k_dT (by simp) ?_
    have hlast : atI (stL ((p, x) :: r)) (-1) = some (.tup [.int p, .int x]) := by rw [stL_cons]; exact atI_last _ _
    walk_at "dl"
    by_cases hx : x = 1
    · refine k_dT hx ?_
      walk_at "dl"
      refine o_cutH (lq_h en) ?_
      rw [stL_cons, cut_m1]
      walk_at "dl"
      refine ⟨r.length, by simp, r, _, _, rfl, ?_, rfl, at_last, at_more e0, fun z => ?_⟩
      · rw [← hp]
        show popE r = (if x = 1 then popE r else (p, x) :: r)
        rw [if_pos hx]
      · have := (List.getElem?_eq_some_iff.mp e0).1
        omega
    · refine k_dF hx ?_
      have hpx : popE ((p, x) :: r) = (p, x) :: r := popE_last rfl hx
      walk_at "dl"
      refine fin n mem ?_ e0 (fun z => ?_)
      · rw [← hp, hpx]; exact en
      · rw [← hp, hpx]; exact h0 z
theorem callS_ended {n : Nat} {s : Stk} {sl : List (Option W)} {mem : Sto} {Q : W → G → Prop} (em : mem[n]? = some (some (.lt (stL s)))) (h : ∀ (j : Nat) (mem' : Sto), mem'[j]? = some (some (.lt (stL (popE s)))) → Q (.h j) ⟨sl, mem'⟩) : callS C_ended [.h n] ⟨sl, mem⟩ Q := by
  refine ⟨[n], [.lt (stL s)], [.h 0], by simp, rfl, rfl, fun i c e => ?_, s, rfl, rfl, fun hp => ⟨.h n, [.lt (stL s)], [], rfl, rfl, rfl, ?_⟩, ⟨.h mem.length, [.lt (stL s)], [.lt (stL (popE s))], rfl, rfl, rfl, ?_⟩⟩
  · match i, e with
    | 0, e => cases e; exact ⟨n, _, rfl, rfl, em⟩
    | i + 1, e => simp at e
  · rw [List.map_nil, List.append_nil]
    refine h n _ ?_
    rw [hp]
    show (mem.set n (some (.lt (stL s))))[n]? = _
    rw [set_same em]
    exact em
  · refine h mem.length _ ?_
    show (mem.set n (some (.lt (stL s))) ++ [some (.lt (stL (popE s)))])[mem.length]? = _
    rw [set_same em]
    exact at_last
def C_gone_on : PC := fun ts Q => ∃ (w : Web) (s : Stk) (k : Int), ts = [w.t, .lst (stL s), .int k] ∧ w.rows.length ≤ 1000 ∧ s.length ≤ 1000 ∧ (stp w s k = none → Q (.t .non)) ∧ ∀ s', stp w s k = some s' → Q (.f (.lt (stL s')))
theorem ln_gone_on : ∀ ts Q, C_gone_on ts Q → ts.length = ["a", "b", "c"].length := by rintro ts Q ⟨_, _, _, rfl, _⟩; rfl
def rd_gone_on : DSt :=
  dSeq (dIfS (dOr (dB (d2 (fEq false) (dN fLen (dCons (dVar 1) (dNil))) (dC (.int 0)))) (dOr (dB (d2 (fI0 fun i j => .bl (decide (i < j))) (dVar 2) (dC (.int 0)))) (dB (d2 (fI0 fun i j => .bl (decide (j ≤ i))) (dVar 2) (dN fLen (dCons (d2 fIx (dVar 0) (dC (.int 1))) (dNil))))))) (dRet (dC .non)) (dNext))
  (dSeq (dAsg (d2 fIx (d2 fIx (dVar 0) (dC (.int 1))) (dVar 2)) (dgTup 4 (dgCons (dgN 3) (dgCons (dgN 4) (dgCons (dgN 5) (dgCons (dgN 6) (dgNil)))))))
  (dSeq (dIfS (dB (d2 (fEq true) (d2 fIx (dVar 1) (d1 fNeg (dC (.int 1)))) (dTup (dCons (dVar 3) (dCons (dVar 4) (dNil)))))) (dRet (dC .non)) (dNext))
  (dSeq (dAsg (d2 fAddH (dSl (dVar 1) (dNoPart) (dPart (d1 fNeg (dC (.int 1))))) (dLst (dCons (dTup (dCons (dVar 3) (dCons (dVar 5) (dNil)))) (dNil)))) (dgN 1))
  (dSeq (dIfS (dB (d2 (fI0 fun i j => .bl (decide (j ≤ i))) (dVar 6) (dC (.int 0)))) (dRet (d2 fAddH (dVar 1) (dLst (dCons (dTup (dCons (dVar 6) (dCons (dC (.int 0)) (dNil)))) (dNil))))) (dNext))
  (dRet (dCallS C_ended (dCons (dVar 1) (dNil))))))))

theorem rp_gone_on : ∀ ts Q, C_gone_on ts Q → rd_gone_on ⟨FinP Q (.t .non), FinP Q, fun _ => False, fun _ => False⟩ ⟨ts.map (fun t => some (W.t t)) ++ List.replicate (7 - ts.length) none, []⟩ := by
  rintro ts Q ⟨w, s, k, rfl, hr, hs, hN, hS⟩
  unfold rd_gone_on Web.t
  walk_at "dl"
  rw [stL_len]
  match s, hs, hN, hS with
  | [], hs, hN, hS =>
    refine k_dT rfl ?_
    walk_at "dl"
    exact hN rfl
  | (p, x) :: r, hs, hN, hS =>
    have hlen : r.length ≤ 1000 := by simp at hs; omega
    have yes : 0 ≤ k ∧ k < w.rows.length ∧ (w.row k.toNat).p = p ∧ (w.row k.toNat).s = x → stp w ((p, x) :: r) k = some (bhd w k.toNat r) := fun hc => if_pos hc
    have no : ¬ (0 ≤ k ∧ k < w.rows.length ∧ (w.row k.toNat).p = p ∧ (w.row k.toNat).s = x) → stp w ((p, x) :: r) k = none := fun hc => if_neg hc
    refine k_dF (by simp; omega) ?_
    walk_at "dl"
    refine k_d (fun c1 => ?_) (fun c1 => ?_)
    · walk_at "dl"
      exact hN (no (by omega))
    walk_at "dl"
    rw [List.length_map]
    refine k_d (fun c2 => ?_) (fun c2 => ?_)
    · walk_at "dl"
      exact hN (no (by omega))
    obtain ⟨n, rfl⟩ := toI (i := k) (by omega)
    rw [Int.toNat_natCast] at yes no
    have hrow := row_at (w := w) (k := n) (by omega)
    unfold Row.t at hrow
    have hlast : atI (stL ((p, x) :: r)) (-1) = some (.tup [.int p, .int x]) := by rw [stL_cons]; exact atI_last _ _
    walk_at "dl"
    refine ⟨by decide, ?_⟩
    refine i_neT (u := .tup [.int p, .int x]) (v := .tup [.int (w.row n).p, .int (w.row n).s]) rfl rfl rfl rfl ?_
    rw [teq_pair]
    by_cases c3 : (w.row n).p = p ∧ (w.row n).s = x
    · rw [decide_eq_true c3.1.symm, decide_eq_true c3.2.symm]
      walk_at "dl"
      refine k_F ?_
      walk_at "dl"
      refine o_cut (us := stL ((p, x) :: r)) rfl ?_
      rw [stL_cons, cut_m1]
      walk_at "dl"
      refine ⟨by decide, ?_⟩
      walk_at "dl"
      refine ⟨by decide, ?_⟩
      refine i_addHL (xs := stL r) (ys := [T.tup [.int (w.row n).p, .int (w.row n).e]]) rfl rfl (lineLe (by rw [List.length_singleton, stL_len]; omega)) ?_
      rw [show stL r ++ [T.tup [.int (w.row n).p, .int (w.row n).e]] = stL (((w.row n).p, (w.row n).e) :: r) by rw [stL_cons]; rfl]
      have hy := yes ⟨by omega, by omega, c3.1, c3.2⟩
      have hS' := hS _ hy
      unfold bhd at hS'
      walk_at "dl"
      refine k_d (fun c4 => ?_) (fun c4 => ?_)
      · walk_at "dl"
        refine ⟨by decide, ?_⟩
        walk_at "dl"
        refine ⟨by decide, ?_⟩
        refine i_addHL (xs := stL (((w.row n).p, (w.row n).e) :: r)) (ys := [T.tup [.int (w.row n).c, .int 0]]) rfl rfl (lineLe (by rw [List.length_singleton, stL_len, List.length_cons]; omega)) ?_
        rw [if_pos c4, popE_last rfl (by decide)] at hS'
        rw [show stL (((w.row n).p, (w.row n).e) :: r) ++ [T.tup [.int (w.row n).c, .int 0]] = stL (((w.row n).c, 0) :: ((w.row n).p, (w.row n).e) :: r) from (stL_cons ((w.row n).c, 0) _).symm]
        walk_at "dl"
        exact hS'
      · walk_at "dl"
        rw [if_neg c4] at hS'
        refine callS_ended (s := ((w.row n).p, (w.row n).e) :: r) rfl fun j mem' em' => ?_
        refine e_h em' rfl hS'
    · have hn := no (fun z => c3 z.2.2)
      have : (decide (p = (w.row n).p) && decide (x = (w.row n).s)) = false := by
        rw [Bool.and_eq_false_iff]
        by_cases c5 : (w.row n).p = p
        · exact .inr (decide_eq_false fun z => c3 ⟨c5, z.symm⟩)
        · exact .inl (decide_eq_false fun z => c5 z.symm)
      rw [this]
      walk_at "dl"
      refine k_T ?_
      walk_at "dl"
      exact hN hn
def C_walked_through : PC := fun ts Q => ∃ (w : Web) (ks : List Int), ts = [w.t, .lst (ks.map T.int)] ∧ w.Ok ∧ ks.length ≤ 1000000 ∧ (stk w ks = none → Q (.t .non)) ∧ ∀ s, stk w ks = some s → Q (.f (.lt (stL s)))
theorem ln_walked_through : ∀ ts Q, C_walked_through ts Q → ts.length = ["a", "b"].length := by rintro ts Q ⟨_, _, rfl, _⟩; rfl
def rd_walked_through : DSt :=
  dSeq (dAsg (dLstH (dCons (dTup (dCons (dC (.int 0)) (dCons (dC (.int 0)) (dNil)))) (dNil))) (dgN 2))
  (dSeq (dFor (diL (dVar 1)) (dgN 3) (dSeq (dAsg (dCallH C_gone_on (dCons (dVar 0) (dCons (dFrz 2) (dCons (dVar 3) (dNil))))) (dgN 2))
  (dIfS (dB (d1 (fNone false) (dVar 2))) (dRet (dC .non)) (dNext))))
  (dRet (dVar 2)))

theorem rp_walked_through : ∀ ts Q, C_walked_through ts Q → rd_walked_through ⟨FinP Q (.t .non), FinP Q, fun _ => False, fun _ => False⟩ ⟨ts.map (fun t => some (W.t t)) ++ List.replicate (4 - ts.length) none, []⟩ := by
  rintro ts Q ⟨w, ks, rfl, hok, hl, hN, hS⟩
  have h1 := hok.1
  unfold rd_walked_through
  walk_at "dl"
  refine ⟨by decide, ?_⟩
  walk_at "dl"
  refine ⟨by decide, ?_⟩
  walk_at "dl"
  refine forG ks (fun x => W.t (.int x)) (fun pre g' => ∃ (s : Stk) (n : Nat) (mem : Sto) (o3 : Option W), g' = ⟨[some (.t w.t), some (.t (.lst (ks.map T.int))), some (.h n), o3], mem⟩ ∧ mem[n]? = some (some (.lt (stL s))) ∧ stk w pre = some s ∧ StkOk w s)
    (by rw [List.map_map]; rfl) ⟨[(0, 0)], 0, _, _, rfl, rfl, rfl, stk0 hok⟩ (by rintro _ _ ⟨_, _, _, _, rfl, _⟩; rfl) ?_ ?_
  · rintro pre x post hsp g' ⟨s, n, mem, o3, rfl, em, hst, hs⟩ N hN2
    walk_at "dl"
    refine i_frzH rfl em rfl ?_
    have hnx : stk w (pre ++ [x]) = stp w s x := by rw [stk_snoc, hst]; rfl
    have hlen := hs.len hok
    unfold G.frz frzW
    simp only [List.map_cons, List.map_nil, if_true]
    walk_at "dl"
    refine ⟨w, s, x, rfl, by omega, by omega, fun e => ?_, fun s' e => ?_⟩
    · walk_at "dl"
      refine hN ?_
      rw [hsp, show pre ++ x :: post = (pre ++ [x]) ++ post by simp]
      exact stk_none (by rw [hnx]; exact e)
    · walk_at "dl"
      refine hN2 _ ⟨s', _, _, _, rfl, at_last, by rw [hnx]; exact e, stp_ok hok hs e⟩
  · rintro g' ⟨s, n, mem, o3, rfl, em, hst, hs⟩
    walk_at "dl"
    exact e_h em rfl (hS s hst)
def C_is_run : PC := fun ts Q => ∃ (w : Web) (ks : List Int), ts = [w.t, .lst (ks.map T.int)] ∧ w.Ok ∧ ks.length ≤ 1000000 ∧ Q (.t (.bl (decide (stk w ks = some []))))
theorem ln_is_run : ∀ ts Q, C_is_run ts Q → ts.length = ["a", "b"].length := by rintro ts Q ⟨_, _, rfl, _⟩; rfl
def rd_is_run : DSt :=
  dSeq (dDrop (dCallT C_must_be_web (dCons (dVar 0) (dNil))))
  (dRet (d2 (fEq false) (dCallT C_walked_through (dCons (dVar 0) (dCons (dVar 1) (dNil)))) (dLst (dNil))))

theorem rp_is_run : ∀ ts Q, C_is_run ts Q → rd_is_run ⟨FinP Q (.t .non), FinP Q, fun _ => False, fun _ => False⟩ ⟨ts.map (fun t => some (W.t t)) ++ List.replicate (2 - ts.length) none, []⟩ := by
  rintro ts Q ⟨w, ks, rfl, hok, hl, hQ⟩
  unfold rd_is_run
  walk_at "dl"
  refine ⟨w, rfl, hok, ?_⟩
  walk_at "dl"
  refine ⟨w, ks, rfl, hok, hl, fun e => ?_, fun s e => ?_⟩
  · walk_at "dl"
    refine ⟨by decide, ?_⟩
    refine i_eqT (u := .non) (v := .lst []) rfl rfl rfl rfl ?_
    rw [teq_nonL]
    walk_at "dl"
    rw [e] at hQ
    exact hQ
  · walk_at "dl"
    refine ⟨by decide, ?_⟩
    refine i_eqT (u := .lst (stL s)) (v := .lst []) rfl rfl (sh_stL 6 s) rfl ?_
    rw [teq_stL]
    walk_at "dl"
    rw [e] at hQ
    rw [show decide (s = []) = decide (some s = some ([] : Stk)) by simp]
    exact hQ

end DL

namespace DL
open PySem PySem.Spec L2
local macro_rules | `(tactic| walk_at "dn") => `(tactic| simp only [purse_set2, purse_set3, purse_set4, purse_set5, purse_app, purse_len, purse_start, purse_l, G.set, G.put, G.push, G.wipe, wipeW, G.rs, rsW, List.set_cons_zero, List.set_cons_succ, List.map_cons, List.map_nil, List.length_cons, List.length_nil, List.nil_append, List.cons_append, List.replicate_succ, List.replicate_zero, Nat.reduceAdd, Nat.reduceSub, List.getD_cons_zero, List.getD_cons_succ, Option.getD_some, Option.getD_none])
local macro_rules | `(tactic| walk_at "d1") => `(tactic| first
  | with_reducible refine i_seq ?_
  | with_reducible refine i_asg ?_
  | with_reducible refine i_d2 ?_
  | ((with_reducible refine' i_var ?e ?_); (case e => rfl))
  | with_reducible refine i_c ?_
  | ((with_reducible refine' i_ix ?e ?v ?_); (case e => rfl); (case v => first | assumption | rfl))
  | with_reducible refine i_fI0 ?_
  | with_reducible refine i_gN ?_
  | with_reducible refine i_cons ?_
  | with_reducible refine i_nil ?_
  | with_reducible refine i_dN ?_
  | ((with_reducible refine' i_len ?e ?_); (case e => rfl))
  | with_reducible refine i_d1 ?_
  | with_reducible refine i_neg ?_
  | with_reducible refine i_B ?_
  | with_reducible refine o_B ?_
  | with_reducible refine o_I ?_
  | with_reducible refine i_ifS ?_
  | with_reducible refine i_or ?_
  | with_reducible refine i_and ?_
  | with_reducible refine i_not ?_
  | with_reducible refine i_andV ?_
  | with_reducible refine i_orV ?_
  | with_reducible refine i_notV ?_
  | with_reducible refine i_if ?_
  | with_reducible refine i_yes ?_
  | with_reducible refine k_T ?_
  | with_reducible refine k_F ?_
  | with_reducible refine k_True ?_
  | with_reducible refine k_False ?_
  | with_reducible refine i_eqI ?_
  | with_reducible refine i_neI ?_
  | with_reducible refine i_addI ?_
  | with_reducible refine i_addHI ?_
  | with_reducible refine i_callT ?_
  | with_reducible refine i_callH ?_
  | ((with_reducible refine' o_Ts ?e ?_); (case e => rfl))
  | with_reducible refine o_T ?_
  | ((with_reducible refine' o_TF ?e ?_); (case e => rfl))
  | with_reducible refine o_H ?_
  | ((with_reducible refine' o_HF ?e ?_); (case e => rfl))
  | with_reducible refine i_next ?_
  | with_reducible refine i_drop ?_
  | with_reducible refine i_ret ?_
  | with_reducible refine i_retN ?_
  | ((with_reducible refine' i_gTup ?e ?_); (case e => rfl))
  | with_reducible refine i_gCons ?_
  | with_reducible refine i_gNil ?_
  | with_reducible refine i_min2 ?_
  | with_reducible refine i_max2 ?_
  | with_reducible refine i_par ?_
  | with_reducible refine o_W2 ?_
  | ((with_reducible refine' i_aug ?e ?_); (case e => rfl))
  | with_reducible refine i_intI ?_
  | with_reducible refine i_intB ?_
  | with_reducible refine i_lc ?_
  | with_reducible refine i_for ?_
  | with_reducible refine i_while ?_
  | with_reducible refine i_itL ?_
  | ((with_reducible refine' o_Lq ?e ?_); (case e => rfl))
  | with_reducible refine i_itR1 ?_
  | with_reducible refine i_itR2 ?_
  | with_reducible refine o_I1 ?_
  | with_reducible refine o_I2 ?_
  | with_reducible refine e_t ?_
  | ((with_reducible refine' e_h ?e ?p ?_); (case e => rfl); (case p => rfl))
  | with_reducible refine i_M ?_
  | with_reducible refine i_M0 ?_
  | with_reducible refine i_gSub ?_
  | with_reducible refine i_finH ?_
  | with_reducible refine i_finT ?_
  | with_reducible refine i_sl ?_
  | with_reducible refine i_slH ?_
  | with_reducible refine i_slT ?_
  | with_reducible refine i_noPart ?_
  | with_reducible refine i_part ?_
  | ((with_reducible refine' i_frzT ?e ?_); (case e => rfl))
  | ((with_reducible refine' i_frzH ?e ?m ?t ?_); (case e => rfl); (case m => rfl); (case t => rfl))
  | ((with_reducible refine' i_din ?k ?e ?_); (case k => rfl); (case e => rfl))
  | ((with_reducible refine' i_dnotin ?k ?e ?_); (case k => rfl); (case e => rfl))
  | with_reducible refine i_dput ?_
  | with_reducible refine i_newD ?_
  | with_reducible refine i_lstH ?_
  | with_reducible refine i_lst ?_
  | with_reducible refine i_tup ?_
  | with_reducible refine i_break ?_
  | with_reducible refine i_cont ?_
  | with_reducible refine i_callS ?_
  | ((with_reducible refine' i_ixHW ?e ?v ?_); (case e => first | rfl | assumption); (case v => first | assumption | rfl))
  | ((with_reducible refine' i_ixHT ?e ?v ?_); (case e => first | rfl | assumption); (case v => first | assumption | rfl))
  | ((with_reducible refine' i_lenHT ?e ?_); (case e => first | rfl | assumption))
  | ((with_reducible refine' i_lenHW ?e ?_); (case e => first | rfl | assumption))
  | ((with_reducible refine' i_frzH ?e ?m ?t ?_); (case e => rfl); (case m => rfl); (case t => rfl))
  | ((with_reducible refine' i_unw ?e ?n ?_); (case e => rfl); (case n => rfl))
  | with_reducible refine i_gwCons ?_
  | with_reducible refine i_gwNil ?_
  | with_reducible refine i_lstW ?_
  | ((with_reducible refine' i_gList ?e ?n ?_); (case e => rfl); (case n => rfl))
  | with_reducible refine i_listRgH ?_
  | with_reducible refine i_listRg ?_
  | with_reducible refine i_R1 ?_
  | with_reducible refine i_getD ?_
  | ((with_reducible refine' i_none ?k ?_); (case k => rfl))
  | walk_at "dn")
local macro_rules | `(tactic| walk_at "dl") => `(tactic| ((try walk_at "dn"); repeat walk_at "d1"))
/-! counts of heaps -/
def incA (xs : List Int) (j : Nat) : List Int := xs.set j (xs.getD j 0 + 1)
theorem incA_len (xs : List Int) (j : Nat) : (incA xs j).length = xs.length := by unfold incA; rw [List.length_set]
def tly1 (w : Web) (xs : List Int) (k : Int) : List Int := if 0 ≤ (w.row k.toNat).c then incA (incA xs k.toNat) (w.rows.length + (w.row k.toNat).c.toNat) else incA xs k.toNat
theorem tly1_len (w : Web) (xs : List Int) (k : Int) : (tly1 w xs k).length = xs.length := by
  unfold tly1
  split
  · rw [incA_len, incA_len]
  · rw [incA_len]
def tlyR (w : Web) (xs : List Int) (ks : List Int) : List Int := ks.foldl (tly1 w) (incA xs w.rows.length)
def tlyS (w : Web) (o : Option (List Int)) (r : List Int) : Option (List Int) := o.bind fun xs => if stk w r = some [] then some (tlyR w xs r) else none
def tally (w : Web) (heap : List (List Int)) : Option (List Int) := heap.foldl (tlyS w) (some (List.replicate (w.rows.length + w.places.length) 0))
theorem tally_snoc (w : Web) (h : List (List Int)) (r : List Int) : tally w (h ++ [r]) = tlyS w (tally w h) r := by
  unfold tally
  rw [List.foldl_append]
  rfl
theorem tally_none {w : Web} : ∀ {as bs : List (List Int)}, tally w as = none → tally w (as ++ bs) = none := by
  intro as bs h
  unfold tally at *
  rw [List.foldl_append, h]
  clear h
  induction bs with
  | nil => rfl
  | cons b bs ih => exact ih
def runT (r : List Int) : T := .lst (r.map T.int)
def hT (heap : List (List Int)) : T := .lst (heap.map runT)
structure HpOk (heap : List (List Int)) : Prop where
  len : heap.length ≤ 1000
  runs : ∀ r ∈ heap, r.length ≤ 100000
/-- a run's rows are the web's -/
theorem stk_rng {w : Web} : ∀ {ks : List Int} {s : Stk}, stk w ks = some s → ∀ k ∈ ks, 0 ≤ k ∧ k < w.rows.length := by
  intro ks
  have key : ∀ (bs as : List Int), (∀ s, stk w as = some s → ∀ k ∈ as, 0 ≤ k ∧ k < w.rows.length) → ∀ s, stk w (as ++ bs) = some s → ∀ k ∈ as ++ bs, 0 ≤ k ∧ k < w.rows.length := by
    intro bs
    induction bs with
    | nil => intro as h s e; rw [List.append_nil] at e ⊢; exact h s e
    | cons b bs ih =>
      intro as h s e
      rw [show as ++ b :: bs = (as ++ [b]) ++ bs by simp] at e ⊢
      refine ih (as ++ [b]) (fun s2 e2 => ?_) s e
      rw [stk_snoc] at e2
      cases e3 : stk w as with
      | none => rw [e3] at e2; cases e2
      | some s3 =>
        rw [e3] at e2
        have e4 : stp w s3 b = some s2 := e2
        intro k hk
        rcases List.mem_append.mp hk with hk | hk
        · exact h s3 e3 k hk
        · have : k = b := by simpa using hk
          subst this
          match s3, e4 with
          | (p, x) :: r, e4 =>
            by_cases hc : 0 ≤ k ∧ k < w.rows.length ∧ (w.row k.toNat).p = p ∧ (w.row k.toNat).s = x
            · exact ⟨hc.1, hc.2.1⟩
            · have e5 : stp w ((p, x) :: r) k = none := if_neg hc
              rw [e5] at e4
              cases e4
  intro s e
  exact key ks [] (fun s _ k hk => by simp at hk) s e
theorem int_atN {xs : List Int} {j : Nat} (h : j < xs.length) : atI (xs.map T.int) (j : Int) = some (.int (xs.getD j 0)) := atI_map T.int (atI_getD 0 h)
theorem zeros_map {α : Type} (xs : List α) : (xs.map fun _ => T.int 0) = (List.replicate xs.length (0 : Int)).map T.int := by
  rw [List.map_replicate, List.map_const']
def onLaug (f : Int → Int → Int) (tv : Dt) (D : De) (o y : W) (g2 : G) : Prop := match o, y with
  | .h n, .t (.int i) => (match g2.mem[n]? with
    | some (some (.lt ts)) => ∃ j z, ixN ts.length i = some j ∧ ts[j]? = some (.int z) ∧ tv g2 fun w g3 => (match w with | .t (.int d) => g3.mem[n]? = some (some (.lt ts)) ∧ D.nx (g3.put n (.lt (ts.set j (.int (f z d))))) | _ => False)
    | _ => False)
  | _, _ => False
theorem i_laug {f : Int → Int → Int} {td ty tv : Dt} {D : De} {g : G} (h : td g fun o g1 => ty g1 fun y g2 => onLaug f tv D o y g2) : dLaug f td ty tv D g := h
theorem o_laug {D : De} {g : G} {n j : Nat} {xs : List Int} (em : g.mem[n]? = some (some (.lt (xs.map T.int)))) (hj : j < xs.length) (h : D.nx (g.put n (.lt ((incA xs j).map T.int)))) : onLaug (fun i j => i + j) (dC (.int 1)) D (.h n) (.t (.int j)) g := by
  unfold onLaug
  dsimp only
  rw [em]
  refine ⟨j, xs.getD j 0, ixN_nat (by rw [List.length_map]; exact hj), ?_, em, ?_⟩
  · rw [List.getElem?_map, List.getD_eq_getElem?_getD, List.getElem?_eq_getElem hj]
    rfl
  · rw [show (xs.map T.int).set j (T.int (xs.getD j 0 + 1)) = (incA xs j).map T.int by unfold incA; rw [List.map_set]]
    exact h
def C_tallied : PC := fun ts Q => ∃ (w : Web) (heap : List (List Int)), ts = [w.t, hT heap] ∧ w.Ok ∧ HpOk heap ∧ (tally w heap = none → Q (.t .non)) ∧ ∀ xs, tally w heap = some xs → Q (.f (.lt (xs.map T.int)))
theorem ln_tallied : ∀ ts Q, C_tallied ts Q → ts.length = ["a", "b"].length := by rintro ts Q ⟨_, _, rfl, _⟩; rfl
def rd_tallied : DSt :=
  dSeq (dAsg (d2 fAddH (dLc finT (diL (d2 fIx (dVar 0) (dC (.int 1)))) (dgN 5) (dYes) (dC (.int 0)) [5]) (dLc finT (diL (d2 fIx (dVar 0) (dC (.int 0)))) (dgN 6) (dYes) (dC (.int 0)) [6])) (dgN 2))
  (dSeq (dFor (diL (dVar 1)) (dgN 3) (dSeq (dIfS (dB (d2 (fEq true) (dCallT C_walked_through (dCons (dVar 0) (dCons (dVar 3) (dNil)))) (dLst (dNil)))) (dRet (dC .non)) (dNext))
  (dSeq (dLaug (fun i j => i + j) (dVar 2) (dN fLen (dCons (d2 fIx (dVar 0) (dC (.int 1))) (dNil))) (dC (.int 1)))
  (dFor (diL (dVar 3)) (dgN 4) (dSeq (dLaug (fun i j => i + j) (dVar 2) (dVar 4) (dC (.int 1)))
  (dIfS (dB (d2 (fI0 fun i j => .bl (decide (j ≤ i))) (d2 fIx (d2 fIx (d2 fIx (dVar 0) (dC (.int 1))) (dVar 4)) (dC (.int 3))) (dC (.int 0)))) (dLaug (fun i j => i + j) (dVar 2) (d2 fAdd (dN fLen (dCons (d2 fIx (dVar 0) (dC (.int 1))) (dNil))) (d2 fIx (d2 fIx (d2 fIx (dVar 0) (dC (.int 1))) (dVar 4)) (dC (.int 3)))) (dC (.int 1))) (dNext)))))))
  (dRet (dVar 2)))

theorem rp_tallied : ∀ ts Q, C_tallied ts Q → rd_tallied ⟨FinP Q (.t .non), FinP Q, fun _ => False, fun _ => False⟩ ⟨ts.map (fun t => some (W.t t)) ++ List.replicate (7 - ts.length) none, []⟩ := by
  rintro ts Q ⟨w, heap, rfl, hok, hh, hN, hS⟩
  have h1 := hok.1
  unfold rd_tallied Web.t hT
  walk_at "dl"
  refine lcP w.rows (fun r => W.t r.t) (fun _ => true) (fun _ => T.int 0) (by rw [List.map_map]; rfl) (lineLe (by omega)) rfl ?_ rfl ?_
  · intro x hx Y N2 hY hN2
    walk_at "dl"
    exact hY rfl _ rfl
  rw [List.filter_eq_self.mpr (fun _ _ => rfl)]
  walk_at "dl"
  refine lcP w.places (fun r => W.t (.int r)) (fun _ => true) (fun _ => T.int 0) (by rw [List.map_map]; rfl) (lineLe (by omega)) rfl ?_ rfl ?_
  · intro x hx Y N2 hY hN2
    walk_at "dl"
    exact hY rfl _ rfl
  rw [List.filter_eq_self.mpr (fun _ _ => rfl)]
  walk_at "dl"
  refine i_addHL (xs := w.rows.map fun _ => T.int 0) (ys := w.places.map fun _ => T.int 0) rfl rfl (lineLe (by rw [List.length_map, List.length_map]; omega)) ?_
  rw [zeros_map, zeros_map, ← List.map_append, List.replicate_append_replicate]
  walk_at "dl"
  refine forG heap (fun r => W.t (runT r)) (fun pre g' => ∃ (xs : List Int) (n : Nat) (mem : Sto) (o3 o4 o5 o6 : Option W), g' = ⟨[some (.t (.tup [.lst (w.places.map T.int), .lst (w.rows.map Row.t)])), some (.t (.lst (heap.map runT))), some (.h n), o3, o4, o5, o6], mem⟩ ∧ mem[n]? = some (some (.lt (xs.map T.int))) ∧ tally w pre = some xs ∧ xs.length = w.rows.length + w.places.length)
    (by rw [List.map_map]; rfl) ⟨_, 0, _, _, _, _, _, rfl, rfl, rfl, by rw [List.length_replicate]⟩ (by rintro _ _ ⟨_, _, _, _, _, _, _, rfl, _⟩; rfl) ?_ ?_
  · rintro pre r post hsp g' ⟨xs, n, mem, o3, o4, o5, o6, rfl, em, ht, hxl⟩ N hN2
    have hrl := hh.runs r (by rw [hsp]; simp)
    have hbad : stk w r ≠ some [] → Q (.t .non) := fun e => hN (by
      rw [hsp, show pre ++ r :: post = (pre ++ [r]) ++ post by simp]
      refine tally_none ?_
      rw [tally_snoc, ht]
      show (if stk w r = some [] then some (tlyR w xs r) else none) = none
      rw [if_neg e])
    unfold runT
    walk_at "dl"
    refine ⟨w, r, rfl, hok, by omega, fun e => ?_, fun s e => ?_⟩
    · walk_at "dl"
      refine ⟨by decide, ?_⟩
      refine i_neT (u := .non) (v := .lst []) rfl rfl rfl rfl ?_
      rw [teq_nonL, Bool.not_false]
      walk_at "dl"
      exact hbad (by rw [e]; exact fun z => nomatch z)
    · walk_at "dl"
      refine ⟨by decide, ?_⟩
      refine i_neT (u := .lst (stL s)) (v := .lst []) rfl rfl (sh_stL 6 s) rfl ?_
      rw [teq_stL]
      refine k_n (fun c => ?_) (fun c => ?_)
      · walk_at "dl"
        exact hbad (by rw [e]; exact fun z => c (Option.some.inj z))
      subst c
      have hrng := stk_rng e
      have hnx : tally w (pre ++ [r]) = some (tlyR w xs r) := by
        rw [tally_snoc, ht]
        show (if stk w r = some [] then some (tlyR w xs r) else none) = some (tlyR w xs r)
        rw [if_pos e]
      have hn := (List.getElem?_eq_some_iff.mp em).1
      walk_at "dl"
      refine i_laug ?_
      walk_at "dl"
      rw [List.length_map]
      refine o_laug em (by omega) ?_
      simp only [G.put]
      walk_at "dl"
      refine forG r (fun k => W.t (.int k)) (fun pre2 g' => ∃ (mem2 : Sto) (o4 : Option W), g' = ⟨[some (.t (.tup [.lst (w.places.map T.int), .lst (w.rows.map Row.t)])), some (.t (.lst (heap.map runT))), some (.h n), some (.t (.lst (r.map T.int))), o4, o5, o6], mem2⟩ ∧ mem2[n]? = some (some (.lt ((pre2.foldl (tly1 w) (incA xs w.rows.length)).map T.int))))
        (by rw [List.map_map]; rfl) ⟨_, _, rfl, List.getElem?_set_self hn⟩ (by rintro _ _ ⟨_, _, rfl, _⟩; rfl) ?_ ?_
      · rintro pre2 k post2 hsp2 g2 ⟨mem2, o4', rfl, em2⟩ N3 hN3
        have hk := hrng k (by rw [hsp2]; simp)
        obtain ⟨kn, rfl⟩ := toI hk.1
        have hkn : kn < w.rows.length := by omega
        have hrow := row_at hkn
        unfold Row.t at hrow
        have hro := hok.2.2.1 _ (row_mem hkn)
        unfold Web.rowOk at hro
        have hlen : (pre2.foldl (tly1 w) (incA xs w.rows.length)).length = w.rows.length + w.places.length := by
          have : ∀ (l : List Int) (ys : List Int), (l.foldl (tly1 w) ys).length = ys.length := fun l => by
            induction l with
            | nil => intro ys; rfl
            | cons a l ih => intro ys; rw [List.foldl_cons, ih, tly1_len]
          rw [this, incA_len, hxl]
        have hfold : (pre2 ++ [(kn : Int)]).foldl (tly1 w) (incA xs w.rows.length) = tly1 w (pre2.foldl (tly1 w) (incA xs w.rows.length)) kn := by rw [List.foldl_append]; rfl
        rw [hfold] at hN3
        generalize pre2.foldl (tly1 w) (incA xs w.rows.length) = ys at em2 hlen hN3
        have hn2 := (List.getElem?_eq_some_iff.mp em2).1
        walk_at "dl"
        refine i_laug ?_
        walk_at "dl"
        refine o_laug em2 (by omega) ?_
        simp only [G.put]
        have em3 : (mem2.set n (some (Cell.lt ((incA ys kn).map T.int))))[n]? = some (some (.lt ((incA ys kn).map T.int))) := List.getElem?_set_self hn2
        walk_at "dl"
        refine k_d (fun c => ?_) (fun c => ?_)
        · walk_at "dl"
          obtain ⟨cn, hcn⟩ := toI c
          refine i_laug ?_
          walk_at "dl"
          rw [List.length_map, hcn, show (w.rows.length : Int) + (cn : Int) = ((w.rows.length + cn : Nat) : Int) by omega]
          refine o_laug em3 (by rw [incA_len]; omega) ?_
          simp only [G.put]
          refine hN3 _ ⟨_, _, rfl, ?_⟩
          unfold tly1
          rw [Int.toNat_natCast, if_pos c, hcn, Int.toNat_natCast]
          exact List.getElem?_set_self (by rw [List.length_set]; exact hn2)
        · walk_at "dl"
          refine hN3 _ ⟨_, _, rfl, ?_⟩
          unfold tly1
          rw [Int.toNat_natCast, if_neg c]
          exact em3
      · rintro g2 ⟨mem2, o4', rfl, em2⟩
        refine hN2 _ ⟨tlyR w xs r, n, mem2, _, _, _, _, rfl, em2, hnx, ?_⟩
        have : ∀ (l : List Int) (ys : List Int), (l.foldl (tly1 w) ys).length = ys.length := fun l => by
          induction l with
          | nil => intro ys; rfl
          | cons a l ih => intro ys; rw [List.foldl_cons, ih, tly1_len]
        unfold tlyR
        rw [this, incA_len, hxl]
  · rintro g' ⟨xs, n, mem, o3, o4, o5, o6, rfl, em, ht, hxl⟩
    walk_at "dl"
    exact e_h em rfl (hS xs ht)
def C_counts : PC := fun ts Q => ∃ (w : Web) (heap : List (List Int)) (xs : List Int), ts = [w.t, hT heap] ∧ w.Ok ∧ HpOk heap ∧ tally w heap = some xs ∧ Q (.f (.lt (xs.map T.int)))
theorem ln_counts : ∀ ts Q, C_counts ts Q → ts.length = ["a", "b"].length := by rintro ts Q ⟨_, _, _, rfl, _⟩; rfl
def rd_counts : DSt :=
  dSeq (dDrop (dCallT C_must_be_web (dCons (dVar 0) (dNil))))
  (dSeq (dAsg (dCallH C_tallied (dCons (dVar 0) (dCons (dVar 1) (dNil)))) (dgN 2))
  (dSeq (dIfS (dB (d1 (fNone false) (dVar 2))) (dNever) (dNext))
  (dRet (dVar 2))))

theorem rp_counts : ∀ ts Q, C_counts ts Q → rd_counts ⟨FinP Q (.t .non), FinP Q, fun _ => False, fun _ => False⟩ ⟨ts.map (fun t => some (W.t t)) ++ List.replicate (3 - ts.length) none, []⟩ := by
  rintro ts Q ⟨w, heap, xs, rfl, hok, hh, ht, hQ⟩
  unfold rd_counts
  walk_at "dl"
  refine ⟨w, rfl, hok, ?_⟩
  walk_at "dl"
  refine ⟨w, heap, rfl, hok, hh, fun e => (by rw [ht] at e; cases e), fun s' e => ?_⟩
  rw [ht] at e
  cases e
  walk_at "dl"
  refine k_F ?_
  walk_at "dl"
  exact hQ

end DL

namespace DL
open PySem PySem.Spec L2
local macro_rules | `(tactic| walk_at "dn") => `(tactic| simp only [purse_set2, purse_set3, purse_set4, purse_set5, purse_app, purse_len, purse_start, purse_l, G.set, G.put, G.push, G.wipe, wipeW, G.rs, rsW, List.set_cons_zero, List.set_cons_succ, List.map_cons, List.map_nil, List.length_cons, List.length_nil, List.nil_append, List.cons_append, List.replicate_succ, List.replicate_zero, Nat.reduceAdd, Nat.reduceSub, List.getD_cons_zero, List.getD_cons_succ, Option.getD_some, Option.getD_none])
local macro_rules | `(tactic| walk_at "d1") => `(tactic| first
  | with_reducible refine i_seq ?_
  | with_reducible refine i_asg ?_
  | with_reducible refine i_d2 ?_
  | ((with_reducible refine' i_var ?e ?_); (case e => rfl))
  | with_reducible refine i_c ?_
  | ((with_reducible refine' i_ix ?e ?v ?_); (case e => rfl); (case v => first | assumption | rfl))
  | with_reducible refine i_fI0 ?_
  | with_reducible refine i_gN ?_
  | with_reducible refine i_cons ?_
  | with_reducible refine i_nil ?_
  | with_reducible refine i_dN ?_
  | ((with_reducible refine' i_len ?e ?_); (case e => rfl))
  | with_reducible refine i_d1 ?_
  | with_reducible refine i_neg ?_
  | with_reducible refine i_B ?_
  | with_reducible refine o_B ?_
  | with_reducible refine o_I ?_
  | with_reducible refine i_ifS ?_
  | with_reducible refine i_or ?_
  | with_reducible refine i_and ?_
  | with_reducible refine i_not ?_
  | with_reducible refine i_andV ?_
  | with_reducible refine i_orV ?_
  | with_reducible refine i_notV ?_
  | with_reducible refine i_if ?_
  | with_reducible refine i_yes ?_
  | with_reducible refine k_T ?_
  | with_reducible refine k_F ?_
  | with_reducible refine k_True ?_
  | with_reducible refine k_False ?_
  | with_reducible refine i_eqI ?_
  | with_reducible refine i_neI ?_
  | with_reducible refine i_addI ?_
  | with_reducible refine i_addHI ?_
  | with_reducible refine i_callT ?_
  | with_reducible refine i_callH ?_
  | ((with_reducible refine' o_Ts ?e ?_); (case e => rfl))
  | with_reducible refine o_T ?_
  | ((with_reducible refine' o_TF ?e ?_); (case e => rfl))
  | with_reducible refine o_H ?_
  | ((with_reducible refine' o_HF ?e ?_); (case e => rfl))
  | with_reducible refine i_next ?_
  | with_reducible refine i_drop ?_
  | with_reducible refine i_ret ?_
  | with_reducible refine i_retN ?_
  | ((with_reducible refine' i_gTup ?e ?_); (case e => rfl))
  | with_reducible refine i_gCons ?_
  | with_reducible refine i_gNil ?_
  | with_reducible refine i_min2 ?_
  | with_reducible refine i_max2 ?_
  | with_reducible refine i_par ?_
  | with_reducible refine o_W2 ?_
  | ((with_reducible refine' i_aug ?e ?_); (case e => rfl))
  | with_reducible refine i_intI ?_
  | with_reducible refine i_intB ?_
  | with_reducible refine i_lc ?_
  | with_reducible refine i_for ?_
  | with_reducible refine i_while ?_
  | with_reducible refine i_itL ?_
  | ((with_reducible refine' o_Lq ?e ?_); (case e => rfl))
  | with_reducible refine i_itR1 ?_
  | with_reducible refine i_itR2 ?_
  | with_reducible refine o_I1 ?_
  | with_reducible refine o_I2 ?_
  | with_reducible refine e_t ?_
  | ((with_reducible refine' e_h ?e ?p ?_); (case e => rfl); (case p => rfl))
  | with_reducible refine i_M ?_
  | with_reducible refine i_M0 ?_
  | with_reducible refine i_gSub ?_
  | with_reducible refine i_finH ?_
  | with_reducible refine i_finT ?_
  | with_reducible refine i_sl ?_
  | with_reducible refine i_slH ?_
  | with_reducible refine i_slT ?_
  | with_reducible refine i_noPart ?_
  | with_reducible refine i_part ?_
  | ((with_reducible refine' i_frzT ?e ?_); (case e => rfl))
  | ((with_reducible refine' i_frzH ?e ?m ?t ?_); (case e => rfl); (case m => rfl); (case t => rfl))
  | ((with_reducible refine' i_din ?k ?e ?_); (case k => rfl); (case e => rfl))
  | ((with_reducible refine' i_dnotin ?k ?e ?_); (case k => rfl); (case e => rfl))
  | with_reducible refine i_dput ?_
  | with_reducible refine i_newD ?_
  | with_reducible refine i_lstH ?_
  | with_reducible refine i_lst ?_
  | with_reducible refine i_tup ?_
  | with_reducible refine i_break ?_
  | with_reducible refine i_cont ?_
  | with_reducible refine i_callS ?_
  | ((with_reducible refine' i_ixHW ?e ?v ?_); (case e => first | rfl | assumption); (case v => first | assumption | rfl))
  | ((with_reducible refine' i_ixHT ?e ?v ?_); (case e => first | rfl | assumption); (case v => first | assumption | rfl))
  | ((with_reducible refine' i_lenHT ?e ?_); (case e => first | rfl | assumption))
  | ((with_reducible refine' i_lenHW ?e ?_); (case e => first | rfl | assumption))
  | ((with_reducible refine' i_frzH ?e ?m ?t ?_); (case e => rfl); (case m => rfl); (case t => rfl))
  | ((with_reducible refine' i_unw ?e ?n ?_); (case e => rfl); (case n => rfl))
  | with_reducible refine i_gwCons ?_
  | with_reducible refine i_gwNil ?_
  | with_reducible refine i_lstW ?_
  | ((with_reducible refine' i_gList ?e ?n ?_); (case e => rfl); (case n => rfl))
  | with_reducible refine i_listRgH ?_
  | with_reducible refine i_listRg ?_
  | with_reducible refine i_R1 ?_
  | with_reducible refine i_getD ?_
  | ((with_reducible refine' i_none ?k ?_); (case k => rfl))
  | walk_at "dn")
local macro_rules | `(tactic| walk_at "dl") => `(tactic| ((try walk_at "dn"); repeat walk_at "d1"))
/-! what is left on a law's own stack (stands in Sk03 too: never join both) -/
theorem pop_while {i : Nat} {sl : List (Option W)} {n : Nat} {D : De} {s : Stk} {mem : Sto} (es : sl[i]? = some (some (.h n))) (em : mem[n]? = some (some (.lt (stL s)))) (h : D.nx ⟨sl, mem.set n (some (.lt (stL (popE s))))⟩) :
    whI (dAnd (dB (d2 (fI0 fun i j => .bl (decide (j < i))) (dN fLen (dCons (dVar i) (dNil))) (dC (.int 0)))) (dB (d2 (fEq false) (d2 fIx (d2 fIx (dVar i) (d1 fNeg (dC (.int 1)))) (dC (.int 1))) (dC (.int 1))))) (dDrop (dM0 fPop (dVar i))) ⟨sl, mem⟩ D := by
  have hn := (List.getElem?_eq_some_iff.mp em).1
  refine ⟨fun m g' => ∃ s' : Stk, m = s'.length ∧ popE s' = popE s ∧ g' = ⟨sl, mem.set n (some (.lt (stL s')))⟩, ⟨_, s, rfl, rfl, by rw [set_same em]⟩, ?_⟩
  rintro m g' ⟨s', rfl, hp, rfl⟩
  have e2 : (mem.set n (some (Cell.lt (stL s'))))[n]? = some (some (.lt (stL s'))) := List.getElem?_set_self hn
  match s', hp, e2 with
  | [], hp, e2 =>
    walk_at "dl"
    refine i_var es ?_
    walk_at "dl"
    refine k_dF (by decide) ?_
    walk_at "dl"
    have hp' : ([] : Stk) = popE s := hp
    rw [hp']
    exact h
  | (p, x) :: r, hp, e2 =>
    have hlast : atI (stL ((p, x) :: r)) (-1) = some (.tup [.int p, .int x]) := by rw [stL_cons]; exact atI_last _ _
    walk_at "dl"
    refine i_var es ?_
    walk_at "dl"
    rw [stL_len]
    refine k_dT (by simp) ?_
    walk_at "dl"
    refine i_var es ?_
    walk_at "dl"
    by_cases hx : x = 1
    · refine k_dT hx ?_
      walk_at "dl"
      refine i_var es ?_
      walk_at "dl"
      refine ⟨isL_lt e2, ?_⟩
      refine i_pop (x := stT (p, x)) e2 (by rw [stL_cons, List.length_append, List.length_singleton, Nat.add_sub_cancel]; exact at_last) ?_
      simp only [G.put]
      rw [stL_cons, List.dropLast_concat, List.set_set]
      refine ⟨r.length, by simp, r, rfl, ?_, rfl⟩
      rw [← hp]
      show popE r = (if x = 1 then popE r else (p, x) :: r)
      rw [if_pos hx]
    · refine k_dF hx ?_
      have hpx : popE ((p, x) :: r) = (p, x) :: r := popE_last rfl hx
      walk_at "dl"
      rw [← hp, hpx] at h
      exact h
def C__law_stack : PC := fun ts Q => ∃ (w : Web) (ks : List Int), ts = [w.t, .lst (ks.map T.int)] ∧ w.Ok ∧ ks.length ≤ 1000000 ∧ (stk w ks = none → Q (.t .non)) ∧ ∀ s, stk w ks = some s → Q (.f (.lt (stL s)))
theorem ln__law_stack : ∀ ts Q, C__law_stack ts Q → ts.length = ["a", "b"].length := by rintro ts Q ⟨_, _, rfl, _⟩; rfl
def rd__law_stack : DSt :=
  dSeq (dAsg (dLstH (dCons (dTup (dCons (dC (.int 0)) (dCons (dC (.int 0)) (dNil)))) (dNil))) (dgN 2))
  (dSeq (dFor (diL (dVar 1)) (dgN 3) (dSeq (dIfS (dOr (dB (d2 (fEq false) (dN fLen (dCons (dVar 2) (dNil))) (dC (.int 0)))) (dOr (dB (d2 (fI0 fun i j => .bl (decide (i < j))) (dVar 3) (dC (.int 0)))) (dOr (dB (d2 (fI0 fun i j => .bl (decide (j ≤ i))) (dVar 3) (dN fLen (dCons (d2 fIx (dVar 0) (dC (.int 1))) (dNil))))) (dB (d2 (fEq true) (dSlT (d2 fIx (d2 fIx (dVar 0) (dC (.int 1))) (dVar 3)) (dNoPart) (dPart (dC (.int 2)))) (d2 fIx (dVar 2) (d1 fNeg (dC (.int 1))))))))) (dRet (dC .non)) (dNext))
  (dSeq (dAsg (d2 fAddH (dSl (dVar 2) (dNoPart) (dPart (d1 fNeg (dC (.int 1))))) (dLst (dCons (dTup (dCons (d2 fIx (d2 fIx (d2 fIx (dVar 0) (dC (.int 1))) (dVar 3)) (dC (.int 0))) (dCons (d2 fIx (d2 fIx (d2 fIx (dVar 0) (dC (.int 1))) (dVar 3)) (dC (.int 2))) (dNil)))) (dNil)))) (dgN 2))
  (dSeq (dIfS (dB (d2 (fI0 fun i j => .bl (decide (j ≤ i))) (d2 fIx (d2 fIx (d2 fIx (dVar 0) (dC (.int 1))) (dVar 3)) (dC (.int 3))) (dC (.int 0)))) (dDrop (dM fAppend (dVar 2) (dCons (dTup (dCons (d2 fIx (d2 fIx (d2 fIx (dVar 0) (dC (.int 1))) (dVar 3)) (dC (.int 3))) (dCons (dC (.int 0)) (dNil)))) (dNil)))) (dNext))
  (dWhile (dAnd (dB (d2 (fI0 fun i j => .bl (decide (j < i))) (dN fLen (dCons (dVar 2) (dNil))) (dC (.int 0)))) (dB (d2 (fEq false) (d2 fIx (d2 fIx (dVar 2) (d1 fNeg (dC (.int 1)))) (dC (.int 1))) (dC (.int 1))))) (dDrop (dM0 fPop (dVar 2))))))))
  (dRet (dVar 2)))

theorem rp__law_stack : ∀ ts Q, C__law_stack ts Q → rd__law_stack ⟨FinP Q (.t .non), FinP Q, fun _ => False, fun _ => False⟩ ⟨ts.map (fun t => some (W.t t)) ++ List.replicate (4 - ts.length) none, []⟩ := by
  rintro ts Q ⟨w, ks, rfl, hok, hl, hN, hS⟩
  have h1 := hok.1
  unfold rd__law_stack Web.t
  walk_at "dl"
  refine ⟨by decide, ?_⟩
  walk_at "dl"
  refine ⟨by decide, ?_⟩
  walk_at "dl"
  refine forG ks (fun x => W.t (.int x)) (fun pre g' => ∃ (s : Stk) (n : Nat) (mem : Sto) (o3 : Option W), g' = ⟨[some (.t (.tup [.lst (w.places.map T.int), .lst (w.rows.map Row.t)])), some (.t (.lst (ks.map T.int))), some (.h n), o3], mem⟩ ∧ mem[n]? = some (some (.lt (stL s))) ∧ stk w pre = some s ∧ StkOk w s)
    (by rw [List.map_map]; rfl) ⟨[(0, 0)], 0, _, _, rfl, rfl, rfl, stk0 hok⟩ (by rintro _ _ ⟨_, _, _, _, rfl, _⟩; rfl) ?_ ?_
  · rintro pre x post hsp g' ⟨s, n, mem, o3, rfl, em, hst, hs⟩ N hN2
    have hnx : stk w (pre ++ [x]) = stp w s x := by rw [stk_snoc, hst]; rfl
    have hlen := hs.len hok
    have bad : stp w s x = none → Q (.t .non) := fun e => hN (by
      rw [hsp, show pre ++ x :: post = (pre ++ [x]) ++ post by simp]
      exact stk_none (by rw [hnx]; exact e))
    walk_at "dl"
    rw [stL_len]
    match s, em, hst, hs, hlen, hnx, bad with
    | [], em, hst, hs, hlen, hnx, bad =>
      refine k_dT rfl ?_
      walk_at "dl"
      exact bad rfl
    | (p, y) :: r, em, hst, hs, hlen, hnx, bad =>
      have yes : 0 ≤ x ∧ x < w.rows.length ∧ (w.row x.toNat).p = p ∧ (w.row x.toNat).s = y → stp w ((p, y) :: r) x = some (bhd w x.toNat r) := fun hc => if_pos hc
      have no : ¬ (0 ≤ x ∧ x < w.rows.length ∧ (w.row x.toNat).p = p ∧ (w.row x.toNat).s = y) → stp w ((p, y) :: r) x = none := fun hc => if_neg hc
      refine k_dF (by simp; omega) ?_
      walk_at "dl"
      refine k_d (fun c1 => ?_) (fun c1 => ?_)
      · walk_at "dl"
        exact bad (no (by omega))
      walk_at "dl"
      rw [List.length_map]
      refine k_d (fun c2 => ?_) (fun c2 => ?_)
      · walk_at "dl"
        exact bad (no (by omega))
      obtain ⟨k, rfl⟩ := toI (i := x) (by omega)
      rw [Int.toNat_natCast] at yes no
      have hrow := row_at (w := w) (k := k) (by omega)
      unfold Row.t at hrow
      have hlast : atI (stL ((p, y) :: r)) (-1) = some (.tup [.int p, .int y]) := by rw [stL_cons]; exact atI_last _ _
      walk_at "dl"
      refine o_cutT (by show ¬ (HT.sIx 4 0 none = 0 ∧ HT.sIx 4 4 (some 2) = 4); decide) ?_
      have ec : cut [T.int (w.row k).p, T.int (w.row k).s, T.int (w.row k).e, T.int (w.row k).c] none (some 2) = [T.int (w.row k).p, T.int (w.row k).s] := cut_hi2 _ 2
      rw [ec]
      walk_at "dl"
      refine i_neT (u := .tup [.int (w.row k).p, .int (w.row k).s]) (v := .tup [.int p, .int y]) rfl rfl rfl rfl ?_
      rw [teq_pair]
      by_cases c3 : (w.row k).p = p ∧ (w.row k).s = y
      · rw [decide_eq_true c3.1, decide_eq_true c3.2]
        walk_at "dl"
        refine k_F ?_
        walk_at "dl"
        refine o_cut (us := stL ((p, y) :: r)) (lq_h em) ?_
        rw [stL_cons, cut_m1]
        walk_at "dl"
        refine ⟨by decide, ?_⟩
        walk_at "dl"
        refine ⟨by decide, ?_⟩
        refine i_addHL (xs := stL r) (ys := [T.tup [.int (w.row k).p, .int (w.row k).e]]) rfl rfl (lineLe (by rw [List.length_singleton, stL_len]; simp at hlen; omega)) ?_
        rw [show stL r ++ [T.tup [.int (w.row k).p, .int (w.row k).e]] = stL (((w.row k).p, (w.row k).e) :: r) by rw [stL_cons]; rfl]
        have hy := yes ⟨by omega, by omega, c3.1, c3.2⟩
        have el : (mem ++ [some (Cell.lt (stL (((w.row k).p, (w.row k).e) :: r)))])[mem.length]? = some (some (.lt (stL (((w.row k).p, (w.row k).e) :: r)))) := at_last
        generalize hm2 : (mem ++ [some (Cell.lt (stL (((w.row k).p, (w.row k).e) :: r)))]) = mem2 at el
        generalize mem.length = nn at el
        walk_at "dl"
        simp only [hm2]
        refine k_d (fun c4 => ?_) (fun c4 => ?_)
        · walk_at "dl"
          refine ⟨isL_lt el, ?_⟩
          walk_at "dl"
          refine ⟨by decide, ?_⟩
          walk_at "dl"
          refine i_append el (lineLt (by rw [stL_len, List.length_cons]; simp at hlen; omega)) ?_
          simp only [G.put]
          rw [show stL (((w.row k).p, (w.row k).e) :: r) ++ [T.tup [T.int (w.row k).c, T.int 0]] = stL (((w.row k).c, 0) :: ((w.row k).p, (w.row k).e) :: r) from (stL_cons ((w.row k).c, 0) _).symm]
          walk_at "dl"
          have hlt := (List.getElem?_eq_some_iff.mp el).1
          refine pop_while (n := nn) (s := ((w.row k).c, 0) :: ((w.row k).p, (w.row k).e) :: r) rfl (List.getElem?_set_self hlt) ?_
          refine hN2 _ ⟨bhd w k r, nn, _, _, rfl, ?_, by rw [hnx, hy], stp_ok hok hs hy⟩
          unfold bhd
          rw [if_pos c4, List.set_set]
          exact List.getElem?_set_self hlt
        · walk_at "dl"
          have hlt := (List.getElem?_eq_some_iff.mp el).1
          refine pop_while (n := nn) (s := ((w.row k).p, (w.row k).e) :: r) rfl el ?_
          refine hN2 _ ⟨bhd w k r, nn, _, _, rfl, ?_, by rw [hnx, hy], stp_ok hok hs hy⟩
          unfold bhd
          rw [if_neg c4]
          exact List.getElem?_set_self hlt
      · have : (decide ((w.row k).p = p) && decide ((w.row k).s = y)) = false := by
          rw [Bool.and_eq_false_iff]
          by_cases c5 : (w.row k).p = p
          · exact .inr (decide_eq_false fun z => c3 ⟨c5, z⟩)
          · exact .inl (decide_eq_false c5)
        rw [this]
        walk_at "dl"
        refine k_T ?_
        walk_at "dl"
        exact bad (no fun z => c3 z.2.2)
  · rintro g' ⟨s, n, mem, o3, rfl, em, hst, hs⟩
    walk_at "dl"
    exact e_h em rfl (hS s hst)

end DL

namespace DL
open PySem PySem.Spec L2
local macro_rules | `(tactic| walk_at "dn") => `(tactic| simp only [purse_set2, purse_set3, purse_set4, purse_set5, purse_app, purse_len, purse_start, purse_l, G.set, G.put, G.push, G.wipe, wipeW, G.rs, rsW, List.set_cons_zero, List.set_cons_succ, List.map_cons, List.map_nil, List.length_cons, List.length_nil, List.nil_append, List.cons_append, List.replicate_succ, List.replicate_zero, Nat.reduceAdd, Nat.reduceSub, List.getD_cons_zero, List.getD_cons_succ, Option.getD_some, Option.getD_none])
local macro_rules | `(tactic| walk_at "d1") => `(tactic| first
  | with_reducible refine i_seq ?_
  | with_reducible refine i_asg ?_
  | with_reducible refine i_d2 ?_
  | ((with_reducible refine' i_var ?e ?_); (case e => rfl))
  | with_reducible refine i_c ?_
  | ((with_reducible refine' i_ix ?e ?v ?_); (case e => rfl); (case v => first | assumption | rfl))
  | with_reducible refine i_fI0 ?_
  | with_reducible refine i_gN ?_
  | with_reducible refine i_cons ?_
  | with_reducible refine i_nil ?_
  | with_reducible refine i_dN ?_
  | ((with_reducible refine' i_len ?e ?_); (case e => rfl))
  | with_reducible refine i_d1 ?_
  | with_reducible refine i_neg ?_
  | with_reducible refine i_B ?_
  | with_reducible refine o_B ?_
  | with_reducible refine o_I ?_
  | with_reducible refine i_ifS ?_
  | with_reducible refine i_or ?_
  | with_reducible refine i_and ?_
  | with_reducible refine i_not ?_
  | with_reducible refine i_andV ?_
  | with_reducible refine i_orV ?_
  | with_reducible refine i_notV ?_
  | with_reducible refine i_if ?_
  | with_reducible refine i_yes ?_
  | with_reducible refine k_T ?_
  | with_reducible refine k_F ?_
  | with_reducible refine k_True ?_
  | with_reducible refine k_False ?_
  | with_reducible refine i_eqI ?_
  | with_reducible refine i_neI ?_
  | with_reducible refine i_addI ?_
  | with_reducible refine i_addHI ?_
  | with_reducible refine i_callT ?_
  | with_reducible refine i_callH ?_
  | ((with_reducible refine' o_Ts ?e ?_); (case e => rfl))
  | with_reducible refine o_T ?_
  | ((with_reducible refine' o_TF ?e ?_); (case e => rfl))
  | with_reducible refine o_H ?_
  | ((with_reducible refine' o_HF ?e ?_); (case e => rfl))
  | with_reducible refine i_next ?_
  | with_reducible refine i_drop ?_
  | with_reducible refine i_ret ?_
  | with_reducible refine i_retN ?_
  | ((with_reducible refine' i_gTup ?e ?_); (case e => rfl))
  | with_reducible refine i_gCons ?_
  | with_reducible refine i_gNil ?_
  | with_reducible refine i_min2 ?_
  | with_reducible refine i_max2 ?_
  | with_reducible refine i_par ?_
  | with_reducible refine o_W2 ?_
  | ((with_reducible refine' i_aug ?e ?_); (case e => rfl))
  | with_reducible refine i_intI ?_
  | with_reducible refine i_intB ?_
  | with_reducible refine i_lc ?_
  | with_reducible refine i_for ?_
  | with_reducible refine i_while ?_
  | with_reducible refine i_itL ?_
  | ((with_reducible refine' o_Lq ?e ?_); (case e => rfl))
  | with_reducible refine i_itR1 ?_
  | with_reducible refine i_itR2 ?_
  | with_reducible refine o_I1 ?_
  | with_reducible refine o_I2 ?_
  | with_reducible refine e_t ?_
  | ((with_reducible refine' e_h ?e ?p ?_); (case e => rfl); (case p => rfl))
  | with_reducible refine i_M ?_
  | with_reducible refine i_M0 ?_
  | with_reducible refine i_gSub ?_
  | with_reducible refine i_finH ?_
  | with_reducible refine i_finT ?_
  | with_reducible refine i_sl ?_
  | with_reducible refine i_slH ?_
  | with_reducible refine i_slT ?_
  | with_reducible refine i_noPart ?_
  | with_reducible refine i_part ?_
  | ((with_reducible refine' i_frzT ?e ?_); (case e => rfl))
  | ((with_reducible refine' i_frzH ?e ?m ?t ?_); (case e => rfl); (case m => rfl); (case t => rfl))
  | ((with_reducible refine' i_din ?k ?e ?_); (case k => rfl); (case e => rfl))
  | ((with_reducible refine' i_dnotin ?k ?e ?_); (case k => rfl); (case e => rfl))
  | with_reducible refine i_dput ?_
  | with_reducible refine i_newD ?_
  | with_reducible refine i_lstH ?_
  | with_reducible refine i_lst ?_
  | with_reducible refine i_tup ?_
  | with_reducible refine i_break ?_
  | with_reducible refine i_cont ?_
  | with_reducible refine i_callS ?_
  | ((with_reducible refine' i_ixHW ?e ?v ?_); (case e => first | rfl | assumption); (case v => first | assumption | rfl))
  | ((with_reducible refine' i_ixHT ?e ?v ?_); (case e => first | rfl | assumption); (case v => first | assumption | rfl))
  | ((with_reducible refine' i_lenHT ?e ?_); (case e => first | rfl | assumption))
  | ((with_reducible refine' i_lenHW ?e ?_); (case e => first | rfl | assumption))
  | ((with_reducible refine' i_frzH ?e ?m ?t ?_); (case e => rfl); (case m => rfl); (case t => rfl))
  | ((with_reducible refine' i_unw ?e ?n ?_); (case e => rfl); (case n => rfl))
  | with_reducible refine i_gwCons ?_
  | with_reducible refine i_gwNil ?_
  | with_reducible refine i_lstW ?_
  | ((with_reducible refine' i_gList ?e ?n ?_); (case e => rfl); (case n => rfl))
  | with_reducible refine i_listRgH ?_
  | with_reducible refine i_listRg ?_
  | with_reducible refine i_R1 ?_
  | with_reducible refine i_getD ?_
  | ((with_reducible refine' i_none ?k ?_); (case k => rfl))
  | walk_at "dn")
local macro_rules | `(tactic| walk_at "dl") => `(tactic| ((try walk_at "dn"); repeat walk_at "d1"))
/-! the law of counts of heaps -/
theorem int_at {xs : List Int} {j : Nat} (h : j < xs.length) : atI (xs.map T.int) (j : Int) = some (.int (xs.getD j 0)) := atI_map T.int (atI_getD 0 h)
def C__law_heap : PC := fun ts Q => ∃ (ns : List Int) (at0 mr most : Nat) (w : Web), ts = [.sq (ns.map T.int), .int at0, w.t, .int mr, .int most] ∧ (∀ z ∈ ns, Builtin.Int.intBits z ≤ 1048576) ∧ w.Ok ∧ mr ≤ 100 ∧ most ≤ 1000 ∧
  ∀ heap : List (List Int), heap.length ≤ mr → (∀ r ∈ heap, stk w r = some [] ∧ r.length ≤ 900) → Q (.f (.lt (heap.map runT)))
theorem ln__law_heap : ∀ ts Q, C__law_heap ts Q → ts.length = ["a", "b", "c", "d", "e"].length := by rintro ts Q ⟨_, _, _, _, _, rfl, _⟩; rfl
theorem callS_run {w : Web} {j k most : Nat} {a f : Int} {sl : List (Option W)} {mem : Sto} {Q : W → G → Prop} (em : mem[j]? = some (some (leftC a f k))) (hL : LeftOk a f) (hk : k ≤ 1000) (hok : w.Ok) (hm : most ≤ 1000)
    (h : ∀ (ks : List Nat) (c : Cell), stk w (natI ks) = some [] → ks.length ≤ 70000 → Q (.h mem.length) ⟨sl, mem.set j (some c) ++ [some (.lt (ks.map natT))]⟩) : callS C__law_run [.t w.t, .h j, .t (.int most)] ⟨sl, mem⟩ Q := by
  refine ⟨[j], [leftC a f k], [.t w.t, .h 0, .t (.int most)], by simp, rfl, rfl, fun i c e => ?_, w, a, f, k, most, rfl, rfl, hL, hk, hok, hm, fun ks a' k' h1 h2 h3 h4 => ⟨.h mem.length, [leftC a' f k'], [.lt (ks.map natT)], rfl, rfl, rfl, ?_⟩⟩
  · match i, e with
    | 0, e => cases e; exact ⟨j, _, rfl, rfl, em⟩
    | i + 1, e => simp at e
  · exact h ks (leftC a' f k') h1 h2
def rd__law_heap : DSt :=
  dSeq (dAsg (dCallH C__law_left (dCons (dVar 0) (dCons (dVar 1) (dNil)))) (dgN 5))
  (dSeq (dAsg (dLstH (dNil)) (dgN 6))
  (dSeq (dAsg (dC (.int 900)) (dgN 7))
  (dSeq (dFor (diR1 (dCons (dCallS C__law_draw (dCons (dVar 5) (dCons (d2 fAdd (dVar 3) (dC (.int 1))) (dNil)))) (dNil))) (dgN 8) (dSeq (dAsg (dCallS C__law_run (dCons (dVar 2) (dCons (dCallH C__law_left (dCons (dVar 0) (dCons (d2 fAdd (d2 fAdd (dVar 1) (dC (.int 1))) (dVar 8)) (dNil)))) (dCons (dVar 4) (dNil))))) (dgN 9))
  (dIfS (dB (d2 (fI0 fun i j => .bl (decide (i ≤ j))) (dN fLen (dCons (dVar 9) (dNil))) (dVar 7))) (dSeq (dDrop (dM fAppend (dVar 6) (dCons (dFrz 9) (dNil))))
  (dAsg (d2 (fI0 fun i j => .int (i - j)) (dVar 7) (dN fLen (dCons (dVar 9) (dNil)))) (dgN 7))) (dNext))))
  (dRet (dVar 6)))))

theorem rp__law_heap : ∀ ts Q, C__law_heap ts Q → rd__law_heap ⟨FinP Q (.t .non), FinP Q, fun _ => False, fun _ => False⟩ ⟨ts.map (fun t => some (W.t t)) ++ List.replicate (10 - ts.length) none, []⟩ := by
  rintro ts Q ⟨ns, at0, mr, most, w, rfl, hbits, hok, hmr, hmost, hQ⟩
  unfold rd__law_heap
  walk_at "dl"
  refine ⟨ns, at0, rfl, hbits, fun a f hL => ?_⟩
  walk_at "dl"
  refine ⟨by decide, ?_⟩
  walk_at "dl"
  refine callS_draw0 (k := 0) hL (by omega) (by omega) (by omega) fun d a1 d0 d1 hL1 => ?_
  obtain ⟨d, rfl⟩ := toI d0
  walk_at "dl"
  refine ⟨by omega, ?_⟩
  refine forR (List.range d) (fun k => W.t (natT k)) (fun i g' => ∃ (heap : List (List Int)) (room : Int) (mem : Sto) (o8 o9 : Option W), g' = ⟨[some (.t (.sq (ns.map T.int))), some (.t (.int at0)), some (.t w.t), some (.t (.int mr)), some (.t (.int most)), some (.h 0), some (.h 1), some (.t (.int room)), o8, o9], mem⟩ ∧ mem[1]? = some (some (.lt (heap.map runT))) ∧ heap.length ≤ i ∧ room ≤ 900 ∧ ∀ r ∈ heap, stk w r = some [] ∧ r.length ≤ 900)
    (by rw [Int.toNat_natCast, rgW0]; rfl) ⟨[], 900, _, _, _, rfl, rfl, by simp, by omega, fun r h => by simp at h⟩ (fun _ _ _ => trivial) ?_ ?_
  · rintro i x hx g' ⟨heap, room, mem, o8, o9, rfl, em, hl, hroom, hh⟩ N hN
    have hi : i < d := by simpa using (List.getElem?_eq_some_iff.mp hx).1
    rw [List.getElem?_range hi] at hx
    cases hx
    unfold natT
    walk_at "dl"
    refine ⟨ns, at0 + 1 + i, by rw [show ((at0 + 1 + i : Nat) : Int) = (at0 : Int) + 1 + (i : Int) by omega], hbits, fun a2 f2 hL2 => ?_⟩
    walk_at "dl"
    refine callS_run (k := 0) (a := a2) (f := f2) at_last hL2 (by omega) hok hmost fun ks c hst hkl => ?_
    rw [show ks.map natT = (natI ks).map T.int by unfold natI; rw [List.map_map]; rfl]
    have hkl2 : (natI ks).length ≤ 70000 := by unfold natI; rw [List.length_map]; exact hkl
    generalize natI ks = run at hst hkl2
    have h1l := (List.getElem?_eq_some_iff.mp em).1
    have e1 : ((mem ++ [some (Cell.lt [T.int a2, T.int f2, T.int 0])]).set mem.length (some c) ++ [some (Cell.lt (run.map T.int))])[1]? = some (some (.lt (heap.map runT))) := by
      refine at_more ?_
      rw [List.getElem?_set_ne (by omega)]
      exact at_more em
    have e2 : ((mem ++ [some (Cell.lt [T.int a2, T.int f2, T.int 0])]).set mem.length (some c) ++ [some (Cell.lt (run.map T.int))])[(mem ++ [some (Cell.lt [T.int a2, T.int f2, T.int 0])]).length]? = some (some (.lt (run.map T.int))) := by
      rw [List.getElem?_append_right (by rw [List.length_set]; exact Nat.le_refl _), List.length_set, Nat.sub_self]
      rfl
    have hnn : 1 < (mem ++ [some (Cell.lt [T.int a2, T.int f2, T.int 0])]).length := by rw [List.length_append, List.length_singleton]; omega
    generalize ((mem ++ [some (Cell.lt [T.int a2, T.int f2, T.int 0])]).set mem.length (some c) ++ [some (Cell.lt (run.map T.int))]) = mem2 at e1 e2
    generalize (mem ++ [some (Cell.lt [T.int a2, T.int f2, T.int 0])]).length = nn at e2 hnn
    walk_at "dl"
    rw [List.length_map]
    refine k_d (fun hc => ?_) (fun hc => ?_)
    · walk_at "dl"
      refine ⟨isL_lt e1, ?_⟩
      refine i_cons ?_
      refine i_frzH rfl e2 rfl ?_
      have n0 : ¬ (0 = nn) := by omega
      have n1 : ¬ (1 = nn) := by omega
      unfold G.frz
      simp only [List.map_cons, List.map_nil, frzW, if_true, if_neg n0, if_neg n1]
      have e3 : (mem2.set nn none)[1]? = some (some (.lt (heap.map runT))) := by
        rw [List.getElem?_set_ne (by omega)]
        exact e1
      walk_at "dl"
      refine i_append e3 (lineLt (by rw [List.length_map]; omega)) ?_
      simp only [G.put]
      walk_at "dl"
      rw [List.length_map]
      refine hN _ ⟨heap ++ [run], room - (run.length : Int), _, _, _, rfl, ?_, by rw [List.length_append, List.length_singleton]; omega, by omega, fun r hr => ?_⟩
      · rw [List.map_append]
        exact List.getElem?_set_self (by have := (List.getElem?_eq_some_iff.mp e3).1; exact this)
      · rcases List.mem_append.mp hr with z | z
        · exact hh r z
        · have : r = run := by simpa using z
          subst this
          exact ⟨hst, by omega⟩
    · walk_at "dl"
      exact hN _ ⟨heap, room, _, _, _, rfl, e1, by omega, hroom, hh⟩
  · rintro g' ⟨heap, room, mem, o8, o9, rfl, em, hl, hroom, hh⟩
    walk_at "dl"
    rw [List.length_range] at hl
    exact e_h em rfl (hQ heap (by omega) hh)
def rd__law_tally : DSt :=
  dSeq (dAsg (d2 fRepH (dLst (dCons (dC (.int 0)) (dNil))) (d2 fAdd (dN fLen (dCons (d2 fIx (dVar 0) (dC (.int 1))) (dNil))) (dN fLen (dCons (d2 fIx (dVar 0) (dC (.int 0))) (dNil))))) (dgN 2))
  (dSeq (dFor (diL (dVar 1)) (dgN 3) (dSeq (dIfS (dB (d2 (fEq true) (dCallT C__law_stack (dCons (dVar 0) (dCons (dVar 3) (dNil)))) (dLst (dNil)))) (dRet (dC .non)) (dNext))
  (dSeq (dAsg (d2 fAdd (d2 fIx (dVar 2) (dN fLen (dCons (d2 fIx (dVar 0) (dC (.int 1))) (dNil)))) (dC (.int 1))) (dgSub (dVar 2) (dN fLen (dCons (d2 fIx (dVar 0) (dC (.int 1))) (dNil)))))
  (dFor (diL (dVar 3)) (dgN 4) (dSeq (dAsg (d2 fAdd (d2 fIx (dVar 2) (dVar 4)) (dC (.int 1))) (dgSub (dVar 2) (dVar 4)))
  (dIfS (dB (d2 (fI0 fun i j => .bl (decide (j ≤ i))) (d2 fIx (d2 fIx (d2 fIx (dVar 0) (dC (.int 1))) (dVar 4)) (dC (.int 3))) (dC (.int 0)))) (dSeq (dAsg (d2 fAdd (dN fLen (dCons (d2 fIx (dVar 0) (dC (.int 1))) (dNil))) (d2 fIx (d2 fIx (d2 fIx (dVar 0) (dC (.int 1))) (dVar 4)) (dC (.int 3)))) (dgN 5))
  (dAsg (d2 fAdd (d2 fIx (dVar 2) (dVar 5)) (dC (.int 1))) (dgSub (dVar 2) (dVar 5)))) (dNext)))))))
  (dRet (dVar 2)))

def C__law_tally : PC := fun ts Q => ∃ (w : Web) (heap : List (List Int)), ts = [w.t, hT heap] ∧ w.Ok ∧ HpOk heap ∧ (tally w heap = none → Q (.t .non)) ∧ ∀ xs, tally w heap = some xs → Q (.f (.lt (xs.map T.int)))
theorem ln__law_tally : ∀ ts Q, C__law_tally ts Q → ts.length = ["a", "b"].length := by rintro ts Q ⟨_, _, rfl, _⟩; rfl
theorem i_incA {g : G} {n j : Nat} {xs : List Int} {P : G → Prop} (em : g.mem[n]? = some (some (.lt (xs.map T.int)))) (hj : j < xs.length) (h : P (g.put n (.lt ((incA xs j).map T.int)))) : dgPut (.h n) (.t (.int j)) (.t (.int (xs.getD j 0 + 1))) g P := by
  refine o_put em (ixN_nat (by rw [List.length_map]; exact hj)) ?_
  rw [show (xs.map T.int).set j (T.int (xs.getD j 0 + 1)) = (incA xs j).map T.int by unfold incA; rw [List.map_set]]
  exact h
theorem rp__law_tally : ∀ ts Q, C__law_tally ts Q → rd__law_tally ⟨FinP Q (.t .non), FinP Q, fun _ => False, fun _ => False⟩ ⟨ts.map (fun t => some (W.t t)) ++ List.replicate (6 - ts.length) none, []⟩ := by
  rintro ts Q ⟨w, heap, rfl, hok, hh, hN, hS⟩
  have h1 := hok.1
  have hfl : ∀ (l : List Int) (ys : List Int), (l.foldl (tly1 w) ys).length = ys.length := fun l => by
    induction l with
    | nil => intro ys; rfl
    | cons a l ih => intro ys; rw [List.foldl_cons, ih, tly1_len]
  unfold rd__law_tally Web.t hT
  walk_at "dl"
  refine ⟨by decide, ?_⟩
  walk_at "dl"
  rw [List.length_map, List.length_map]
  refine i_repH (xs := [T.int 0]) rfl (by refine ⟨by omega, by omega, lineLe ?_⟩; rw [List.length_singleton]; omega) ?_
  rw [flat_rep, show ((w.rows.length : Int) + (w.places.length : Int)).toNat = w.rows.length + w.places.length by omega]
  walk_at "dl"
  refine forG heap (fun r => W.t (runT r)) (fun pre g' => ∃ (xs : List Int) (n : Nat) (mem : Sto) (o3 o4 o5 : Option W), g' = ⟨[some (.t (.tup [.lst (w.places.map T.int), .lst (w.rows.map Row.t)])), some (.t (.lst (heap.map runT))), some (.h n), o3, o4, o5], mem⟩ ∧ mem[n]? = some (some (.lt (xs.map T.int))) ∧ tally w pre = some xs ∧ xs.length = w.rows.length + w.places.length)
    (by rw [List.map_map]; rfl) ⟨_, 0, _, _, _, _, rfl, rfl, rfl, by rw [List.length_replicate]⟩ (by rintro _ _ ⟨_, _, _, _, _, _, rfl, _⟩; rfl) ?_ ?_
  · rintro pre r post hsp g' ⟨xs, n, mem, o3, o4, o5, rfl, em, ht, hxl⟩ N hN2
    have hrl := hh.runs r (by rw [hsp]; simp)
    have hbad : stk w r ≠ some [] → Q (.t .non) := fun e => hN (by
      rw [hsp, show pre ++ r :: post = (pre ++ [r]) ++ post by simp]
      refine tally_none ?_
      rw [tally_snoc, ht]
      show (if stk w r = some [] then some (tlyR w xs r) else none) = none
      rw [if_neg e])
    unfold runT
    walk_at "dl"
    refine ⟨w, r, rfl, hok, by omega, fun e => ?_, fun s e => ?_⟩
    · walk_at "dl"
      refine ⟨by decide, ?_⟩
      refine i_neT (u := .non) (v := .lst []) rfl rfl rfl rfl ?_
      rw [teq_nonL, Bool.not_false]
      walk_at "dl"
      exact hbad (by rw [e]; exact fun z => nomatch z)
    · walk_at "dl"
      refine ⟨by decide, ?_⟩
      refine i_neT (u := .lst (stL s)) (v := .lst []) rfl rfl (sh_stL 6 s) rfl ?_
      rw [teq_stL]
      refine k_n (fun c => ?_) (fun c => ?_)
      · walk_at "dl"
        exact hbad (by rw [e]; exact fun z => c (Option.some.inj z))
      subst c
      have hrng := stk_rng e
      have hnx : tally w (pre ++ [r]) = some (tlyR w xs r) := by
        rw [tally_snoc, ht]
        show (if stk w r = some [] then some (tlyR w xs r) else none) = some (tlyR w xs r)
        rw [if_pos e]
      have hn := (List.getElem?_eq_some_iff.mp em).1
      have hz := int_at (xs := xs) (j := w.rows.length) (by omega)
      walk_at "dl"
      rw [List.length_map]
      refine i_ixHT em hz ?_
      walk_at "dl"
      rw [List.length_map]
      refine i_incA (xs := xs) (j := w.rows.length) em (by omega) ?_
      simp only [G.put]
      walk_at "dl"
      refine forG r (fun k => W.t (.int k)) (fun pre2 g' => ∃ (mem2 : Sto) (o4 o5 : Option W), g' = ⟨[some (.t (.tup [.lst (w.places.map T.int), .lst (w.rows.map Row.t)])), some (.t (.lst (heap.map runT))), some (.h n), some (.t (.lst (r.map T.int))), o4, o5], mem2⟩ ∧ mem2[n]? = some (some (.lt ((pre2.foldl (tly1 w) (incA xs w.rows.length)).map T.int))))
        (by rw [List.map_map]; rfl) ⟨_, _, _, rfl, List.getElem?_set_self hn⟩ (by rintro _ _ ⟨_, _, _, rfl, _⟩; rfl) ?_ ?_
      · rintro pre2 k post2 hsp2 g2 ⟨mem2, o4', o5', rfl, em2⟩ N3 hN3
        have hk := hrng k (by rw [hsp2]; simp)
        obtain ⟨kn, rfl⟩ := toI hk.1
        have hkn : kn < w.rows.length := by omega
        have hrow := row_at hkn
        unfold Row.t at hrow
        have hro := hok.2.2.1 _ (row_mem hkn)
        unfold Web.rowOk at hro
        have hlen : (pre2.foldl (tly1 w) (incA xs w.rows.length)).length = w.rows.length + w.places.length := by
          rw [hfl, incA_len, hxl]
        have hfold : (pre2 ++ [(kn : Int)]).foldl (tly1 w) (incA xs w.rows.length) = tly1 w (pre2.foldl (tly1 w) (incA xs w.rows.length)) kn := by rw [List.foldl_append]; rfl
        rw [hfold] at hN3
        generalize pre2.foldl (tly1 w) (incA xs w.rows.length) = ys at em2 hlen hN3
        have hn2 := (List.getElem?_eq_some_iff.mp em2).1
        have hz2 := int_at (xs := ys) (j := kn) (by omega)
        walk_at "dl"
        refine i_incA (xs := ys) (j := kn) em2 (by omega) ?_
        simp only [G.put]
        have em3 : (mem2.set n (some (Cell.lt ((incA ys kn).map T.int))))[n]? = some (some (.lt ((incA ys kn).map T.int))) := List.getElem?_set_self hn2
        walk_at "dl"
        refine k_d (fun c => ?_) (fun c => ?_)
        · walk_at "dl"
          obtain ⟨cn, hcn⟩ := toI c
          rw [List.length_map, hcn, show (w.rows.length : Int) + (cn : Int) = ((w.rows.length + cn : Nat) : Int) by omega]
          have hz3 := int_at (xs := incA ys kn) (j := w.rows.length + cn) (by rw [incA_len]; omega)
          walk_at "dl"
          refine i_incA (xs := incA ys kn) (j := w.rows.length + cn) em3 (by rw [incA_len]; omega) ?_
          simp only [G.put]
          refine hN3 _ ⟨_, _, _, rfl, ?_⟩
          unfold tly1
          rw [Int.toNat_natCast, if_pos c, hcn, Int.toNat_natCast]
          exact List.getElem?_set_self (by rw [List.length_set]; exact hn2)
        · walk_at "dl"
          refine hN3 _ ⟨_, _, _, rfl, ?_⟩
          unfold tly1
          rw [Int.toNat_natCast, if_neg c]
          exact em3
      · rintro g2 ⟨mem2, o4', o5', rfl, em2⟩
        refine hN2 _ ⟨tlyR w xs r, n, mem2, _, _, _, rfl, em2, hnx, ?_⟩
        unfold tlyR
        rw [hfl, incA_len, hxl]
  · rintro g' ⟨xs, n, mem, o3, o4, o5, rfl, em, ht, hxl⟩
    walk_at "dl"
    exact e_h em rfl (hS xs ht)
theorem tally_len {w : Web} {heap : List (List Int)} {xs : List Int} (e : tally w heap = some xs) : xs.length = w.rows.length + w.places.length := by
  have hfl : ∀ (l : List Int) (ys : List Int), (l.foldl (tly1 w) ys).length = ys.length := fun l => by
    induction l with
    | nil => intro ys; rfl
    | cons a l ih => intro ys; rw [List.foldl_cons, ih, tly1_len]
  have key : ∀ (bs as : List (List Int)), (∀ ys, tally w as = some ys → ys.length = w.rows.length + w.places.length) → ∀ ys, tally w (as ++ bs) = some ys → ys.length = w.rows.length + w.places.length := by
    intro bs
    induction bs with
    | nil => intro as h ys e; rw [List.append_nil] at e; exact h ys e
    | cons b bs ih =>
      intro as h ys e
      rw [show as ++ b :: bs = (as ++ [b]) ++ bs by simp] at e
      refine ih (as ++ [b]) (fun zs e2 => ?_) ys e
      rw [tally_snoc] at e2
      cases e3 : tally w as with
      | none => rw [e3] at e2; cases e2
      | some us =>
        rw [e3] at e2
        have e4 : (if stk w b = some [] then some (tlyR w us b) else none) = some zs := e2
        split at e4
        · cases e4
          unfold tlyR
          rw [hfl, incA_len, h us e3]
        · cases e4
  exact key heap [] (fun ys e => by cases e; rw [List.length_replicate]) xs e
theorem hT_is (heap : List (List Int)) : T.lst (heap.map runT) = hT heap := rfl
theorem sh_hT (heap : List (List Int)) (n : Nat) : (hT heap).sh (n + 2) = true := by
  show (heap.map runT).all (T.sh (n + 1)) = true
  rw [List.all_eq_true]
  intro t ht
  obtain ⟨r, _, rfl⟩ := List.mem_map.mp ht
  exact sh_ints n r
theorem teq_hT (heap : List (List Int)) : teq (hT heap) (hT heap) = true := teq_lst fun t ht => by
  obtain ⟨r, _, rfl⟩ := List.mem_map.mp ht
  exact teq_ints r

end DL

namespace DL
open PySem PySem.Spec L2
local macro_rules | `(tactic| walk_at "dn") => `(tactic| simp only [purse_set2, purse_set3, purse_set4, purse_set5, purse_app, purse_len, purse_start, purse_l, G.set, G.put, G.push, G.wipe, wipeW, G.rs, rsW, List.set_cons_zero, List.set_cons_succ, List.map_cons, List.map_nil, List.length_cons, List.length_nil, List.nil_append, List.cons_append, List.replicate_succ, List.replicate_zero, Nat.reduceAdd, Nat.reduceSub, List.getD_cons_zero, List.getD_cons_succ, Option.getD_some, Option.getD_none])
local macro_rules | `(tactic| walk_at "d1") => `(tactic| first
  | with_reducible refine i_seq ?_
  | with_reducible refine i_asg ?_
  | with_reducible refine i_d2 ?_
  | ((with_reducible refine' i_var ?e ?_); (case e => rfl))
  | with_reducible refine i_c ?_
  | ((with_reducible refine' i_ix ?e ?v ?_); (case e => rfl); (case v => first | assumption | rfl))
  | with_reducible refine i_fI0 ?_
  | with_reducible refine i_gN ?_
  | with_reducible refine i_cons ?_
  | with_reducible refine i_nil ?_
  | with_reducible refine i_dN ?_
  | ((with_reducible refine' i_len ?e ?_); (case e => rfl))
  | with_reducible refine i_d1 ?_
  | with_reducible refine i_neg ?_
  | with_reducible refine i_B ?_
  | with_reducible refine o_B ?_
  | with_reducible refine o_I ?_
  | with_reducible refine i_ifS ?_
  | with_reducible refine i_or ?_
  | with_reducible refine i_and ?_
  | with_reducible refine i_not ?_
  | with_reducible refine i_andV ?_
  | with_reducible refine i_orV ?_
  | with_reducible refine i_notV ?_
  | with_reducible refine i_if ?_
  | with_reducible refine i_yes ?_
  | with_reducible refine k_T ?_
  | with_reducible refine k_F ?_
  | with_reducible refine k_True ?_
  | with_reducible refine k_False ?_
  | with_reducible refine i_eqI ?_
  | with_reducible refine i_neI ?_
  | with_reducible refine i_addI ?_
  | with_reducible refine i_addHI ?_
  | with_reducible refine i_callT ?_
  | with_reducible refine i_callH ?_
  | ((with_reducible refine' o_Ts ?e ?_); (case e => rfl))
  | with_reducible refine o_T ?_
  | ((with_reducible refine' o_TF ?e ?_); (case e => rfl))
  | with_reducible refine o_H ?_
  | ((with_reducible refine' o_HF ?e ?_); (case e => rfl))
  | with_reducible refine i_next ?_
  | with_reducible refine i_drop ?_
  | with_reducible refine i_ret ?_
  | with_reducible refine i_retN ?_
  | ((with_reducible refine' i_gTup ?e ?_); (case e => rfl))
  | with_reducible refine i_gCons ?_
  | with_reducible refine i_gNil ?_
  | with_reducible refine i_min2 ?_
  | with_reducible refine i_max2 ?_
  | with_reducible refine i_par ?_
  | with_reducible refine o_W2 ?_
  | ((with_reducible refine' i_aug ?e ?_); (case e => rfl))
  | with_reducible refine i_intI ?_
  | with_reducible refine i_intB ?_
  | with_reducible refine i_lc ?_
  | with_reducible refine i_for ?_
  | with_reducible refine i_while ?_
  | with_reducible refine i_itL ?_
  | ((with_reducible refine' o_Lq ?e ?_); (case e => rfl))
  | with_reducible refine i_itR1 ?_
  | with_reducible refine i_itR2 ?_
  | with_reducible refine o_I1 ?_
  | with_reducible refine o_I2 ?_
  | with_reducible refine e_t ?_
  | ((with_reducible refine' e_h ?e ?p ?_); (case e => rfl); (case p => rfl))
  | with_reducible refine i_M ?_
  | with_reducible refine i_M0 ?_
  | with_reducible refine i_gSub ?_
  | with_reducible refine i_finH ?_
  | with_reducible refine i_finT ?_
  | with_reducible refine i_sl ?_
  | with_reducible refine i_slH ?_
  | with_reducible refine i_slT ?_
  | with_reducible refine i_noPart ?_
  | with_reducible refine i_part ?_
  | ((with_reducible refine' i_frzT ?e ?_); (case e => rfl))
  | ((with_reducible refine' i_frzH ?e ?m ?t ?_); (case e => rfl); (case m => rfl); (case t => rfl))
  | ((with_reducible refine' i_din ?k ?e ?_); (case k => rfl); (case e => rfl))
  | ((with_reducible refine' i_dnotin ?k ?e ?_); (case k => rfl); (case e => rfl))
  | with_reducible refine i_dput ?_
  | with_reducible refine i_newD ?_
  | with_reducible refine i_lstH ?_
  | with_reducible refine i_lst ?_
  | with_reducible refine i_tup ?_
  | with_reducible refine i_break ?_
  | with_reducible refine i_cont ?_
  | with_reducible refine i_callS ?_
  | ((with_reducible refine' i_ixHW ?e ?v ?_); (case e => first | rfl | assumption); (case v => first | assumption | rfl))
  | ((with_reducible refine' i_ixHT ?e ?v ?_); (case e => first | rfl | assumption); (case v => first | assumption | rfl))
  | ((with_reducible refine' i_lenHT ?e ?_); (case e => first | rfl | assumption))
  | ((with_reducible refine' i_lenHW ?e ?_); (case e => first | rfl | assumption))
  | ((with_reducible refine' i_frzH ?e ?m ?t ?_); (case e => rfl); (case m => rfl); (case t => rfl))
  | ((with_reducible refine' i_unw ?e ?n ?_); (case e => rfl); (case n => rfl))
  | with_reducible refine i_gwCons ?_
  | with_reducible refine i_gwNil ?_
  | with_reducible refine i_lstW ?_
  | ((with_reducible refine' i_gList ?e ?n ?_); (case e => rfl); (case n => rfl))
  | with_reducible refine i_listRgH ?_
  | with_reducible refine i_listRg ?_
  | with_reducible refine i_R1 ?_
  | with_reducible refine i_getD ?_
  | ((with_reducible refine' i_none ?k ?_); (case k => rfl))
  | walk_at "dn")
local macro_rules | `(tactic| walk_at "dl") => `(tactic| ((try walk_at "dn"); repeat walk_at "d1"))
/-! relations: plain law -/
def bI (b : Bool) : Int := if b then 1 else 0
def relRow (p : Nat) (x : Int) (r : Row) : Int := bI (decide (r.p = p) && decide (r.e = x)) - bI (decide (r.p = p) && decide (r.s = x))
def relBeg (x : Int) : Int := bI (decide (x = 0)) - bI (decide (x = 1))
def relAt (w : Web) (p : Nat) (x : Int) : List Int := w.rows.map (relRow p x) ++ (List.range w.places.length).map fun o : Nat => relBeg x * bI (decide ((o : Int) = p))
def relC (w : Web) (p : Nat) : List Int := w.rows.map (fun r => bI (decide (r.c = (p : Int)))) ++ (List.range w.places.length).map fun o : Nat => 0 - bI (decide ((o : Int) = p))
def rels1 (w : Web) (p : Nat) : List (List Int) := (List.range (w.place p).toNat).map fun x : Nat => relAt w p (x : Int)
def rels (w : Web) : List (List Int) := (List.range w.places.length).flatMap (rels1 w) ++ (List.range' 1 (w.places.length - 1)).map (relC w)
theorem relAt_len (w : Web) (p : Nat) (x : Int) : (relAt w p x).length = w.rows.length + w.places.length := by
  unfold relAt
  rw [List.length_append, List.length_map, List.length_map, List.length_range]
theorem relC_len (w : Web) (p : Nat) : (relC w p).length = w.rows.length + w.places.length := by
  unfold relC
  rw [List.length_append, List.length_map, List.length_map, List.length_range]
theorem rels_len {w : Web} {r : List Int} (h : r ∈ rels w) : r.length = w.rows.length + w.places.length := by
  unfold rels at h
  rcases List.mem_append.mp h with h | h
  · obtain ⟨p, _, h⟩ := List.mem_flatMap.mp h
    obtain ⟨x, _, rfl⟩ := List.mem_map.mp h
    exact relAt_len w p x
  · obtain ⟨p, _, rfl⟩ := List.mem_map.mp h
    exact relC_len w p
/-- the sum over counts -/
def dot (rel xs : List Int) : Int := (List.zipWith (fun a b => a * b) rel xs).sum
theorem dot_inc : ∀ (rel xs : List Int) (j : Nat), j < xs.length → rel.length = xs.length → dot rel (incA xs j) = dot rel xs + rel.getD j 0
  | [], [], j, h, _ => by simp at h
  | a :: rel, b :: xs, 0, _, _ => by
    unfold dot incA
    simp only [List.set_cons_zero, List.zipWith_cons_cons, List.sum_cons, List.getD_cons_zero]
    rw [Int.mul_add, Int.mul_one]
    omega
  | a :: rel, b :: xs, j + 1, h, e => by
    have ih := dot_inc rel xs j (by simpa using h) (by simpa using e)
    unfold dot incA at *
    simp only [List.set_cons_succ, List.zipWith_cons_cons, List.sum_cons, List.getD_cons_succ]
    rw [ih]
    omega
theorem dot_zero (rel : List Int) (n : Nat) : dot rel (List.replicate n 0) = 0 := by
  unfold dot
  induction n generalizing rel with
  | zero => rw [List.replicate_zero, List.zipWith_nil_right]; rfl
  | succ n ih =>
    cases rel with
    | nil => rfl
    | cons a rel => rw [List.replicate_succ, List.zipWith_cons_cons, List.sum_cons, ih, Int.mul_zero]; rfl
/-- what frames weigh -/
def wtF (f : Int × Int → Int) (s : Stk) : Int := (s.map f).sum
structure Bal (w : Web) (rel : List Int) (f : Int × Int → Int) : Prop where
  len : rel.length = w.rows.length + w.places.length
  beg : rel.getD w.rows.length 0 = f (0, 0)
  row : ∀ k < w.rows.length, rel.getD k 0 + (if 0 ≤ (w.row k).c then rel.getD (w.rows.length + (w.row k).c.toNat) 0 else 0) = f ((w.row k).p, (w.row k).e) - f ((w.row k).p, (w.row k).s) + (if 0 ≤ (w.row k).c then f ((w.row k).c, 0) else 0)
  out : ∀ q, f (q, 1) = 0
theorem wt_pop {f : Int × Int → Int} (h : ∀ q, f (q, 1) = 0) : ∀ s : Stk, wtF f (popE s) = wtF f s
  | [] => rfl
  | (p, x) :: r => by
    show wtF f (if x = 1 then popE r else (p, x) :: r) = _
    by_cases hx : x = 1
    · rw [if_pos hx, wt_pop h r, hx]
      show wtF f r = f (p, 1) + wtF f r
      rw [h]
      omega
    · rw [if_neg hx]
theorem wt_bhd {w : Web} {rel : List Int} {f : Int × Int → Int} (h : Bal w rel f) (k : Nat) (r : Stk) : wtF f (bhd w k r) = f ((w.row k).p, (w.row k).e) + (if 0 ≤ (w.row k).c then f ((w.row k).c, 0) else 0) + wtF f r := by
  unfold bhd
  rw [wt_pop h.out]
  split
  · show f _ + (f _ + wtF f r) = _
    omega
  · show f _ + wtF f r = _
    omega
theorem tly1_dot {w : Web} {rel : List Int} {f : Int × Int → Int} (h : Bal w rel f) (hok : w.Ok) {xs : List Int} (hl : xs.length = w.rows.length + w.places.length) {k : Nat} (hk : k < w.rows.length) :
    dot rel (tly1 w xs k) = dot rel xs + (rel.getD k 0 + (if 0 ≤ (w.row k).c then rel.getD (w.rows.length + (w.row k).c.toNat) 0 else 0)) := by
  have hro := hok.2.2.1 _ (row_mem hk)
  unfold Web.rowOk at hro
  unfold tly1
  rw [Int.toNat_natCast]
  split
  · rename_i c
    rw [dot_inc _ _ _ (by rw [incA_len]; omega) (by rw [incA_len, h.len, hl]), dot_inc _ _ _ (by omega) (by rw [h.len, hl])]
    omega
  · rw [dot_inc _ _ _ (by omega) (by rw [h.len, hl])]
    omega
theorem run_dot {w : Web} {rel : List Int} {f : Int × Int → Int} (h : Bal w rel f) (hok : w.Ok) {xs : List Int} (hl : xs.length = w.rows.length + w.places.length) :
    ∀ (bs as : List Int) (s s' : Stk), stk w as = some s → stk w (as ++ bs) = some s' → dot rel (as.foldl (tly1 w) xs) = dot rel xs + wtF f s - f (0, 0) → dot rel ((as ++ bs).foldl (tly1 w) xs) = dot rel xs + wtF f s' - f (0, 0) := by
  intro bs
  have hfl : ∀ (l : List Int) (ys : List Int), (l.foldl (tly1 w) ys).length = ys.length := fun l => by
    induction l with
    | nil => intro ys; rfl
    | cons a l ih => intro ys; rw [List.foldl_cons, ih, tly1_len]
  induction bs with
  | nil =>
    intro as s s' e e' hd
    rw [List.append_nil] at e' ⊢
    rw [e] at e'
    cases e'
    exact hd
  | cons b bs ih =>
    intro as s s' e e' hd
    rw [show as ++ b :: bs = (as ++ [b]) ++ bs by simp] at e' ⊢
    cases e2 : stk w (as ++ [b]) with
    | none => rw [stk_none e2] at e'; cases e'
    | some s2 =>
      have e3 := e2
      rw [stk_snoc, e] at e3
      have e4 : stp w s b = some s2 := e3
      refine ih (as ++ [b]) s2 s' e2 e' ?_
      cases s with
      | nil => cases e4
      | cons px r =>
        obtain ⟨p, x⟩ := px
        by_cases hc : 0 ≤ b ∧ b < w.rows.length ∧ (w.row b.toNat).p = p ∧ (w.row b.toNat).s = x
        · have e5 : stp w ((p, x) :: r) b = some (bhd w b.toNat r) := if_pos hc
          rw [e5] at e4
          cases e4
          obtain ⟨k, rfl⟩ := toI hc.1
          rw [Int.toNat_natCast] at hc ⊢
          have hk : k < w.rows.length := by omega
          rw [List.foldl_append, List.foldl_cons, List.foldl_nil, tly1_dot h hok (by rw [hfl, hl]) hk, hd, h.row k hk, wt_bhd h, hc.2.2.1, hc.2.2.2]
          show _ + (f (p, x) + wtF f r) - _ + _ = _
          omega
        · have e5 : stp w ((p, x) :: r) b = none := if_neg hc
          rw [e5] at e4
          cases e4
theorem tlyR_dot {w : Web} {rel : List Int} {f : Int × Int → Int} (h : Bal w rel f) (hok : w.Ok) {xs : List Int} (hl : xs.length = w.rows.length + w.places.length) {r : List Int} (e : stk w r = some []) : dot rel (tlyR w xs r) = dot rel xs := by
  have hp := hok.1
  unfold tlyR
  have key := run_dot h hok (xs := incA xs w.rows.length) (by rw [incA_len, hl]) r [] [(0, 0)] [] rfl e (by
    show dot rel (incA xs w.rows.length) = dot rel (incA xs w.rows.length) + (f (0, 0) + 0) - f (0, 0)
    omega)
  rw [List.nil_append, dot_inc _ _ _ (by omega) (by rw [h.len, hl]), h.beg] at key
  rw [key]
  show _ + (0 : Int) - _ = _
  omega
theorem tally_dot {w : Web} {rel : List Int} {f : Int × Int → Int} (h : Bal w rel f) (hok : w.Ok) : ∀ (bs as : List (List Int)) (xs ys : List Int), tally w as = some xs → dot rel xs = 0 → tally w (as ++ bs) = some ys → dot rel ys = 0 := by
  intro bs
  induction bs with
  | nil => intro as xs ys e h0 e'; rw [List.append_nil, e] at e'; cases e'; exact h0
  | cons b bs ih =>
    intro as xs ys e h0 e'
    rw [show as ++ b :: bs = (as ++ [b]) ++ bs by simp] at e'
    by_cases hb : stk w b = some []
    · have e2 : tally w (as ++ [b]) = some (tlyR w xs b) := by
        rw [tally_snoc, e]
        show (if stk w b = some [] then some (tlyR w xs b) else none) = _
        rw [if_pos hb]
      exact ih (as ++ [b]) _ ys e2 (by rw [tlyR_dot h hok (tally_len e) hb, h0]) e'
    · have e2 : tally w (as ++ [b]) = none := by
        rw [tally_snoc, e]
        show (if stk w b = some [] then some (tlyR w xs b) else none) = _
        rw [if_neg hb]
      rw [tally_none e2] at e'
      cases e'
theorem getD_mapR {α : Type} {g : α → Int} {xs : List α} {k : Nat} {r : α} (h : xs[k]? = some r) (ys : List Int) : ((xs.map g) ++ ys).getD k 0 = g r := by
  have hk := (List.getElem?_eq_some_iff.mp h).1
  rw [List.getD_eq_getElem?_getD, List.getElem?_append_left (by rw [List.length_map]; exact hk), List.getElem?_map, h]
  rfl
theorem getD_app {α : Type} {g : α → Int} {xs : List α} {h : Nat → Int} {n j : Nat} (hj : j < n) : ((xs.map g) ++ (List.range n).map h).getD (xs.length + j) 0 = h j := by
  rw [List.getD_eq_getElem?_getD, List.getElem?_append_right (by rw [List.length_map]; omega), List.length_map, Nat.add_sub_cancel_left, List.getElem?_map, List.getElem?_range hj]
  rfl
def fAtW (p : Nat) (x : Int) (ab : Int × Int) : Int := if x = 1 then (if ab.1 = p ∧ ab.2 ≠ 1 then -1 else 0) else if ab.1 = p ∧ ab.2 = x then 1 else 0
theorem bI_dec {P : Prop} [Decidable P] : bI (decide P) = if P then 1 else 0 := by
  unfold bI
  by_cases h : P
  · rw [decide_eq_true h, if_pos rfl, if_pos h]
  · rw [decide_eq_false h, if_neg (by decide), if_neg h]
theorem bI_and {P R : Prop} [Decidable P] [Decidable R] : bI (decide P && decide R) = if P ∧ R then 1 else 0 := by
  rw [← Bool.decide_and, bI_dec]
theorem bal_at {w : Web} (hok : w.Ok) {p : Nat} {x : Int} : Bal w (relAt w p x) (fAtW p x) := by
  have hp := hok.1
  refine ⟨relAt_len w p x, ?_, fun k hk => ?_, fun q => ?_⟩
  · unfold relAt
    rw [show w.rows.length = w.rows.length + 0 from rfl, getD_app (by omega)]
    unfold relBeg fAtW
    rw [bI_dec, bI_dec, bI_dec]
    dsimp only
    by_cases h1 : x = 0 <;> by_cases h2 : x = 1 <;> by_cases h3 : (0 : Int) = p <;> simp [h1, h2, h3] <;> omega
  · obtain ⟨r, hr⟩ := getLt (xs := w.rows) (j := k) hk
    have er : w.row k = r := by
      unfold Web.row
      rw [List.getD_eq_getElem?_getD, hr]
      rfl
    have hro := hok.2.2.1 r (List.mem_of_getElem? hr)
    unfold Web.rowOk at hro
    rw [er]
    have e1 : (relAt w p x).getD k 0 = relRow p x r := getD_mapR hr _
    have e2 : 0 ≤ r.c → (relAt w p x).getD (w.rows.length + r.c.toNat) 0 = relBeg x * bI (decide (((r.c.toNat : Nat) : Int) = p)) := fun hc => by
      unfold relAt
      exact getD_app (by omega)
    have e3 : (if 0 ≤ r.c then (relAt w p x).getD (w.rows.length + r.c.toNat) 0 else 0) = if 0 ≤ r.c then relBeg x * bI (decide (r.c = p)) else 0 := by
      by_cases hc : 0 ≤ r.c
      · rw [if_pos hc, if_pos hc, e2 hc, Int.toNat_of_nonneg hc]
      · rw [if_neg hc, if_neg hc]
    rw [e1, e3]
    unfold relRow relBeg fAtW
    rw [bI_and, bI_and, bI_dec, bI_dec, bI_dec]
    dsimp only
    have hs1 : r.s ≠ 1 := by omega
    by_cases h2 : x = 1
    · subst h2
      by_cases h3 : r.p = p <;> by_cases h4 : r.e = 1 <;> by_cases h5 : 0 ≤ r.c <;> by_cases h6 : r.c = p <;> simp [h3, h4, h5, h6, hs1]
    · by_cases h0 : x = 0
      · subst h0
        by_cases h3 : r.p = p <;> by_cases h4 : r.e = 0 <;> by_cases h7 : r.s = 0 <;> by_cases h5 : 0 ≤ r.c <;> by_cases h6 : r.c = p <;> simp [h3, h4, h5, h6, h7]
      · have h00 : ¬ (0 : Int) = x := fun z => h0 z.symm
        by_cases h3 : r.p = p <;> by_cases h4 : r.e = x <;> by_cases h7 : r.s = x <;> by_cases h5 : 0 ≤ r.c <;> by_cases h6 : r.c = p <;> simp [h2, h0, h00, h3, h4, h5, h6, h7]
  · unfold fAtW
    dsimp only
    by_cases h : x = 1
    · rw [if_pos h, if_neg (fun z => z.2 rfl)]
    · rw [if_neg h, if_neg (fun z => h z.2.symm)]
theorem bal_c {w : Web} (hok : w.Ok) {p : Nat} (hp0 : 1 ≤ p) : Bal w (relC w p) (fun _ => 0) := by
  have hp := hok.1
  refine ⟨relC_len w p, ?_, fun k hk => ?_, fun q => rfl⟩
  · unfold relC
    rw [show w.rows.length = w.rows.length + 0 from rfl, getD_app (by omega), bI_dec, if_neg (by omega)]
    rfl
  · obtain ⟨r, hr⟩ := getLt (xs := w.rows) (j := k) hk
    have er : w.row k = r := by
      unfold Web.row
      rw [List.getD_eq_getElem?_getD, hr]
      rfl
    have hro := hok.2.2.1 r (List.mem_of_getElem? hr)
    unfold Web.rowOk at hro
    rw [er]
    have e1 : (relC w p).getD k 0 = bI (decide (r.c = (p : Int))) := getD_mapR hr _
    rw [e1]
    by_cases hc : 0 ≤ r.c
    · have e2 : (relC w p).getD (w.rows.length + r.c.toNat) 0 = 0 - bI (decide (((r.c.toNat : Nat) : Int) = p)) := by
        unfold relC
        exact getD_app (by omega)
      rw [if_pos hc, if_pos hc, e2, Int.toNat_of_nonneg hc]
      omega
    · rw [if_neg hc, if_neg hc, bI_dec, if_neg (by omega)]
      rfl
theorem rels_bal {w : Web} (hok : w.Ok) {r : List Int} (h : r ∈ rels w) : ∃ f, Bal w r f := by
  unfold rels at h
  rcases List.mem_append.mp h with h | h
  · obtain ⟨p, _, h⟩ := List.mem_flatMap.mp h
    obtain ⟨x, _, rfl⟩ := List.mem_map.mp h
    exact ⟨_, bal_at hok⟩
  · obtain ⟨p, hp, rfl⟩ := List.mem_map.mp h
    exact ⟨_, bal_c hok (by have := (List.mem_range'_1.mp hp).1; omega)⟩
/-- each relation's sum over a heap's counts is nought -/
theorem rels_zero {w : Web} (hok : w.Ok) {heap : List (List Int)} {xs : List Int} (e : tally w heap = some xs) {r : List Int} (h : r ∈ rels w) : dot r xs = 0 := by
  obtain ⟨f, hb⟩ := rels_bal hok h
  exact tally_dot hb hok heap [] _ xs rfl (dot_zero _ _) (by rw [List.nil_append]; exact e)
theorem dot_range {rel xs : List Int} (h : rel.length = xs.length) : ((List.range xs.length).map fun k => rel.getD k 0 * xs.getD k 0).sum = dot rel xs := by
  unfold dot
  congr 1
  refine List.ext_getElem (by rw [List.length_map, List.length_range, List.length_zipWith]; omega) fun i h1 h2 => ?_
  rw [List.length_map, List.length_range] at h1
  rw [List.getElem_map, List.getElem_range, List.getElem_zipWith, List.getD_eq_getElem?_getD, List.getD_eq_getElem?_getD, List.getElem?_eq_getElem (by omega), List.getElem?_eq_getElem h1]
  rfl
/-- counts stay small -/
def Sml (B : Int) (xs : List Int) : Prop := ∀ j, 0 ≤ xs.getD j 0 ∧ xs.getD j 0 ≤ B
theorem sml_inc {B : Int} {xs : List Int} (h : Sml B xs) (j : Nat) : Sml (B + 1) (incA xs j) := fun i => by
  have h0 := h i
  have h1 := h j
  unfold incA
  rw [List.getD_eq_getElem?_getD, List.getElem?_set]
  split
  · split
    · show 0 ≤ xs.getD j 0 + 1 ∧ xs.getD j 0 + 1 ≤ B + 1
      omega
    · have : (0 : Int) ≤ B := by omega
      show (0 : Int) ≤ 0 ∧ (0 : Int) ≤ B + 1
      omega
  · rw [← List.getD_eq_getElem?_getD]
    omega
theorem sml_le {B C : Int} {xs : List Int} (h : Sml B xs) (hb : B ≤ C) : Sml C xs := fun j => by have := h j; omega
theorem sml_run {w : Web} : ∀ (ks : List Int) (B : Int) (xs : List Int), Sml B xs → Sml (B + 2 * ks.length) (ks.foldl (tly1 w) xs)
  | [], B, xs, h => sml_le h (by simp)
  | k :: ks, B, xs, h => by
    have h1 : Sml (B + 2) (tly1 w xs k) := by
      unfold tly1
      split
      · exact sml_le (sml_inc (sml_inc h _) _) (by omega)
      · exact sml_le (sml_inc h _) (by omega)
    rw [List.foldl_cons]
    exact sml_le (sml_run ks (B + 2) _ h1) (by rw [List.length_cons]; omega)
theorem tally_small {w : Web} : ∀ (bs as : List (List Int)) (B : Int) (xs ys : List Int), tally w as = some xs → Sml B xs → (∀ r ∈ bs, r.length ≤ 900) → tally w (as ++ bs) = some ys → Sml (B + 1801 * bs.length) ys := by
  intro bs
  induction bs with
  | nil => intro as B xs ys e h _ e'; rw [List.append_nil, e] at e'; cases e'; exact sml_le h (by simp)
  | cons b bs ih =>
    intro as B xs ys e h hb e'
    rw [show as ++ b :: bs = (as ++ [b]) ++ bs by simp] at e'
    have hbl := hb b (by simp)
    by_cases hr : stk w b = some []
    · have e2 : tally w (as ++ [b]) = some (tlyR w xs b) := by
        rw [tally_snoc, e]
        show (if stk w b = some [] then some (tlyR w xs b) else none) = _
        rw [if_pos hr]
      have h2 : Sml (B + 1801) (tlyR w xs b) := sml_le (sml_run b (B + 1) _ (sml_inc h _)) (by omega)
      exact sml_le (ih (as ++ [b]) (B + 1801) _ ys e2 h2 (fun r hr => hb r (List.mem_cons_of_mem _ hr)) e') (by rw [List.length_cons]; omega)
    · have e2 : tally w (as ++ [b]) = none := by
        rw [tally_snoc, e]
        show (if stk w b = some [] then some (tlyR w xs b) else none) = _
        rw [if_neg hr]
      rw [tally_none e2] at e'
      cases e'
theorem rel_small {w : Web} {r : List Int} (h : r ∈ rels w) (k : Nat) : -2 ≤ r.getD k 0 ∧ r.getD k 0 ≤ 2 := by
  have hb : ∀ b, 0 ≤ bI b ∧ bI b ≤ 1 := fun b => by cases b <;> decide
  rw [List.getD_eq_getElem?_getD]
  cases e : r[k]? with
  | none => decide
  | some z =>
    show -2 ≤ z ∧ z ≤ 2
    have hz := List.mem_of_getElem? e
    unfold rels at h
    rcases List.mem_append.mp h with h | h
    · obtain ⟨p, _, h⟩ := List.mem_flatMap.mp h
      obtain ⟨x, _, rfl⟩ := List.mem_map.mp h
      unfold relAt at hz
      rcases List.mem_append.mp hz with hz | hz
      · obtain ⟨q, _, rfl⟩ := List.mem_map.mp hz
        unfold relRow
        have h1 := hb (decide (q.p = p) && decide (q.e = ((x : Nat) : Int)))
        have h2 := hb (decide (q.p = p) && decide (q.s = ((x : Nat) : Int)))
        omega
      · obtain ⟨o, _, rfl⟩ := List.mem_map.mp hz
        have h1 := hb (decide (((x : Nat) : Int) = 0))
        have h2 := hb (decide (((x : Nat) : Int) = 1))
        unfold relBeg
        rw [bI_dec (P := ((o : Nat) : Int) = p)]
        split <;> omega
    · obtain ⟨p, hp, rfl⟩ := List.mem_map.mp h
      unfold relC at hz
      rcases List.mem_append.mp hz with hz | hz
      · obtain ⟨q, _, rfl⟩ := List.mem_map.mp hz
        have h1 := hb (decide (q.c = p))
        omega
      · obtain ⟨o, _, rfl⟩ := List.mem_map.mp hz
        have h1 := hb (decide (((o : Nat) : Int) = p))
        omega

end DL

namespace DL
open PySem PySem.Spec L2
local macro_rules | `(tactic| walk_at "dn") => `(tactic| simp only [purse_set2, purse_set3, purse_set4, purse_set5, purse_app, purse_len, purse_start, purse_l, G.set, G.put, G.push, G.wipe, wipeW, G.rs, rsW, List.set_cons_zero, List.set_cons_succ, List.map_cons, List.map_nil, List.length_cons, List.length_nil, List.nil_append, List.cons_append, List.replicate_succ, List.replicate_zero, Nat.reduceAdd, Nat.reduceSub, List.getD_cons_zero, List.getD_cons_succ, Option.getD_some, Option.getD_none])
local macro_rules | `(tactic| walk_at "d1") => `(tactic| first
  | with_reducible refine i_seq ?_
  | with_reducible refine i_asg ?_
  | with_reducible refine i_d2 ?_
  | ((with_reducible refine' i_var ?e ?_); (case e => rfl))
  | with_reducible refine i_c ?_
  | ((with_reducible refine' i_ix ?e ?v ?_); (case e => rfl); (case v => first | assumption | rfl))
  | with_reducible refine i_fI0 ?_
  | with_reducible refine i_gN ?_
  | with_reducible refine i_cons ?_
  | with_reducible refine i_nil ?_
  | with_reducible refine i_dN ?_
  | ((with_reducible refine' i_len ?e ?_); (case e => rfl))
  | with_reducible refine i_d1 ?_
  | with_reducible refine i_neg ?_
  | with_reducible refine i_B ?_
  | with_reducible refine o_B ?_
  | with_reducible refine o_I ?_
  | with_reducible refine i_ifS ?_
  | with_reducible refine i_or ?_
  | with_reducible refine i_and ?_
  | with_reducible refine i_not ?_
  | with_reducible refine i_andV ?_
  | with_reducible refine i_orV ?_
  | with_reducible refine i_notV ?_
  | with_reducible refine i_if ?_
  | with_reducible refine i_yes ?_
  | with_reducible refine k_T ?_
  | with_reducible refine k_F ?_
  | with_reducible refine k_True ?_
  | with_reducible refine k_False ?_
  | with_reducible refine i_eqI ?_
  | with_reducible refine i_neI ?_
  | with_reducible refine i_addI ?_
  | with_reducible refine i_addHI ?_
  | with_reducible refine i_callT ?_
  | with_reducible refine i_callH ?_
  | ((with_reducible refine' o_Ts ?e ?_); (case e => rfl))
  | with_reducible refine o_T ?_
  | ((with_reducible refine' o_TF ?e ?_); (case e => rfl))
  | with_reducible refine o_H ?_
  | ((with_reducible refine' o_HF ?e ?_); (case e => rfl))
  | with_reducible refine i_next ?_
  | with_reducible refine i_drop ?_
  | with_reducible refine i_ret ?_
  | with_reducible refine i_retN ?_
  | ((with_reducible refine' i_gTup ?e ?_); (case e => rfl))
  | with_reducible refine i_gCons ?_
  | with_reducible refine i_gNil ?_
  | with_reducible refine i_min2 ?_
  | with_reducible refine i_max2 ?_
  | with_reducible refine i_par ?_
  | with_reducible refine o_W2 ?_
  | ((with_reducible refine' i_aug ?e ?_); (case e => rfl))
  | with_reducible refine i_intI ?_
  | with_reducible refine i_intB ?_
  | with_reducible refine i_lc ?_
  | with_reducible refine i_for ?_
  | with_reducible refine i_while ?_
  | with_reducible refine i_itL ?_
  | ((with_reducible refine' o_Lq ?e ?_); (case e => rfl))
  | with_reducible refine i_itR1 ?_
  | with_reducible refine i_itR2 ?_
  | with_reducible refine o_I1 ?_
  | with_reducible refine o_I2 ?_
  | with_reducible refine e_t ?_
  | ((with_reducible refine' e_h ?e ?p ?_); (case e => rfl); (case p => rfl))
  | with_reducible refine i_M ?_
  | with_reducible refine i_M0 ?_
  | with_reducible refine i_gSub ?_
  | with_reducible refine i_finH ?_
  | with_reducible refine i_finT ?_
  | with_reducible refine i_sl ?_
  | with_reducible refine i_slH ?_
  | with_reducible refine i_slT ?_
  | with_reducible refine i_noPart ?_
  | with_reducible refine i_part ?_
  | ((with_reducible refine' i_frzT ?e ?_); (case e => rfl))
  | ((with_reducible refine' i_frzH ?e ?m ?t ?_); (case e => rfl); (case m => rfl); (case t => rfl))
  | ((with_reducible refine' i_din ?k ?e ?_); (case k => rfl); (case e => rfl))
  | ((with_reducible refine' i_dnotin ?k ?e ?_); (case k => rfl); (case e => rfl))
  | with_reducible refine i_dput ?_
  | with_reducible refine i_newD ?_
  | with_reducible refine i_lstH ?_
  | with_reducible refine i_lst ?_
  | with_reducible refine i_tup ?_
  | with_reducible refine i_break ?_
  | with_reducible refine i_cont ?_
  | with_reducible refine i_callS ?_
  | ((with_reducible refine' i_ixHW ?e ?v ?_); (case e => first | rfl | assumption); (case v => first | assumption | rfl))
  | ((with_reducible refine' i_ixHT ?e ?v ?_); (case e => first | rfl | assumption); (case v => first | assumption | rfl))
  | ((with_reducible refine' i_lenHT ?e ?_); (case e => first | rfl | assumption))
  | ((with_reducible refine' i_lenHW ?e ?_); (case e => first | rfl | assumption))
  | ((with_reducible refine' i_frzH ?e ?m ?t ?_); (case e => rfl); (case m => rfl); (case t => rfl))
  | ((with_reducible refine' i_unw ?e ?n ?_); (case e => rfl); (case n => rfl))
  | with_reducible refine i_gwCons ?_
  | with_reducible refine i_gwNil ?_
  | with_reducible refine i_lstW ?_
  | ((with_reducible refine' i_gList ?e ?n ?_); (case e => rfl); (case n => rfl))
  | with_reducible refine i_listRgH ?_
  | with_reducible refine i_listRg ?_
  | with_reducible refine i_R1 ?_
  | with_reducible refine i_getD ?_
  | ((with_reducible refine' i_none ?k ?_); (case k => rfl))
  | walk_at "dn")
local macro_rules | `(tactic| walk_at "dl") => `(tactic| ((try walk_at "dn"); repeat walk_at "d1"))
/-! relations: walks -/
def C_relation_at : PC := fun ts Q => ∃ (w : Web) (p x : Nat), ts = [w.t, .int p, .int x] ∧ w.rows.length ≤ 60 ∧ w.places.length ≤ 4 ∧ Q (.f (.lt ((relAt w p x).map T.int)))
theorem ln_relation_at : ∀ ts Q, C_relation_at ts Q → ts.length = ["a", "b", "c"].length := by rintro ts Q ⟨_, _, _, rfl, _⟩; rfl
theorem bI_if (b : Bool) : (if b = true then (1 : Int) else 0) = bI b := rfl
def rd_relation_at : DSt :=
  dSeq (dAsg (dLstH (dNil)) (dgN 3))
  (dSeq (dFor (diL (d2 fIx (dVar 0) (dC (.int 1)))) (dgN 4) (dSeq (dAsg (d2 (fEq false) (d2 fIx (dVar 4) (dC (.int 0))) (dVar 1)) (dgN 5))
  (dDrop (dM fAppend (dVar 3) (dCons (d2 (fI0 fun i j => .int (i - j)) (dN fInt (dCons (dAndV (dVar 5) (d2 (fEq false) (d2 fIx (dVar 4) (dC (.int 2))) (dVar 2))) (dNil))) (dN fInt (dCons (dAndV (dVar 5) (d2 (fEq false) (d2 fIx (dVar 4) (dC (.int 1))) (dVar 2))) (dNil)))) (dNil))))))
  (dSeq (dAsg (d2 (fI0 fun i j => .int (i - j)) (dN fInt (dCons (d2 (fEq false) (dVar 2) (dC (.int 0))) (dNil))) (dN fInt (dCons (d2 (fEq false) (dVar 2) (dC (.int 1))) (dNil)))) (dgN 6))
  (dRet (d2 fAddH (dVar 3) (dLc finT (diR1 (dCons (dN fLen (dCons (d2 fIx (dVar 0) (dC (.int 0))) (dNil))) (dNil))) (dgN 7) (dYes) (d2 (fI IntMulOk fun i j => .int (i * j)) (dVar 6) (dN fInt (dCons (d2 (fEq false) (dVar 7) (dVar 1)) (dNil)))) [7])))))

theorem rp_relation_at : ∀ ts Q, C_relation_at ts Q → rd_relation_at ⟨FinP Q (.t .non), FinP Q, fun _ => False, fun _ => False⟩ ⟨ts.map (fun t => some (W.t t)) ++ List.replicate (8 - ts.length) none, []⟩ := by
  rintro ts Q ⟨w, p, x, rfl, hr, hp, hQ⟩
  unfold rd_relation_at Web.t
  walk_at "dl"
  refine ⟨by decide, ?_⟩
  walk_at "dl"
  refine forG w.rows (fun r => W.t r.t) (fun pre g' => ∃ (o4 o5 : Option W), g' = ⟨[some (.t (.tup [.lst (w.places.map T.int), .lst (w.rows.map Row.t)])), some (.t (.int p)), some (.t (.int x)), some (.h 0), o4, o5, none, none], [some (.lt ((pre.map (relRow p x)).map T.int))]⟩)
    (by rw [List.map_map]; rfl) ⟨_, _, rfl⟩ (fun _ _ _ => by trivial) ?_ ?_
  · rintro pre r post hsp g' ⟨o4, o5, rfl⟩ N hN
    have hpl : pre.length < w.rows.length := by
      have := congrArg List.length hsp
      rw [List.length_append, List.length_cons] at this
      omega
    unfold Row.t
    walk_at "dl"
    refine ⟨isL_lt rfl, ?_⟩
    walk_at "dl"
    have em : (pre.map (relRow p x)).map T.int ++ [T.int (relRow p x r)] = ((pre ++ [r]).map (relRow p x)).map T.int := by
      rw [List.map_append, List.map_append]
      rfl
    by_cases hpp : r.p = p
    · rw [decide_eq_true hpp]
      rw [if_pos rfl]
      walk_at "dl"
      have e : relRow p x r = bI (decide (r.e = (x : Int))) - bI (decide (r.s = (x : Int))) := by
        unfold relRow
        rw [decide_eq_true hpp, Bool.true_and, Bool.true_and]
      rw [bI_if, bI_if, ← e]
      refine i_append rfl (lineLt (by rw [List.length_map, List.length_map]; omega)) ?_
      rw [em]
      exact hN _ ⟨_, _, rfl⟩
    · rw [decide_eq_false hpp]
      rw [if_neg (by decide)]
      walk_at "dl"
      have e : relRow p x r = bI false - bI false := by
        unfold relRow
        rw [decide_eq_false hpp, Bool.false_and, Bool.false_and]
      rw [bI_if, ← e]
      refine i_append rfl (lineLt (by rw [List.length_map, List.length_map]; omega)) ?_
      rw [em]
      exact hN _ ⟨_, _, rfl⟩
  · rintro g' ⟨o4, o5, rfl⟩
    walk_at "dl"
    rw [List.length_map]
    refine ⟨by omega, ?_⟩
    refine lcP (List.range w.places.length) (fun k => W.t (natT k)) (fun _ => true) (fun o => T.int (relBeg x * bI (decide ((o : Int) = p)))) (by rw [Int.toNat_natCast, rgW0]; rfl) (by rw [List.length_range]; exact lineLe (by omega)) trivial ?_ rfl ?_
    · intro o ho Y N2 hY hN2
      unfold natT
      walk_at "dl"
      refine i_fI (mulR (by split <;> decide) (by split <;> decide)) ?_
      exact hY rfl _ rfl
    rw [List.filter_eq_self.mpr (fun _ _ => rfl)]
    walk_at "dl"
    refine i_addHL (xs := (w.rows.map (relRow p x)).map T.int) (ys := (List.range w.places.length).map fun o : Nat => T.int (relBeg x * bI (decide ((o : Int) = p)))) rfl rfl (lineLe (by rw [List.length_map, List.length_map, List.length_map, List.length_range]; omega)) ?_
    refine e_h at_last rfl ?_
    have e : (w.rows.map (relRow p x)).map T.int ++ ((List.range w.places.length).map fun o : Nat => T.int (relBeg x * bI (decide ((o : Int) = p)))) = (relAt w p x).map T.int := by
      unfold relAt
      rw [List.map_append, List.map_map (l := List.range _)]
      rfl
    rw [e]
    exact hQ
def C_relation_of_calls : PC := fun ts Q => ∃ (w : Web) (p : Nat), ts = [w.t, .int p] ∧ w.rows.length ≤ 60 ∧ w.places.length ≤ 4 ∧ Q (.f (.lt ((relC w p).map T.int)))
theorem ln_relation_of_calls : ∀ ts Q, C_relation_of_calls ts Q → ts.length = ["a", "b"].length := by rintro ts Q ⟨_, _, rfl, _⟩; rfl
def rd_relation_of_calls : DSt :=
  dRet (d2 fAddH (dLc finT (diL (d2 fIx (dVar 0) (dC (.int 1)))) (dgN 2) (dYes) (dN fInt (dCons (d2 (fEq false) (d2 fIx (dVar 2) (dC (.int 3))) (dVar 1)) (dNil))) [2]) (dLc finT (diR1 (dCons (dN fLen (dCons (d2 fIx (dVar 0) (dC (.int 0))) (dNil))) (dNil))) (dgN 3) (dYes) (d2 (fI0 fun i j => .int (i - j)) (dC (.int 0)) (dN fInt (dCons (d2 (fEq false) (dVar 3) (dVar 1)) (dNil)))) [3]))

theorem rp_relation_of_calls : ∀ ts Q, C_relation_of_calls ts Q → rd_relation_of_calls ⟨FinP Q (.t .non), FinP Q, fun _ => False, fun _ => False⟩ ⟨ts.map (fun t => some (W.t t)) ++ List.replicate (4 - ts.length) none, []⟩ := by
  rintro ts Q ⟨w, p, rfl, hr, hp, hQ⟩
  unfold rd_relation_of_calls Web.t
  walk_at "dl"
  refine lcP w.rows (fun r => W.t r.t) (fun _ => true) (fun r => T.int (bI (decide (r.c = (p : Int))))) (by rw [List.map_map]; rfl) (lineLe (by omega)) rfl ?_ rfl ?_
  · intro r hr Y N2 hY hN2
    unfold Row.t
    walk_at "dl"
    exact hY rfl _ rfl
  rw [List.filter_eq_self.mpr (fun _ _ => rfl)]
  walk_at "dl"
  rw [List.length_map]
  refine ⟨by omega, ?_⟩
  refine lcP (List.range w.places.length) (fun k => W.t (natT k)) (fun _ => true) (fun o => T.int (0 - bI (decide ((o : Int) = p)))) (by rw [Int.toNat_natCast, rgW0]; rfl) (by rw [List.length_range]; exact lineLe (by omega)) trivial ?_ rfl ?_
  · intro o ho Y N2 hY hN2
    unfold natT
    walk_at "dl"
    exact hY rfl _ rfl
  rw [List.filter_eq_self.mpr (fun _ _ => rfl)]
  walk_at "dl"
  refine i_addHL (xs := w.rows.map fun r => T.int (bI (decide (r.c = (p : Int))))) (ys := (List.range w.places.length).map fun o : Nat => T.int (0 - bI (decide ((o : Int) = p)))) rfl rfl (lineLe (by rw [List.length_map, List.length_map, List.length_range]; omega)) ?_
  refine e_h at_last rfl ?_
  have e : (w.rows.map fun r => T.int (bI (decide (r.c = (p : Int))))) ++ ((List.range w.places.length).map fun o : Nat => T.int (0 - bI (decide ((o : Int) = p)))) = (relC w p).map T.int := by
    unfold relC
    rw [List.map_append, List.map_map, List.map_map]
    rfl
  rw [e]
  exact hQ
/-- handles of lists of whole numbers -/
structure HL (mem : Sto) (hs : List Nat) (rs : List (List Int)) : Prop where
  nd : hs.Nodup
  len : hs.length = rs.length
  val : ∀ i h : Nat, hs[i]? = some h → ∃ r : List Int, rs[i]? = some r ∧ mem[h]? = some (some (Cell.lt (r.map T.int)))
def lC (r : List Int) : Cell := Cell.lt (r.map T.int)
theorem HL.lt {mem : Sto} {hs : List Nat} {rs : List (List Int)} (h : HL mem hs rs) : ∀ j ∈ hs, j < mem.length := fun j hj => by
  obtain ⟨i, hi⟩ := List.getElem?_of_mem hj
  obtain ⟨r, _, e⟩ := h.val i j hi
  exact (List.getElem?_eq_some_iff.mp e).1
theorem HL.nil {mem : Sto} : HL mem [] [] := ⟨List.nodup_nil, rfl, fun i h e => by simp at e⟩
theorem HL.grow {mem more : Sto} {hs : List Nat} {rs : List (List Int)} (h : HL mem hs rs) : HL (mem ++ more) hs rs := ⟨h.nd, h.len, fun i k e => by
  obtain ⟨r, e1, e2⟩ := h.val i k e
  exact ⟨r, e1, at_more e2⟩⟩
theorem HL.add {mem : Sto} {hs : List Nat} {rs : List (List Int)} (h : HL mem hs rs) (rs2 : List (List Int)) : HL (mem ++ rs2.map fun r => some (lC r)) (hs ++ (List.range rs2.length).map (mem.length + ·)) (rs ++ rs2) := by
  refine ⟨List.nodup_append.mpr ⟨h.nd, by
    rw [List.nodup_iff_pairwise_ne, List.pairwise_map]
    exact List.Pairwise.imp (fun hab e => hab (by omega)) List.nodup_range, fun a ha b hb e => ?_⟩, by rw [List.length_append, List.length_append, List.length_map, List.length_range, h.len], fun i k e => ?_⟩
  · subst e
    have h1 := h.lt a ha
    obtain ⟨c, _, e⟩ := List.mem_map.mp hb
    omega
  · by_cases hi : i < hs.length
    · rw [List.getElem?_append_left hi] at e
      obtain ⟨r, e1, e2⟩ := h.val i k e
      exact ⟨r, by rw [List.getElem?_append_left (by rw [← h.len]; exact hi)]; exact e1, at_more e2⟩
    · rw [List.getElem?_append_right (by omega), List.getElem?_map] at e
      have hb : i - hs.length < rs2.length := by
        rcases Nat.lt_or_ge (i - hs.length) rs2.length with z | z
        · exact z
        · rw [List.getElem?_eq_none (by rw [List.length_range]; exact z)] at e
          cases e
      rw [List.getElem?_range hb] at e
      cases e
      refine ⟨rs2[i - hs.length], ?_, ?_⟩
      · rw [List.getElem?_append_right (by rw [← h.len]; omega), ← h.len, List.getElem?_eq_getElem hb]
      · show (mem ++ _)[mem.length + (i - hs.length)]? = _
        rw [List.getElem?_append_right (by omega), Nat.add_sub_cancel_left, List.getElem?_map, List.getElem?_eq_getElem hb]
        rfl
theorem addNew {ι : Type} {sl : List (Option W)} {mem : Sto} {hs : List Nat} {rs : List (List Int)} {n : Nat} {Q : W → G → Prop} (em : mem[n]? = some (some (Cell.lw (hs.map W.h)))) (hh : HL mem hs rs) (items : List ι) (f : ι → List Int) (hl : rs.length + items.length ≤ 1000)
    (h : ∀ (hs2 : List Nat) (n2 : Nat) (mem2 : Sto), mem2[n2]? = some (some (Cell.lw (hs2.map W.h))) → HL mem2 hs2 (rs ++ items.map f) → Q (.h n2) ⟨sl, mem2⟩) :
    finW ((List.range items.length).map fun j => W.h (mem.length + j)) ⟨sl, mem ++ items.map fun x => some (lC (f x))⟩ fun y g2 => fAddW g2 (.h n) y Q := by
  have h2 := hh.add (items.map f)
  rw [List.length_map, List.map_map] at h2
  have hhl := hh.len
  unfold finW
  refine i_addW (xs := hs.map W.h) (ys := (List.range items.length).map fun j => W.h (mem.length + j)) (wl_h (at_more (at_more em))) (wl_h at_last) (lineLe (by rw [List.length_map, List.length_map, List.length_range]; omega)) ?_
  refine h (hs ++ (List.range items.length).map (mem.length + ·)) _ _ ?_ ?_
  · rw [List.map_append, List.map_map]
    exact at_last
  · exact (h2.grow).grow
theorem rels1_len {w : Web} (hok : w.Ok) {p : Nat} (hp : p < w.places.length) : (rels1 w p).length ≤ 16 := by
  have hpv := hok.2.1 _ (place_mem hp)
  unfold rels1
  rw [List.length_map, List.length_range]
  omega
theorem flat_len {α β : Type} {f : α → List β} {n : Nat} : ∀ {xs : List α}, (∀ x ∈ xs, (f x).length ≤ n) → (xs.flatMap f).length ≤ n * xs.length
  | [], _ => by simp
  | x :: xs, h => by
    have h1 := h x (by simp)
    have h2 := flat_len (f := f) (n := n) (xs := xs) fun y hy => h y (List.mem_cons_of_mem _ hy)
    rw [List.flatMap_cons, List.length_append, List.length_cons, Nat.mul_add]
    omega
theorem ups_hl {r hs : List Nat} (h : ∀ (i k : Nat), hs[i]? = some k → r[i]? = some k) : ups r ((List.range hs.length).map W.h) = some (hs.map W.h) := by
  have key : ∀ js : List Nat, (∀ j ∈ js, j < hs.length) → ups r (js.map W.h) = some (js.map fun j => W.h (hs.getD j 0)) := by
    intro js
    induction js with
    | nil => intro _; rfl
    | cons j js ih =>
      intro hj
      have e := ih fun k hk => hj k (List.mem_cons_of_mem _ hk)
      have hjl := hj j (by simp)
      have e2 : r[j]? = some (hs.getD j 0) := h j _ (by rw [List.getD_eq_getElem?_getD, List.getElem?_eq_getElem hjl]; rfl)
      show (match W.up r (.h j), ups r (js.map W.h) with | some w', some ws' => some (w' :: ws') | _, _ => none) = _
      rw [e]
      unfold W.up
      dsimp only
      rw [e2]
      rfl
  rw [key _ (fun j hj => by simpa using hj)]
  congr 1
  refine List.ext_getElem (by rw [List.length_map, List.length_map, List.length_range]) fun i h1 h2 => ?_
  rw [List.length_map, List.length_range] at h1
  rw [List.getElem_map, List.getElem_map, List.getElem_range, List.getD_eq_getElem?_getD, List.getElem?_eq_getElem h1]
  rfl
theorem fin_hl {QC : W → List Cell → List Cell → Prop} {sl : List (Option W)} {mem : Sto} {hs : List Nat} {rs : List (List Int)} {n : Nat} (em : mem[n]? = some (some (Cell.lw (hs.map W.h)))) (hh : HL mem hs rs)
    (q : QC (.h rs.length) [] (rs.map lC ++ [.lw ((List.range rs.length).map W.h)])) : FinS 0 QC (.h n) ⟨sl, mem⟩ := by
  have hlt := hh.lt
  have hl := hh.len
  refine fin_s (hs ++ [n]) [] (rs.map lC ++ [.lw ((List.range rs.length).map W.h)]) (.h rs.length) ?_ (fun j hj => ?_) ?_ rfl (by rw [List.length_append, List.length_append, List.length_map, hl]; rfl) (fun i c' e => ?_) q
  · show (hs ++ [n]).Nodup
    refine List.nodup_append.mpr ⟨hh.nd, by simp, fun a ha b hb e => ?_⟩
    have : b = n := by simpa using hb
    subst this e
    obtain ⟨i, hi⟩ := List.getElem?_of_mem ha
    obtain ⟨r, _, e⟩ := hh.val i _ hi
    rw [em] at e
    cases e
  · rcases List.mem_append.mp (show j ∈ hs ++ [n] from hj) with z | z
    · exact hlt j z
    · have : j = n := by simpa using z
      subst this
      exact (List.getElem?_eq_some_iff.mp em).1
  · show W.up (hs ++ [n]) (.h rs.length) = _
    unfold W.up
    dsimp only
    rw [← hl, at_last]
  · have e' : (rs.map lC ++ [Cell.lw ((List.range rs.length).map W.h)])[i]? = some c' := e
    show ∃ j c, (hs ++ [n])[i]? = some j ∧ c'.up (hs ++ [n]) = some c ∧ mem[j]? = some (some c)
    by_cases hi : i < rs.length
    · rw [List.getElem?_append_left (by rw [List.length_map]; exact hi), List.getElem?_map] at e'
      obtain ⟨k, hk⟩ := getLt (xs := hs) (j := i) (by omega)
      obtain ⟨r, e1, e2⟩ := hh.val i k hk
      rw [e1] at e'
      cases e'
      exact ⟨k, _, by rw [List.getElem?_append_left (by omega)]; exact hk, rfl, e2⟩
    · rw [List.getElem?_append_right (by rw [List.length_map]; omega), List.length_map] at e'
      have hi2 : i = rs.length := by
        have := (List.getElem?_eq_some_iff.mp e').1
        rw [List.length_singleton] at this
        omega
      subst hi2
      rw [Nat.sub_self] at e'
      cases e'
      refine ⟨n, .lw (hs.map W.h), by rw [← hl]; exact at_last, ?_, em⟩
      unfold Cell.up
      dsimp only
      rw [← hl, ups_hl (fun i k e => at_more e)]
def C_related : SC := fun ws m QC => ∃ w : Web, ws = [.t w.t] ∧ m = [] ∧ w.Ok ∧ QC (.h (rels w).length) [] ((rels w).map lC ++ [.lw ((List.range (rels w).length).map W.h)])
theorem ln_related : ∀ ws m Q, C_related ws m Q → ws.length = ["a"].length := by rintro ws m Q ⟨_, rfl, _⟩; rfl
def rd_related : DSt :=
  dSeq (dAsg (dLstW (dNil)) (dgN 1))
  (dSeq (dFor (diR1 (dCons (dN fLen (dCons (d2 fIx (dVar 0) (dC (.int 0))) (dNil))) (dNil))) (dgN 2) (dAsg (d2 fAddW (dVar 1) (dLc finW (diR1 (dCons (d2 fIx (d2 fIx (dVar 0) (dC (.int 0))) (dVar 2)) (dNil))) (dgN 3) (dYes) (dCallH C_relation_at (dCons (dVar 0) (dCons (dVar 2) (dCons (dVar 3) (dNil))))) [3])) (dgN 1)))
  (dRet (d2 fAddW (dVar 1) (dLc finW (diR2 (dCons (dC (.int 1)) (dCons (dN fLen (dCons (d2 fIx (dVar 0) (dC (.int 0))) (dNil))) (dNil)))) (dgN 2) (dYes) (dCallH C_relation_of_calls (dCons (dVar 0) (dCons (dVar 2) (dNil)))) [2]))))

theorem rp_related : ∀ ws m QC, C_related ws m QC → rd_related ⟨FinS m.length QC (.t .non), FinS m.length QC, fun _ => False, fun _ => False⟩ ⟨ws.map some ++ List.replicate (4 - ws.length) none, m.map some⟩ := by
  rintro ws m QC ⟨w, rfl, rfl, hok, hQ⟩
  have hr := hok.1.2.2.2
  have hp := hok.1.2.1
  unfold rd_related Web.t
  walk_at "dl"
  refine ⟨by decide, ?_⟩
  walk_at "dl"
  rw [List.length_map]
  refine ⟨by omega, ?_⟩
  refine forG (List.range w.places.length) (fun k => W.t (natT k)) (fun pre g' => ∃ (o2 o3 : Option W) (hs : List Nat) (n : Nat) (mem : Sto), g' = ⟨[some (.t (.tup [.lst (w.places.map T.int), .lst (w.rows.map Row.t)])), some (.h n), o2, o3], mem⟩ ∧ mem[n]? = some (some (Cell.lw (hs.map W.h))) ∧ HL mem hs (pre.flatMap (rels1 w)))
    (by rw [Int.toNat_natCast, rgW0]; rfl) ⟨_, _, [], 0, _, rfl, rfl, HL.nil⟩ (fun _ _ _ => by trivial) ?_ ?_
  · rintro pre p post hsp g' ⟨o2, o3, hs, n, mem, rfl, em, hh⟩ N hN
    have hpr : p < w.places.length := by
      have : p ∈ List.range w.places.length := by rw [hsp]; simp
      simpa using this
    have hpv := hok.2.1 _ (place_mem hpr)
    obtain ⟨pn, hpn⟩ := toI (i := w.place p) (by omega)
    have hix := place_at (w := w) (i := p) (by omega) (by omega)
    rw [hpn] at hpv hix
    have hr1 : rels1 w p = (List.range pn).map fun x : Nat => relAt w p (x : Int) := by
      unfold rels1
      rw [hpn, Int.toNat_natCast]
    unfold natT
    walk_at "dl"
    refine ⟨by omega, ?_⟩
    refine lcNew (List.range pn) (fun k => W.t (natT k)) (fun x => lC (relAt w p (x : Int))) (by rw [Int.toNat_natCast, rgW0]; rfl) (by rw [List.length_range]; exact lineLe (by omega)) (fun _ => trivial) ?_ ?_
    · intro x hx m Y N2 hY
      unfold natT
      walk_at "dl"
      refine ⟨w, p, x, rfl, hr, hp, ?_⟩
      walk_at "dl"
      exact hY _ rfl
    refine addNew em hh (List.range pn) (fun x : Nat => relAt w p (x : Int)) ?_ fun hs2 n2 mem2 em2 hh2 => ?_
    · have hpl : pre.length < w.places.length := by
        have := congrArg List.length hsp
        rw [List.length_append, List.length_cons, List.length_range] at this
        omega
      have := flat_len (f := rels1 w) (n := 16) (xs := pre) fun q hq => rels1_len hok (List.mem_range.mp (by rw [hsp]; exact List.mem_append_left _ hq))
      rw [List.length_range]
      omega
    walk_at "dl"
    refine hN _ ⟨_, _, hs2, n2, mem2, rfl, em2, ?_⟩
    rw [List.flatMap_append, List.flatMap_cons, List.flatMap_nil, List.append_nil, hr1]
    exact hh2
  · rintro g' ⟨o2, o3, hs, n, mem, rfl, em, hh⟩
    walk_at "dl"
    rw [List.length_map]
    refine ⟨by omega, ?_⟩
    refine lcNew (List.range (w.places.length - 1)) (fun k => W.t (.int (1 + (k : Nat)))) (fun x => lC (relC w (1 + x))) (by rw [show ((w.places.length : Int) - 1).toNat = w.places.length - 1 by omega, rgW_map]) (by rw [List.length_range]; exact lineLe (by omega)) (fun _ => trivial) ?_ ?_
    · intro x hx m Y N2 hY
      walk_at "dl"
      refine ⟨w, 1 + x, by rw [show ((1 + x : Nat) : Int) = 1 + (x : Int) by omega]; rfl, hr, hp, ?_⟩
      walk_at "dl"
      exact hY _ rfl
    refine addNew em hh (List.range (w.places.length - 1)) (fun x => relC w (1 + x)) ?_ fun hs2 n2 mem2 em2 hh2 => ?_
    · have := flat_len (f := rels1 w) (n := 16) (xs := List.range w.places.length) fun p hp => rels1_len hok (by simpa using hp)
      rw [List.length_range] at this ⊢
      omega
    have e : (List.range w.places.length).flatMap (rels1 w) ++ (List.range (w.places.length - 1)).map (fun x => relC w (1 + x)) = rels w := by
      unfold rels
      rw [List.range'_eq_map_range, List.map_map]
      rfl
    rw [e] at hh2
    exact fin_hl em2 hh2 hQ
def C_relations : SC := fun ws m QC => ∃ w : Web, ws = [.t w.t] ∧ m = [] ∧ w.Ok ∧ QC (.h (rels w).length) [] ((rels w).map lC ++ [.lw ((List.range (rels w).length).map W.h)])
theorem ln_relations : ∀ ws m Q, C_relations ws m Q → ws.length = ["a"].length := by rintro ws m Q ⟨_, rfl, _⟩; rfl
theorem cups_l (r : List Nat) : ∀ rs : List (List Int), cups r (rs.map lC) = some (rs.map lC)
  | [] => rfl
  | x :: rs => by
    show (match Cell.up r (lC x), cups r (rs.map lC) with | some w', some ws' => some (w' :: ws') | _, _ => none) = _
    rw [cups_l r rs]
    rfl
theorem cups_app {r : List Nat} : ∀ {as bs as' bs' : List Cell}, cups r as = some as' → cups r bs = some bs' → cups r (as ++ bs) = some (as' ++ bs')
  | [], bs, as', bs', e, e2 => by cases e; exact e2
  | a :: as, bs, as', bs', e, e2 => by
    unfold cups at e
    split at e
    · rename_i w' ws' h1 h2
      cases e
      show (match Cell.up r a, cups r (as ++ bs) with | some w', some ws' => some (w' :: ws') | _, _ => none) = _
      rw [h1, cups_app h2 e2]
      rfl
    · cases e
theorem ups_gen2 {r : List Nat} (f : Nat → Nat) : ∀ ks : List Nat, (∀ k ∈ ks, r[k]? = some (f k)) → ups r (ks.map W.h) = some (ks.map fun k => W.h (f k))
  | [], _ => rfl
  | k :: ks, h => by
    show (match W.up r (.h k), ups r (ks.map W.h) with | some w', some ws' => some (w' :: ws') | _, _ => none) = _
    rw [ups_gen2 f ks fun j hj => h j (List.mem_cons_of_mem _ hj)]
    unfold W.up
    dsimp only
    rw [h k (by simp)]
    rfl
theorem callS_hl {C : SC} {w : Web} {sl : List (Option W)} {mem : Sto} {Q : W → G → Prop} (hC : ∀ QC : W → List Cell → List Cell → Prop, QC (.h (rels w).length) [] ((rels w).map lC ++ [.lw ((List.range (rels w).length).map W.h)]) → C [.t w.t] [] QC)
    (h : Q (.h (mem.length + (rels w).length)) ⟨sl, mem ++ ((rels w).map lC ++ [Cell.lw ((List.range (rels w).length).map fun j => W.h (mem.length + j))]).map some⟩) : callS C [.t w.t] ⟨sl, mem⟩ Q := by
  refine ⟨[], [], [.t w.t], List.nodup_nil, rfl, rfl, fun i c e => by simp at e, hC _ ?_⟩
  have hlen : ((rels w).map lC ++ [Cell.lw ((List.range (rels w).length).map W.h)]).length = (rels w).length + 1 := by rw [List.length_append, List.length_map]; rfl
  rw [hlen]
  have e1 : ∀ j, j < (rels w).length + 1 → (([] : List Nat) ++ (List.range ((rels w).length + 1)).map (mem.length + ·))[j]? = some (mem.length + j) := fun j hj => by
    rw [List.nil_append, List.getElem?_map, List.getElem?_range hj]
    rfl
  refine ⟨.h (mem.length + (rels w).length), [], _, ?_, rfl, cups_app (cups_l _ _) (bs' := [Cell.lw ((List.range (rels w).length).map fun j => W.h (mem.length + j))]) ?_, h⟩
  · unfold W.up
    dsimp only
    rw [e1 _ (by omega)]
  · have e2 := ups_gen2 (r := ([] : List Nat) ++ (List.range ((rels w).length + 1)).map (mem.length + ·)) (mem.length + ·) (List.range (rels w).length) fun k hk => e1 k (by have := List.mem_range.mp hk; omega)
    show (match Cell.up _ (Cell.lw _), cups _ [] with | some w', some ws' => some (w' :: ws') | _, _ => none) = _
    unfold Cell.up
    dsimp only
    rw [e2]
    rfl
theorem hl_new (mem : Sto) (rs : List (List Int)) : (mem ++ (rs.map lC ++ [Cell.lw ((List.range rs.length).map fun j => W.h (mem.length + j))]).map some)[mem.length + rs.length]? = some (some (Cell.lw (((List.range rs.length).map (mem.length + ·)).map W.h))) ∧ HL (mem ++ (rs.map lC ++ [Cell.lw ((List.range rs.length).map fun j => W.h (mem.length + j))]).map some) ((List.range rs.length).map (mem.length + ·)) rs := by
  have h := (HL.nil (mem := mem)).add rs
  rw [List.nil_append, List.nil_append] at h
  rw [List.map_append, List.map_map, ← List.append_assoc]
  refine ⟨?_, h.grow⟩
  rw [List.getElem?_append_right (by rw [List.length_append, List.length_map]; omega), List.length_append, List.length_map, Nat.sub_self, List.map_map]
  rfl
def rd_relations : DSt :=
  dSeq (dDrop (dCallT C_must_be_web (dCons (dVar 0) (dNil))))
  (dRet (dCallS C_related (dCons (dVar 0) (dNil))))

theorem rp_relations : ∀ ws m QC, C_relations ws m QC → rd_relations ⟨FinS m.length QC (.t .non), FinS m.length QC, fun _ => False, fun _ => False⟩ ⟨ws.map some ++ List.replicate (1 - ws.length) none, m.map some⟩ := by
  rintro ws m QC ⟨w, rfl, rfl, hok, hQ⟩
  unfold rd_relations
  walk_at "dl"
  refine ⟨w, rfl, hok, ?_⟩
  walk_at "dl"
  refine callS_hl (fun QC h => ⟨w, rfl, rfl, hok, h⟩) ?_
  show FinS 0 QC _ _
  obtain ⟨h1, h2⟩ := hl_new [] (rels w)
  exact fin_hl h1 h2 hQ

end DL

namespace DL
open PySem PySem.Spec L2
local macro_rules | `(tactic| walk_at "dn") => `(tactic| simp only [purse_set2, purse_set3, purse_set4, purse_set5, purse_app, purse_len, purse_start, purse_l, G.set, G.put, G.push, G.wipe, wipeW, G.rs, rsW, List.set_cons_zero, List.set_cons_succ, List.map_cons, List.map_nil, List.length_cons, List.length_nil, List.nil_append, List.cons_append, List.replicate_succ, List.replicate_zero, Nat.reduceAdd, Nat.reduceSub, List.getD_cons_zero, List.getD_cons_succ, Option.getD_some, Option.getD_none])
local macro_rules | `(tactic| walk_at "d1") => `(tactic| first
  | with_reducible refine i_seq ?_
  | with_reducible refine i_asg ?_
  | with_reducible refine i_d2 ?_
  | ((with_reducible refine' i_var ?e ?_); (case e => rfl))
  | with_reducible refine i_c ?_
  | ((with_reducible refine' i_ix ?e ?v ?_); (case e => rfl); (case v => first | assumption | rfl))
  | with_reducible refine i_fI0 ?_
  | with_reducible refine i_gN ?_
  | with_reducible refine i_cons ?_
  | with_reducible refine i_nil ?_
  | with_reducible refine i_dN ?_
  | ((with_reducible refine' i_len ?e ?_); (case e => rfl))
  | with_reducible refine i_d1 ?_
  | with_reducible refine i_neg ?_
  | with_reducible refine i_B ?_
  | with_reducible refine o_B ?_
  | with_reducible refine o_I ?_
  | with_reducible refine i_ifS ?_
  | with_reducible refine i_or ?_
  | with_reducible refine i_and ?_
  | with_reducible refine i_not ?_
  | with_reducible refine i_andV ?_
  | with_reducible refine i_orV ?_
  | with_reducible refine i_notV ?_
  | with_reducible refine i_if ?_
  | with_reducible refine i_yes ?_
  | with_reducible refine k_T ?_
  | with_reducible refine k_F ?_
  | with_reducible refine k_True ?_
  | with_reducible refine k_False ?_
  | with_reducible refine i_eqI ?_
  | with_reducible refine i_neI ?_
  | with_reducible refine i_addI ?_
  | with_reducible refine i_addHI ?_
  | with_reducible refine i_callT ?_
  | with_reducible refine i_callH ?_
  | ((with_reducible refine' o_Ts ?e ?_); (case e => rfl))
  | with_reducible refine o_T ?_
  | ((with_reducible refine' o_TF ?e ?_); (case e => rfl))
  | with_reducible refine o_H ?_
  | ((with_reducible refine' o_HF ?e ?_); (case e => rfl))
  | with_reducible refine i_next ?_
  | with_reducible refine i_drop ?_
  | with_reducible refine i_ret ?_
  | with_reducible refine i_retN ?_
  | ((with_reducible refine' i_gTup ?e ?_); (case e => rfl))
  | with_reducible refine i_gCons ?_
  | with_reducible refine i_gNil ?_
  | with_reducible refine i_min2 ?_
  | with_reducible refine i_max2 ?_
  | with_reducible refine i_par ?_
  | with_reducible refine o_W2 ?_
  | ((with_reducible refine' i_aug ?e ?_); (case e => rfl))
  | with_reducible refine i_intI ?_
  | with_reducible refine i_intB ?_
  | with_reducible refine i_lc ?_
  | with_reducible refine i_for ?_
  | with_reducible refine i_while ?_
  | with_reducible refine i_itL ?_
  | ((with_reducible refine' o_Lq ?e ?_); (case e => rfl))
  | with_reducible refine i_itR1 ?_
  | with_reducible refine i_itR2 ?_
  | with_reducible refine o_I1 ?_
  | with_reducible refine o_I2 ?_
  | with_reducible refine e_t ?_
  | ((with_reducible refine' e_h ?e ?p ?_); (case e => rfl); (case p => rfl))
  | with_reducible refine i_M ?_
  | with_reducible refine i_M0 ?_
  | with_reducible refine i_gSub ?_
  | with_reducible refine i_finH ?_
  | with_reducible refine i_finT ?_
  | with_reducible refine i_sl ?_
  | with_reducible refine i_slH ?_
  | with_reducible refine i_slT ?_
  | with_reducible refine i_noPart ?_
  | with_reducible refine i_part ?_
  | ((with_reducible refine' i_frzT ?e ?_); (case e => rfl))
  | ((with_reducible refine' i_frzH ?e ?m ?t ?_); (case e => rfl); (case m => rfl); (case t => rfl))
  | ((with_reducible refine' i_din ?k ?e ?_); (case k => rfl); (case e => rfl))
  | ((with_reducible refine' i_dnotin ?k ?e ?_); (case k => rfl); (case e => rfl))
  | with_reducible refine i_dput ?_
  | with_reducible refine i_newD ?_
  | with_reducible refine i_lstH ?_
  | with_reducible refine i_lst ?_
  | with_reducible refine i_tup ?_
  | with_reducible refine i_break ?_
  | with_reducible refine i_cont ?_
  | with_reducible refine i_callS ?_
  | ((with_reducible refine' i_ixHW ?e ?v ?_); (case e => first | rfl | assumption); (case v => first | assumption | rfl))
  | ((with_reducible refine' i_ixHT ?e ?v ?_); (case e => first | rfl | assumption); (case v => first | assumption | rfl))
  | ((with_reducible refine' i_lenHT ?e ?_); (case e => first | rfl | assumption))
  | ((with_reducible refine' i_lenHW ?e ?_); (case e => first | rfl | assumption))
  | ((with_reducible refine' i_frzH ?e ?m ?t ?_); (case e => rfl); (case m => rfl); (case t => rfl))
  | ((with_reducible refine' i_unw ?e ?n ?_); (case e => rfl); (case n => rfl))
  | with_reducible refine i_gwCons ?_
  | with_reducible refine i_gwNil ?_
  | with_reducible refine i_lstW ?_
  | ((with_reducible refine' i_gList ?e ?n ?_); (case e => rfl); (case n => rfl))
  | with_reducible refine i_listRgH ?_
  | with_reducible refine i_listRg ?_
  | with_reducible refine i_R1 ?_
  | with_reducible refine i_getD ?_
  | ((with_reducible refine' i_none ?k ?_); (case k => rfl))
  | walk_at "dn")
local macro_rules | `(tactic| walk_at "dl") => `(tactic| ((try walk_at "dn"); repeat walk_at "d1"))
/-! the law's own relations -/
def lawRow (p : Nat) (x : Int) (r : Row) : Int := (bI (decide (r.e = x)) - bI (decide (r.s = x))) * bI (decide (r.p = p))
theorem lawRow_eq (p : Nat) (x : Int) (r : Row) : lawRow p x r = relRow p x r := by
  unfold lawRow relRow
  by_cases h : r.p = p
  · rw [decide_eq_true h, Bool.true_and, Bool.true_and]
    show _ * (1 : Int) = _
    omega
  · rw [decide_eq_false h, Bool.false_and, Bool.false_and]
    show _ * (0 : Int) = 0 - 0
    omega
def C__law_every : PC := fun ts Q => ∃ w : Web, ts = [w.t] ∧ w.Ok ∧ Q (.f (.lt ((rels w).map runT)))
theorem ln__law_every : ∀ ts Q, C__law_every ts Q → ts.length = ["a"].length := by rintro ts Q ⟨_, rfl, _⟩; rfl
def rd__law_every : DSt :=
  dSeq (dAsg (dLstH (dNil)) (dgN 1))
  (dSeq (dFor (diR1 (dCons (dN fLen (dCons (d2 fIx (dVar 0) (dC (.int 0))) (dNil))) (dNil))) (dgN 2) (dFor (diR1 (dCons (d2 fIx (d2 fIx (dVar 0) (dC (.int 0))) (dVar 2)) (dNil))) (dgN 3) (dSeq (dAsg (dLstH (dNil)) (dgN 4))
  (dSeq (dFor (diL (d2 fIx (dVar 0) (dC (.int 1)))) (dgN 5) (dSeq (dAsg (d2 (fI0 fun i j => .int (i - j)) (dN fInt (dCons (d2 (fEq false) (d2 fIx (dVar 5) (dC (.int 2))) (dVar 3)) (dNil))) (dN fInt (dCons (d2 (fEq false) (d2 fIx (dVar 5) (dC (.int 1))) (dVar 3)) (dNil)))) (dgN 6))
  (dDrop (dM fAppend (dVar 4) (dCons (d2 (fI IntMulOk fun i j => .int (i * j)) (dVar 6) (dN fInt (dCons (d2 (fEq false) (d2 fIx (dVar 5) (dC (.int 0))) (dVar 2)) (dNil)))) (dNil))))))
  (dSeq (dFor (diR1 (dCons (dN fLen (dCons (d2 fIx (dVar 0) (dC (.int 0))) (dNil))) (dNil))) (dgN 7) (dDrop (dM fAppend (dVar 4) (dCons (d2 (fI IntMulOk fun i j => .int (i * j)) (dN fInt (dCons (d2 (fEq false) (dVar 7) (dVar 2)) (dNil))) (d2 (fI0 fun i j => .int (i - j)) (dN fInt (dCons (d2 (fEq false) (dVar 3) (dC (.int 0))) (dNil))) (dN fInt (dCons (d2 (fEq false) (dVar 3) (dC (.int 1))) (dNil))))) (dNil)))))
  (dDrop (dM fAppend (dVar 1) (dCons (dFrz 4) (dNil)))))))))
  (dSeq (dFor (diR2 (dCons (dC (.int 1)) (dCons (dN fLen (dCons (d2 fIx (dVar 0) (dC (.int 0))) (dNil))) (dNil)))) (dgN 2) (dDrop (dM fAppend (dVar 1) (dCons (d2 fAdd (dLc finT (diL (d2 fIx (dVar 0) (dC (.int 1)))) (dgN 5) (dYes) (dN fInt (dCons (d2 (fEq false) (d2 fIx (dVar 5) (dC (.int 3))) (dVar 2)) (dNil))) [5]) (dLc finT (diR1 (dCons (dN fLen (dCons (d2 fIx (dVar 0) (dC (.int 0))) (dNil))) (dNil))) (dgN 7) (dYes) (d2 (fI0 fun i j => .int (i - j)) (dC (.int 0)) (dN fInt (dCons (d2 (fEq false) (dVar 7) (dVar 2)) (dNil)))) [7])) (dNil)))))
  (dRet (dVar 1))))

theorem rp__law_every : ∀ ts Q, C__law_every ts Q → rd__law_every ⟨FinP Q (.t .non), FinP Q, fun _ => False, fun _ => False⟩ ⟨ts.map (fun t => some (W.t t)) ++ List.replicate (8 - ts.length) none, []⟩ := by
  rintro ts Q ⟨w, rfl, hok, hQ⟩
  have hr := hok.1.2.2.2
  have hp := hok.1.2.1
  unfold rd__law_every Web.t
  walk_at "dl"
  refine ⟨by decide, ?_⟩
  walk_at "dl"
  rw [List.length_map]
  refine ⟨by omega, ?_⟩
  refine forG (List.range w.places.length) (fun k => W.t (natT k)) (fun pre g' => ∃ (o2 o3 o4 o5 o6 o7 : Option W) (mem : Sto), g' = ⟨[some (.t (.tup [.lst (w.places.map T.int), .lst (w.rows.map Row.t)])), some (.h 0), o2, o3, o4, o5, o6, o7], mem⟩ ∧ mem[0]? = some (some (.lt ((pre.flatMap (rels1 w)).map runT))))
    (by rw [Int.toNat_natCast, rgW0]; rfl) ⟨_, _, _, _, _, _, _, rfl, rfl⟩ (fun _ _ _ => by trivial) ?_ ?_
  · rintro pre p post hsp g' ⟨o2, o3, o4, o5, o6, o7, mem, rfl, em⟩ N hN
    have hpr : p < w.places.length := List.mem_range.mp (by rw [hsp]; simp)
    have hplr : pre.length < w.places.length := by
      have := congrArg List.length hsp
      rw [List.length_append, List.length_cons, List.length_range] at this
      omega
    have hfl : (pre.flatMap (rels1 w)).length ≤ 16 * pre.length := flat_len (f := rels1 w) (n := 16) (xs := pre) fun q hq => rels1_len hok (List.mem_range.mp (by rw [hsp]; exact List.mem_append_left _ hq))
    have hpv := hok.2.1 _ (place_mem hpr)
    obtain ⟨pn, hpn⟩ := toI (i := w.place p) (by omega)
    have hix := place_at (w := w) (i := p) (by omega) (by omega)
    rw [hpn] at hpv hix
    have hr1 : rels1 w p = (List.range pn).map fun x : Nat => relAt w p (x : Int) := by
      unfold rels1
      rw [hpn, Int.toNat_natCast]
    unfold natT
    walk_at "dl"
    refine ⟨by omega, ?_⟩
    refine forG (List.range pn) (fun k => W.t (natT k)) (fun pre2 g' => ∃ (o3 o4 o5 o6 o7 : Option W) (mem : Sto), g' = ⟨[some (.t (.tup [.lst (w.places.map T.int), .lst (w.rows.map Row.t)])), some (.h 0), some (.t (.int p)), o3, o4, o5, o6, o7], mem⟩ ∧ mem[0]? = some (some (.lt ((pre.flatMap (rels1 w) ++ pre2.map fun x : Nat => relAt w p (x : Int)).map runT))))
      (by rw [Int.toNat_natCast, rgW0]; rfl) ⟨_, _, _, _, _, _, rfl, by rw [List.map_nil, List.append_nil]; exact em⟩ (fun _ _ _ => by trivial) ?_ ?_
    · rintro pre2 x post2 hsp2 g2 ⟨p3, p4, p5, p6, p7, mem2, rfl, em2⟩ N2 hN2
      have hxl : pre2.length < pn := by
        have := congrArg List.length hsp2
        rw [List.length_append, List.length_cons, List.length_range] at this
        omega
      have h0 := (List.getElem?_eq_some_iff.mp em2).1
      unfold natT
      walk_at "dl"
      refine ⟨by decide, ?_⟩
      walk_at "dl"
      have e0 : (mem2 ++ [some (Cell.lt [])])[0]? = mem2[0]? := List.getElem?_append_left h0
      refine forG w.rows (fun r => W.t r.t) (fun pre3 g' => ∃ (o5 o6 o7 : Option W) (mem : Sto), g' = ⟨[some (.t (.tup [.lst (w.places.map T.int), .lst (w.rows.map Row.t)])), some (.h 0), some (.t (.int p)), some (.t (.int x)), some (.h mem2.length), o5, o6, o7], mem⟩ ∧ mem[0]? = mem2[0]? ∧ mem[mem2.length]? = some (some (.lt ((pre3.map (relRow p x)).map T.int))))
        (by rw [List.map_map]; rfl) ⟨_, _, _, _, rfl, e0, at_last⟩ (fun _ _ z => by obtain ⟨_, _, _, _, rfl, _⟩ := z; rfl) ?_ ?_
      · rintro pre3 r post3 hsp3 g3 ⟨q5, q6, q7, mem3, rfl, em3, el3⟩ N3 hN3
        have hpl : pre3.length < w.rows.length := by
          have := congrArg List.length hsp3
          rw [List.length_append, List.length_cons] at this
          omega
        unfold Row.t
        walk_at "dl"
        refine ⟨isL_lt el3, ?_⟩
        walk_at "dl"
        refine i_fI (mulR (by split <;> decide) (by split <;> decide)) ?_
        walk_at "dl"
        refine i_append el3 (lineLt (by rw [List.length_map, List.length_map]; omega)) ?_
        rw [bI_if, bI_if, bI_if]
        have e5 : (bI (decide (r.e = (x : Int))) - bI (decide (r.s = (x : Int)))) * bI (decide (r.p = (p : Int))) = relRow p x r := lawRow_eq p x r
        rw [e5]
        simp only [G.put]
        refine hN3 _ ⟨_, _, _, _, rfl, ?_, ?_⟩
        · rw [List.getElem?_set_ne (by omega)]
          exact em3
        · rw [List.map_append, List.map_append]
          exact List.getElem?_set_self (List.getElem?_eq_some_iff.mp el3).1
      · rintro g3 ⟨q5, q6, q7, mem3, rfl, em3, el3⟩
        walk_at "dl"
        rw [List.length_map]
        refine ⟨by omega, ?_⟩
        refine forG (List.range w.places.length) (fun k => W.t (natT k)) (fun pre4 g' => ∃ (o5 o6 o7 : Option W) (mem : Sto), g' = ⟨[some (.t (.tup [.lst (w.places.map T.int), .lst (w.rows.map Row.t)])), some (.h 0), some (.t (.int p)), some (.t (.int x)), some (.h mem2.length), o5, o6, o7], mem⟩ ∧ mem[0]? = mem2[0]? ∧ mem[mem2.length]? = some (some (.lt ((w.rows.map (relRow p x) ++ pre4.map fun o : Nat => relBeg x * bI (decide ((o : Int) = p))).map T.int))))
          (by rw [Int.toNat_natCast, rgW0]; rfl) ⟨_, _, _, _, rfl, em3, by rw [List.map_nil, List.append_nil]; exact el3⟩ (fun _ _ _ => by trivial) ?_ ?_
        · rintro pre4 o post4 hsp4 g4 ⟨s5, s6, s7, mem4, rfl, em4, el4⟩ N4 hN4
          have hol : pre4.length < w.places.length := by
            have := congrArg List.length hsp4
            rw [List.length_append, List.length_cons, List.length_range] at this
            omega
          unfold natT
          walk_at "dl"
          refine ⟨isL_lt el4, ?_⟩
          walk_at "dl"
          refine i_fI (mulL (by split <;> decide) (by split <;> decide)) ?_
          walk_at "dl"
          refine i_append el4 (lineLt (by rw [List.length_map, List.length_append, List.length_map, List.length_map]; omega)) ?_
          rw [bI_if, bI_if, bI_if]
          have e5 : bI (decide ((o : Int) = (p : Int))) * (bI (decide ((x : Int) = 0)) - bI (decide ((x : Int) = 1))) = relBeg x * bI (decide ((o : Int) = p)) := Int.mul_comm _ _
          rw [e5]
          simp only [G.put]
          refine hN4 _ ⟨_, _, _, _, rfl, ?_, ?_⟩
          · rw [List.getElem?_set_ne (by omega)]
            exact em4
          · rw [List.map_append (l₁ := pre4), ← List.append_assoc, List.map_append (l₂ := List.map _ [o])]
            exact List.getElem?_set_self (List.getElem?_eq_some_iff.mp el4).1
        · rintro g4 ⟨s5, s6, s7, mem4, rfl, em4, el4⟩
          have e6 : w.rows.map (relRow p x) ++ (List.range w.places.length).map (fun o : Nat => relBeg x * bI (decide ((o : Int) = p))) = relAt w p x := rfl
          rw [e6] at el4
          rw [em2] at em4
          walk_at "dl"
          refine ⟨isL_lt em4, ?_⟩
          refine i_cons ?_
          refine i_frzH rfl el4 rfl ?_
          have n0 : ¬ (0 = mem2.length) := by omega
          unfold G.frz
          simp only [List.map_cons, List.map_nil, frzW, if_true, if_neg n0]
          have em5 : (mem4.set mem2.length none)[0]? = some (some (.lt ((pre.flatMap (rels1 w) ++ pre2.map fun x : Nat => relAt w p (x : Int)).map runT))) := by
            rw [List.getElem?_set_ne (by omega)]
            exact em4
          walk_at "dl"
          refine i_append em5 (lineLt (by rw [List.length_map, List.length_append, List.length_map]; omega)) ?_
          simp only [G.put]
          refine hN2 _ ⟨_, _, _, _, _, _, rfl, ?_⟩
          rw [List.map_append (l₁ := pre2), ← List.append_assoc, List.map_append (l₂ := List.map _ [x])]
          exact List.getElem?_set_self (List.getElem?_eq_some_iff.mp em5).1
    · rintro g2 ⟨p3, p4, p5, p6, p7, mem2, rfl, em2⟩
      refine hN _ ⟨_, _, _, _, _, _, mem2, rfl, ?_⟩
      rw [List.flatMap_append, List.flatMap_cons, List.flatMap_nil, List.append_nil, hr1]
      exact em2
  · rintro g' ⟨o2, o3, o4, o5, o6, o7, mem, rfl, em⟩
    walk_at "dl"
    rw [List.length_map]
    refine ⟨by omega, ?_⟩
    have hfl : ((List.range w.places.length).flatMap (rels1 w)).length ≤ 16 * (List.range w.places.length).length := flat_len (f := rels1 w) (n := 16) fun q hq => rels1_len hok (List.mem_range.mp hq)
    rw [List.length_range] at hfl
    refine forG (List.range (w.places.length - 1)) (fun k => W.t (.int (1 + (k : Nat)))) (fun pre g' => ∃ (o2 o3 o4 o5 o6 o7 : Option W) (mem : Sto), g' = ⟨[some (.t (.tup [.lst (w.places.map T.int), .lst (w.rows.map Row.t)])), some (.h 0), o2, o3, o4, o5, o6, o7], mem⟩ ∧ mem[0]? = some (some (.lt (((List.range w.places.length).flatMap (rels1 w) ++ pre.map fun x => relC w (1 + x)).map runT))))
      (by rw [show ((w.places.length : Int) - 1).toNat = w.places.length - 1 by omega, rgW_map]) ⟨_, _, _, _, _, _, _, rfl, by rw [List.map_nil, List.append_nil]; exact em⟩ (fun _ _ _ => by trivial) ?_ ?_
    · rintro pre x post hsp g2 ⟨p2, p3, p4, p5, p6, p7, mem2, rfl, em2⟩ N hN
      have hxl : pre.length < w.places.length := by
        have := congrArg List.length hsp
        rw [List.length_append, List.length_cons, List.length_range] at this
        omega
      walk_at "dl"
      refine ⟨isL_lt em2, ?_⟩
      walk_at "dl"
      refine lcP w.rows (fun r => W.t r.t) (fun _ => true) (fun r => T.int (bI (decide (r.c = ((1 + x : Nat) : Int))))) (by rw [List.map_map]; rfl) (lineLe (by omega)) rfl ?_ rfl ?_
      · intro r hr Y N2 hY hN2
        unfold Row.t
        walk_at "dl"
        rw [bI_if, show (1 : Int) + (x : Int) = ((1 + x : Nat) : Int) by omega]
        exact hY rfl _ rfl
      rw [List.filter_eq_self.mpr (fun _ _ => rfl)]
      walk_at "dl"
      rw [List.length_map]
      refine ⟨by omega, ?_⟩
      refine lcP (List.range w.places.length) (fun k => W.t (natT k)) (fun _ => true) (fun o => T.int (0 - bI (decide ((o : Int) = ((1 + x : Nat) : Int))))) (by rw [Int.toNat_natCast, rgW0]; rfl) (by rw [List.length_range]; exact lineLe (by omega)) trivial ?_ rfl ?_
      · intro o ho Y N2 hY hN2
        unfold natT
        walk_at "dl"
        rw [bI_if, show (1 : Int) + (x : Int) = ((1 + x : Nat) : Int) by omega]
        exact hY rfl _ rfl
      rw [List.filter_eq_self.mpr (fun _ _ => rfl)]
      walk_at "dl"
      refine i_addL (xs := w.rows.map fun r => T.int (bI (decide (r.c = ((1 + x : Nat) : Int))))) (ys := (List.range w.places.length).map fun o : Nat => T.int (0 - bI (decide ((o : Int) = ((1 + x : Nat) : Int))))) rfl rfl (lineLe (by rw [List.length_map, List.length_map, List.length_range]; omega)) ?_
      have e : (w.rows.map fun r => T.int (bI (decide (r.c = ((1 + x : Nat) : Int))))) ++ ((List.range w.places.length).map fun o : Nat => T.int (0 - bI (decide ((o : Int) = ((1 + x : Nat) : Int))))) = (relC w (1 + x)).map T.int := by
        unfold relC
        rw [List.map_append, List.map_map, List.map_map]
        rfl
      rw [e]
      walk_at "dl"
      refine i_append em2 (lineLt (by rw [List.length_map, List.length_append, List.length_map]; omega)) ?_
      simp only [G.put]
      refine hN _ ⟨_, _, _, _, _, _, _, rfl, ?_⟩
      rw [List.map_append (l₁ := pre), ← List.append_assoc, List.map_append (l₂ := List.map _ [x])]
      exact List.getElem?_set_self (List.getElem?_eq_some_iff.mp em2).1
    · rintro g2 ⟨p2, p3, p4, p5, p6, p7, mem2, rfl, em2⟩
      have e : (List.range w.places.length).flatMap (rels1 w) ++ (List.range (w.places.length - 1)).map (fun x => relC w (1 + x)) = rels w := by
        unfold rels
        rw [List.range'_eq_map_range, List.map_map]
        rfl
      rw [e] at em2
      walk_at "dl"
      exact e_h em2 rfl hQ

end DL

namespace DL
open PySem PySem.Spec L2
local macro_rules | `(tactic| walk_at "dn") => `(tactic| simp only [purse_set2, purse_set3, purse_set4, purse_set5, purse_app, purse_len, purse_start, purse_l, G.set, G.put, G.push, G.wipe, wipeW, G.rs, rsW, List.set_cons_zero, List.set_cons_succ, List.map_cons, List.map_nil, List.length_cons, List.length_nil, List.nil_append, List.cons_append, List.replicate_succ, List.replicate_zero, Nat.reduceAdd, Nat.reduceSub, List.getD_cons_zero, List.getD_cons_succ, Option.getD_some, Option.getD_none])
local macro_rules | `(tactic| walk_at "d1") => `(tactic| first
  | with_reducible refine i_seq ?_
  | with_reducible refine i_asg ?_
  | with_reducible refine i_d2 ?_
  | ((with_reducible refine' i_var ?e ?_); (case e => rfl))
  | with_reducible refine i_c ?_
  | ((with_reducible refine' i_ix ?e ?v ?_); (case e => rfl); (case v => first | assumption | rfl))
  | with_reducible refine i_fI0 ?_
  | with_reducible refine i_gN ?_
  | with_reducible refine i_cons ?_
  | with_reducible refine i_nil ?_
  | with_reducible refine i_dN ?_
  | ((with_reducible refine' i_len ?e ?_); (case e => rfl))
  | with_reducible refine i_d1 ?_
  | with_reducible refine i_neg ?_
  | with_reducible refine i_B ?_
  | with_reducible refine o_B ?_
  | with_reducible refine o_I ?_
  | with_reducible refine i_ifS ?_
  | with_reducible refine i_or ?_
  | with_reducible refine i_and ?_
  | with_reducible refine i_not ?_
  | with_reducible refine i_andV ?_
  | with_reducible refine i_orV ?_
  | with_reducible refine i_notV ?_
  | with_reducible refine i_if ?_
  | with_reducible refine i_yes ?_
  | with_reducible refine k_T ?_
  | with_reducible refine k_F ?_
  | with_reducible refine k_True ?_
  | with_reducible refine k_False ?_
  | with_reducible refine i_eqI ?_
  | with_reducible refine i_neI ?_
  | with_reducible refine i_addI ?_
  | with_reducible refine i_addHI ?_
  | with_reducible refine i_callT ?_
  | with_reducible refine i_callH ?_
  | ((with_reducible refine' o_Ts ?e ?_); (case e => rfl))
  | with_reducible refine o_T ?_
  | ((with_reducible refine' o_TF ?e ?_); (case e => rfl))
  | with_reducible refine o_H ?_
  | ((with_reducible refine' o_HF ?e ?_); (case e => rfl))
  | with_reducible refine i_next ?_
  | with_reducible refine i_drop ?_
  | with_reducible refine i_ret ?_
  | with_reducible refine i_retN ?_
  | ((with_reducible refine' i_gTup ?e ?_); (case e => rfl))
  | with_reducible refine i_gCons ?_
  | with_reducible refine i_gNil ?_
  | with_reducible refine i_min2 ?_
  | with_reducible refine i_max2 ?_
  | with_reducible refine i_par ?_
  | with_reducible refine o_W2 ?_
  | ((with_reducible refine' i_aug ?e ?_); (case e => rfl))
  | with_reducible refine i_intI ?_
  | with_reducible refine i_intB ?_
  | with_reducible refine i_lc ?_
  | with_reducible refine i_for ?_
  | with_reducible refine i_while ?_
  | with_reducible refine i_itL ?_
  | ((with_reducible refine' o_Lq ?e ?_); (case e => rfl))
  | with_reducible refine i_itR1 ?_
  | with_reducible refine i_itR2 ?_
  | with_reducible refine o_I1 ?_
  | with_reducible refine o_I2 ?_
  | with_reducible refine e_t ?_
  | ((with_reducible refine' e_h ?e ?p ?_); (case e => rfl); (case p => rfl))
  | with_reducible refine i_M ?_
  | with_reducible refine i_M0 ?_
  | with_reducible refine i_gSub ?_
  | with_reducible refine i_finH ?_
  | with_reducible refine i_finT ?_
  | with_reducible refine i_sl ?_
  | with_reducible refine i_slH ?_
  | with_reducible refine i_slT ?_
  | with_reducible refine i_noPart ?_
  | with_reducible refine i_part ?_
  | ((with_reducible refine' i_frzT ?e ?_); (case e => rfl))
  | ((with_reducible refine' i_frzH ?e ?m ?t ?_); (case e => rfl); (case m => rfl); (case t => rfl))
  | ((with_reducible refine' i_din ?k ?e ?_); (case k => rfl); (case e => rfl))
  | ((with_reducible refine' i_dnotin ?k ?e ?_); (case k => rfl); (case e => rfl))
  | with_reducible refine i_dput ?_
  | with_reducible refine i_newD ?_
  | with_reducible refine i_lstH ?_
  | with_reducible refine i_lst ?_
  | with_reducible refine i_tup ?_
  | with_reducible refine i_break ?_
  | with_reducible refine i_cont ?_
  | with_reducible refine i_callS ?_
  | ((with_reducible refine' i_ixHW ?e ?v ?_); (case e => first | rfl | assumption); (case v => first | assumption | rfl))
  | ((with_reducible refine' i_ixHT ?e ?v ?_); (case e => first | rfl | assumption); (case v => first | assumption | rfl))
  | ((with_reducible refine' i_lenHT ?e ?_); (case e => first | rfl | assumption))
  | ((with_reducible refine' i_lenHW ?e ?_); (case e => first | rfl | assumption))
  | ((with_reducible refine' i_frzH ?e ?m ?t ?_); (case e => rfl); (case m => rfl); (case t => rfl))
  | ((with_reducible refine' i_unw ?e ?n ?_); (case e => rfl); (case n => rfl))
  | with_reducible refine i_gwCons ?_
  | with_reducible refine i_gwNil ?_
  | with_reducible refine i_lstW ?_
  | ((with_reducible refine' i_gList ?e ?n ?_); (case e => rfl); (case n => rfl))
  | with_reducible refine i_listRgH ?_
  | with_reducible refine i_listRg ?_
  | with_reducible refine i_R1 ?_
  | with_reducible refine i_getD ?_
  | ((with_reducible refine' i_none ?k ?_); (case k => rfl))
  | walk_at "dn")
local macro_rules | `(tactic| walk_at "dl") => `(tactic| ((try walk_at "dn"); repeat walk_at "d1"))
/-! the law of relations -/
theorem tally_some {w : Web} : ∀ (bs as : List (List Int)) (xs : List Int), tally w as = some xs → (∀ r ∈ bs, stk w r = some []) → ∃ ys, tally w (as ++ bs) = some ys := by
  intro bs
  induction bs with
  | nil => intro as xs e _; exact ⟨xs, by rw [List.append_nil]; exact e⟩
  | cons b bs ih =>
    intro as xs e h
    rw [show as ++ b :: bs = (as ++ [b]) ++ bs by simp]
    refine ih (as ++ [b]) (tlyR w xs b) ?_ fun r hr => h r (List.mem_cons_of_mem _ hr)
    rw [tally_snoc, e]
    show (if stk w b = some [] then some (tlyR w xs b) else none) = _
    rw [if_pos (h b (by simp))]
theorem tyN_hw {g : G} {n : Nat} {us : List W} (em : g.mem[n]? = some (some (.lw us))) : g.tyN (.h n) = some "list" := by unfold G.tyN; dsimp only; rw [em]
theorem treeD_hl {sl : List (Option W)} {mem : Sto} {hs : List Nat} {rs : List (List Int)} {n : Nat} (em : mem[n]? = some (some (Cell.lw (hs.map W.h)))) (hh : HL mem hs rs) : (⟨sl, mem⟩ : G).treeD 6 (.h n) = some (hT rs) := by
  have e : (hs.map W.h).map ((⟨sl, mem⟩ : G).treeD 5) = (rs.map runT).map some := by
    refine List.ext_getElem? fun i => ?_
    rw [List.getElem?_map, List.getElem?_map, List.getElem?_map, List.getElem?_map]
    cases e1 : hs[i]? with
    | none =>
      rw [List.getElem?_eq_none (by rw [← hh.len]; exact List.getElem?_eq_none_iff.mp e1)]
      rfl
    | some h =>
      obtain ⟨r, e2, e3⟩ := hh.val i h e1
      rw [e2]
      show some ((⟨sl, mem⟩ : G).treeD 5 (.h h)) = some (some (runT r))
      unfold G.treeD
      dsimp only
      rw [e3]
      rfl
  unfold G.treeD
  dsimp only
  rw [em]
  dsimp only
  rw [e, allS_map]
  rfl
def rd_law : DSt :=
  dSeq (dAsg (d2 fIx (dLst (dCons (dTup (dCons (dC (.int 4)) (dCons (dC (.int 6)) (dNil)))) (dCons (dTup (dCons (dC (.int 1)) (dCons (dC (.int 14)) (dNil)))) (dNil)))) (dCallS C__law_draw (dCons (dCallH C__law_left (dCons (dVar 0) (dCons (dC (.int 5)) (dNil)))) (dCons (dC (.int 2)) (dNil))))) (dgTup 2 (dgCons (dgN 1) (dgCons (dgN 2) (dgNil)))))
  (dSeq (dAsg (dCallS C__law_web (dCons (dVar 0) (dCons (dVar 1) (dCons (dVar 2) (dNil))))) (dgN 3))
  (dSeq (dAsg (dCallT C__law_tally (dCons (dVar 3) (dCons (dCallT C__law_heap (dCons (dVar 0) (dCons (dC (.int 6)) (dCons (dVar 3) (dCons (dC (.int 5)) (dCons (dC (.int 25)) (dNil))))))) (dNil)))) (dgN 4))
  (dSeq (dAsg (dCallT C__law_copy (dCons (dVar 3) (dNil))) (dgN 5))
  (dSeq (dFor (diR1 (dCons (dC (.int 2)) (dNil))) (dgN 6) (dSeq (dAsg (dCallS C_relations (dCons (dVar 5) (dNil))) (dgN 7))
  (dSeq (dIfS (dOr (dNot (dB (dN fIsi (dCons (dVar 7) (dCons (dC (.raw (.ty "list"))) (dNil)))))) (dOr (dB (d2 (fEqN true) (dVar 7) (dCallT C__law_every (dCons (dVar 3) (dNil))))) (dB (d2 (fEq true) (dVar 5) (dVar 3))))) (dRet (dC (.bl false))) (dNext))
  (dSeq (dFor (diL (dVar 7)) (dgN 8) (dSeq (dIfS (dOr (dNot (dB (dN fIsi (dCons (dVar 8) (dCons (dC (.raw (.ty "list"))) (dNil)))))) (dB (d2 (fIn false) (dC (.bl true)) (dLc finT (diL (dVar 8)) (dgN 9) (dYes) (dN fIsi (dCons (dVar 9) (dCons (dC (.raw (.ty "bool"))) (dNil)))) [9])))) (dRet (dC (.bl false))) (dNext))
  (dSeq (dIfS (dB (d2 (fEq true) (dN fSum (dCons (dLc finT (diR1 (dCons (dN fLen (dCons (dVar 4) (dNil))) (dNil))) (dgN 10) (dYes) (d2 (fI IntMulOk fun i j => .int (i * j)) (d2 fIx (dVar 8) (dVar 10)) (d2 fIx (dVar 4) (dVar 10))) [10]) (dNil))) (dC (.int 0)))) (dRet (dC (.bl false))) (dNext))
  (dDrop (dM fAppend (dVar 8) (dCons (dC (.int 7)) (dNil)))))))
  (dDrop (dM fAppend (dVar 7) (dCons (dLstH (dCons (dC (.int 7)) (dNil))) (dNil))))))))
  (dRet (dC (.bl true)))))))

theorem rp_law : ∀ ws m QC, C_law ws m QC → rd_law ⟨FinS m.length QC (.t .non), FinS m.length QC, fun _ => False, fun _ => False⟩ ⟨ws.map some ++ List.replicate (11 - ws.length) none, m.map some⟩ := by
  rintro ws m QC ⟨ns, rfl, rfl, hns, hbits, hQ⟩
  unfold rd_law
  walk_at "dl"
  refine ⟨by decide, ?_⟩
  walk_at "dl"
  refine ⟨by decide, ?_⟩
  walk_at "dl"
  refine ⟨by decide, ?_⟩
  walk_at "dl"
  refine ⟨ns, 5, rfl, hbits, fun a f hL => ?_⟩
  walk_at "dl"
  refine callS_draw0 (k := 0) hL (by omega) (by omega) (by omega) fun r a1 r0 r1 hL1 => ?_
  have pick : ∃ pm most : Nat, 1 ≤ pm ∧ pm ≤ 4 ∧ most ≤ 14 ∧ pm * (most + 1) ≤ 60 ∧ atI [T.tup [T.int 4, T.int 6], T.tup [T.int 1, T.int 14]] r = some (.tup [.int pm, .int most]) := by
    rcases (show r = 0 ∨ r = 1 by omega) with e | e <;> rw [e]
    · exact ⟨4, 6, by omega, by omega, by omega, by omega, atI_nat (j := 0) rfl⟩
    · exact ⟨1, 14, by omega, by omega, by omega, by omega, atI_nat (j := 1) rfl⟩
  obtain ⟨pm, most, p1, p2, p3, p4, ep⟩ := pick
  walk_at "dl"
  refine callS_web2 (pm := pm) (most := most) hbits p1 p2 p3 p4 fun w hok hpl => ?_
  have hok1 := hok.1
  walk_at "dl"
  refine ⟨ns, 6, 5, 25, w, rfl, hbits, hok, by omega, by omega, fun heap hhl hhr => ?_⟩
  have hpok : HpOk heap := ⟨by omega, fun r hr => by have := hhr r hr; omega⟩
  walk_at "dl"
  obtain ⟨xs, hxs⟩ := tally_some (w := w) heap [] _ rfl fun r hr => (hhr r hr).1
  rw [List.nil_append] at hxs
  refine ⟨w, heap, rfl, hok, hpok, fun e => (by rw [hxs] at e; cases e), fun ys e => ?_⟩
  rw [hxs] at e
  cases e
  have hxl := tally_len hxs
  have hsm : Sml (0 + 1801 * heap.length) xs := tally_small (w := w) heap [] 0 _ xs rfl (fun j => by
    rw [List.getD_eq_getElem?_getD, List.getElem?_replicate]
    split <;> exact ⟨Int.le_refl _, Int.le_refl _⟩) (fun r hr => (hhr r hr).2) (by rw [List.nil_append]; exact hxs)
  walk_at "dl"
  refine ⟨w, rfl, ?_⟩
  walk_at "dl"
  refine ⟨by decide, ?_⟩
  generalize (some (leftC a1 f ((0 + 1 : Nat) : Int)) :: ([] : Sto)) = mem0
  refine forG (List.range 2) (fun k => W.t (natT k)) (fun _ g' => ∃ (o6 o7 o8 o9 o10 : Option W) (mem : Sto), g' = ⟨[some (.t (.sq (ns.map T.int))), some (.t (.int pm)), some (.t (.int most)), some (.t w.t), some (.t (.lst (xs.map T.int))), some (.t w.t), o6, o7, o8, o9, o10], mem⟩)
    (by rw [show (2 : Int).toNat = 2 from rfl, rgW0]; rfl) ⟨_, _, _, _, _, _, rfl⟩ (fun _ _ _ => trivial) ?_ ?_
  · rintro pre k post hsp g' ⟨o6, o7, o8, o9, o10, mem, rfl⟩ N hN
    unfold natT
    walk_at "dl"
    refine callS_hl (fun QC h => ⟨w, rfl, rfl, hok, h⟩) ?_
    obtain ⟨em, hh⟩ := hl_new mem (rels w)
    generalize (mem ++ ((rels w).map lC ++ [Cell.lw ((List.range (rels w).length).map fun j => W.h (mem.length + j))]).map some) = mem1 at em hh
    generalize mem.length + (rels w).length = nn at em
    generalize (List.range (rels w).length).map (mem.length + ·) = hs at em hh
    walk_at "dl"
    refine i_isi (a := "list") (b := true) (tyN_hw em) rfl ?_
    walk_at "dl"
    rw [Bool.not_true]
    walk_at "dl"
    refine ⟨w, rfl, hok, ?_⟩
    walk_at "dl"
    refine i_neN (u := hT (rels w)) (v := hT (rels w)) (treeD_hl em hh) rfl (sh_hT _ 6) (sh_hT _ 6) ?_
    rw [teq_hT, Bool.not_true]
    walk_at "dl"
    refine i_neT (u := w.t) (v := w.t) rfl rfl (sh_web w 5) (sh_web w 5) ?_
    rw [teq_web, Bool.not_true]
    walk_at "dl"
    refine o_LqW (lq_hw em) (wseq_h em) ?_
    refine forG hs W.h (fun pre2 g' => ∃ (o8 o9 o10 : Option W) (mem2 : Sto), g' = ⟨[some (.t (.sq (ns.map T.int))), some (.t (.int pm)), some (.t (.int most)), some (.t w.t), some (.t (.lst (xs.map T.int))), some (.t w.t), some (.t (.int k)), some (.h nn), o8, o9, o10], mem2⟩ ∧ mem2[nn]? = some (some (Cell.lw (hs.map W.h))) ∧ ∀ i h : Nat, pre2.length ≤ i → hs[i]? = some h → ∃ r : List Int, (rels w)[i]? = some r ∧ mem2[h]? = some (some (Cell.lt (r.map T.int))))
      rfl ⟨_, _, _, _, rfl, em, fun i h _ e => hh.val i h e⟩ ?_ ?_ ?_
    · rintro _ _ ⟨_, _, _, _, rfl, e1, _⟩
      exact wseq_h e1
    · rintro pre2 h post2 hsp2 g2 ⟨p8, p9, p10, mem2, rfl, em2, hv2⟩ N2 hN2
      have hat : hs[pre2.length]? = some h := by rw [hsp2, List.getElem?_append_right (Nat.le_refl _), Nat.sub_self]; rfl
      obtain ⟨r, er, el⟩ := hv2 _ h (Nat.le_refl _) hat
      have hrm := List.mem_of_getElem? er
      have hrl := rels_len hrm
      have hbd := rel_small hrm
      walk_at "dl"
      refine i_isi (a := "list") (b := true) (tyN_h el) rfl ?_
      walk_at "dl"
      rw [Bool.not_true]
      walk_at "dl"
      refine o_LqH el ?_
      refine lcP r (fun z => W.t (.int z)) (fun _ => true) (fun _ => T.bl false) (by rw [List.map_map]; rfl) (lineLe (by omega)) (lq_h el) ?_ rfl ?_
      · intro z hz Y N3 hY hN3
        walk_at "dl"
        refine i_isi (a := "int") (b := false) rfl rfl ?_
        exact hY rfl _ rfl
      rw [List.filter_eq_self.mpr (fun _ _ => rfl)]
      walk_at "dl"
      refine i_in (x := .bl true) (us := r.map fun _ => T.bl false) rfl rfl (fun t ht => by obtain ⟨_, _, rfl⟩ := List.mem_map.mp ht; rfl) ?_
      have e0 : inT (.bl true) (r.map fun _ => T.bl false) = false := by
        unfold inT
        rw [List.any_eq_false]
        intro t ht
        obtain ⟨_, _, rfl⟩ := List.mem_map.mp ht
        decide
      rw [e0]
      walk_at "dl"
      rw [List.length_map]
      refine ⟨by omega, ?_⟩
      refine lcP (List.range xs.length) (fun k => W.t (natT k)) (fun _ => true) (fun k => T.int (r.getD k 0 * xs.getD k 0)) (by rw [Int.toNat_natCast, rgW0]; rfl) (by rw [List.length_range]; exact lineLe (by omega)) trivial ?_ rfl ?_
      · intro z hz Y N3 hY hN3
        have hzl := List.mem_range.mp hz
        have h1 := int_at (xs := r) (j := z) (by omega)
        have h2 := int_at (xs := xs) (j := z) hzl
        have h3 := hsm z
        unfold natT
        walk_at "dl"
        refine i_fI (mulR (by omega) (by omega)) ?_
        exact hY rfl _ rfl
      rw [List.filter_eq_self.mpr (fun _ _ => rfl)]
      walk_at "dl"
      refine i_sum (ns := (List.range xs.length).map fun k => r.getD k 0 * xs.getD k 0) (by rw [List.map_map]; rfl) ?_
      rw [dot_range (by omega), rels_zero hok hxs hrm]
      walk_at "dl"
      refine ⟨isL_lt el, ?_⟩
      walk_at "dl"
      refine i_append el (lineLt (by rw [List.length_map]; omega)) ?_
      simp only [G.put]
      have hnn : nn ≠ h := fun z => by subst z; rw [em2] at el; cases el
      refine hN2 _ ⟨_, _, _, _, rfl, ?_, fun i h' hi e => ?_⟩
      · rw [List.getElem?_set_ne (fun z => hnn z.symm)]
        exact em2
      · rw [List.length_append, List.length_singleton] at hi
        obtain ⟨r', e1, e2⟩ := hv2 i h' (by omega) e
        refine ⟨r', e1, ?_⟩
        rw [List.getElem?_set_ne (fun z => ?_)]
        · exact e2
        · subst z
          have h1 := (List.getElem?_eq_some_iff.mp hat)
          have h2 := (List.getElem?_eq_some_iff.mp e)
          exact List.pairwise_iff_getElem.mp hh.nd pre2.length i h1.1 h2.1 (by omega) (by rw [h1.2, h2.2])
    · rintro g2 ⟨p8, p9, p10, mem2, rfl, em2, _⟩
      have hhl := hh.len
      have hrl : (rels w).length ≤ 100 := by
        have hfl : ((List.range w.places.length).flatMap (rels1 w)).length ≤ 16 * (List.range w.places.length).length := flat_len (f := rels1 w) (n := 16) fun q hq => rels1_len hok (List.mem_range.mp hq)
        rw [List.length_range] at hfl
        unfold rels
        rw [List.length_append, List.length_map, List.length_range']
        omega
      walk_at "dl"
      refine ⟨isL_lw em2, ?_⟩
      walk_at "dl"
      refine ⟨by decide, ?_⟩
      walk_at "dl"
      refine i_appendW (us := hs.map W.h) (at_more em2) (lineLt (by rw [List.length_map]; omega)) ?_
      exact hN _ ⟨_, _, _, _, _, _, rfl⟩
  · rintro g' ⟨o6, o7, o8, o9, o10, mem, rfl⟩
    walk_at "dl"
    exact fin_true hQ

end DL


namespace DL
open PySem PySem.Spec PyProof.Rows L2
local macro_rules | `(tactic| walk_at "dn") => `(tactic| simp only [purse_set2, purse_set3, purse_set4, purse_set5, purse_app, purse_len, purse_start, purse_l, G.set, G.put, G.push, G.wipe, wipeW, G.rs, rsW, List.set_cons_zero, List.set_cons_succ, List.map_cons, List.map_nil, List.length_cons, List.length_nil, List.nil_append, List.cons_append, List.replicate_succ, List.replicate_zero, Nat.reduceAdd, Nat.reduceSub, List.getD_cons_zero, List.getD_cons_succ, Option.getD_some, Option.getD_none])
local macro_rules | `(tactic| walk_at "d1") => `(tactic| first
  | with_reducible refine i_seq ?_
  | with_reducible refine i_asg ?_
  | with_reducible refine i_d2 ?_
  | ((with_reducible refine' i_var ?e ?_); (case e => rfl))
  | with_reducible refine i_c ?_
  | ((with_reducible refine' i_ix ?e ?v ?_); (case e => rfl); (case v => first | assumption | rfl))
  | with_reducible refine i_fI0 ?_
  | with_reducible refine i_gN ?_
  | with_reducible refine i_cons ?_
  | with_reducible refine i_nil ?_
  | with_reducible refine i_dN ?_
  | ((with_reducible refine' i_len ?e ?_); (case e => rfl))
  | with_reducible refine i_d1 ?_
  | with_reducible refine i_neg ?_
  | with_reducible refine i_B ?_
  | with_reducible refine o_B ?_
  | with_reducible refine o_I ?_
  | with_reducible refine i_ifS ?_
  | with_reducible refine i_or ?_
  | with_reducible refine i_and ?_
  | with_reducible refine i_not ?_
  | with_reducible refine i_andV ?_
  | with_reducible refine i_orV ?_
  | with_reducible refine i_notV ?_
  | with_reducible refine i_if ?_
  | with_reducible refine i_yes ?_
  | with_reducible refine k_T ?_
  | with_reducible refine k_F ?_
  | with_reducible refine k_True ?_
  | with_reducible refine k_False ?_
  | with_reducible refine i_eqI ?_
  | with_reducible refine i_neI ?_
  | with_reducible refine i_addI ?_
  | with_reducible refine i_addHI ?_
  | with_reducible refine i_callT ?_
  | with_reducible refine i_callH ?_
  | ((with_reducible refine' o_Ts ?e ?_); (case e => rfl))
  | with_reducible refine o_T ?_
  | ((with_reducible refine' o_TF ?e ?_); (case e => rfl))
  | with_reducible refine o_H ?_
  | ((with_reducible refine' o_HF ?e ?_); (case e => rfl))
  | with_reducible refine i_next ?_
  | with_reducible refine i_drop ?_
  | with_reducible refine i_ret ?_
  | with_reducible refine i_retN ?_
  | ((with_reducible refine' i_gTup ?e ?_); (case e => rfl))
  | with_reducible refine i_gCons ?_
  | with_reducible refine i_gNil ?_
  | with_reducible refine i_min2 ?_
  | with_reducible refine i_max2 ?_
  | with_reducible refine i_par ?_
  | with_reducible refine o_W2 ?_
  | ((with_reducible refine' i_aug ?e ?_); (case e => rfl))
  | with_reducible refine i_intI ?_
  | with_reducible refine i_intB ?_
  | with_reducible refine i_lc ?_
  | with_reducible refine i_for ?_
  | with_reducible refine i_while ?_
  | with_reducible refine i_itL ?_
  | ((with_reducible refine' o_Lq ?e ?_); (case e => rfl))
  | with_reducible refine i_itR1 ?_
  | with_reducible refine i_itR2 ?_
  | with_reducible refine o_I1 ?_
  | with_reducible refine o_I2 ?_
  | with_reducible refine e_t ?_
  | ((with_reducible refine' e_h ?e ?p ?_); (case e => rfl); (case p => rfl))
  | with_reducible refine i_M ?_
  | with_reducible refine i_M0 ?_
  | with_reducible refine i_gSub ?_
  | with_reducible refine i_finH ?_
  | with_reducible refine i_finT ?_
  | with_reducible refine i_sl ?_
  | with_reducible refine i_slH ?_
  | with_reducible refine i_slT ?_
  | with_reducible refine i_noPart ?_
  | with_reducible refine i_part ?_
  | ((with_reducible refine' i_frzT ?e ?_); (case e => rfl))
  | ((with_reducible refine' i_frzH ?e ?m ?t ?_); (case e => rfl); (case m => rfl); (case t => rfl))
  | ((with_reducible refine' i_din ?k ?e ?_); (case k => rfl); (case e => rfl))
  | ((with_reducible refine' i_dnotin ?k ?e ?_); (case k => rfl); (case e => rfl))
  | with_reducible refine i_dput ?_
  | with_reducible refine i_newD ?_
  | with_reducible refine i_lstH ?_
  | with_reducible refine i_lst ?_
  | with_reducible refine i_tup ?_
  | with_reducible refine i_break ?_
  | with_reducible refine i_cont ?_
  | with_reducible refine i_callS ?_
  | ((with_reducible refine' i_ixHW ?e ?v ?_); (case e => first | rfl | assumption); (case v => first | assumption | rfl))
  | ((with_reducible refine' i_ixHT ?e ?v ?_); (case e => first | rfl | assumption); (case v => first | assumption | rfl))
  | ((with_reducible refine' i_lenHT ?e ?_); (case e => first | rfl | assumption))
  | ((with_reducible refine' i_lenHW ?e ?_); (case e => first | rfl | assumption))
  | ((with_reducible refine' i_frzH ?e ?m ?t ?_); (case e => rfl); (case m => rfl); (case t => rfl))
  | ((with_reducible refine' i_unw ?e ?n ?_); (case e => rfl); (case n => rfl))
  | with_reducible refine i_gwCons ?_
  | with_reducible refine i_gwNil ?_
  | with_reducible refine i_lstW ?_
  | ((with_reducible refine' i_gList ?e ?n ?_); (case e => rfl); (case n => rfl))
  | with_reducible refine i_listRgH ?_
  | with_reducible refine i_listRg ?_
  | with_reducible refine i_R1 ?_
  | with_reducible refine i_getD ?_
  | ((with_reducible refine' i_none ?k ?_); (case k => rfl))
  | walk_at "dn")
local macro_rules | `(tactic| walk_at "dl") => `(tactic| ((try walk_at "dn"); repeat walk_at "d1"))
def topS (i : Nat) : Stmt := PySem.Challenge.pw_fewcounters_k05_whole_relations.main.body.getD i (.Pass ⟨0, 0, 0, 0⟩)
structure Mi (mg : Str → Option Value) : Prop where
  h_set : mg "set" = none
  m_MOST_PLACES : ∃ tk : Tok, mg "MOST_PLACES" = some (.int 16 tk)
  m_MOST_PARTS : ∃ tk : Tok, mg "MOST_PARTS" = some (.int 4 tk)
  m_MOST_ROWS : ∃ tk : Tok, mg "MOST_ROWS" = some (.int 60 tk)
abbrev s__law_mix : Stmt := topS 18
theorem sc__law_mix : FnScope ["_law_number", "_law_k", "_law_mixed"] ["_law_number", "_law_k"] (defScope s__law_mix) := ⟨rfl, rfl, rfl, by decide +kernel, rfl, by decide +kernel, by decide +kernel⟩
theorem kn__law_mix {P : Program} {w : World} {K : PySem.W.Frag} {mg : Str → Option Value} {base : Heap} {k : Nat} (B : Bi mg) (M : Mi mg) (O : Ow K mg "_law_mix" s__law_mix ["_law_number", "_law_k"])  : Kn P w K mg base (k + 1) "_law_mix" ["_law_number", "_law_k"] C__law_mix.s := by
  obtain ⟨f, fd, F, gm, bd⟩ := O.ex
  refine ⟨f, fd, pfn_ok F sc__law_mix ln__law_mix ?_, gm, F.kp, bd⟩
  intro cdv A outer s H E hr
  exact ⟨_, rd__law_mix, dss_cons (ds_set 2 sc__law_mix.nd (de_mod (de_mul (de_add (de_add (de_mul (de_var 0) (de_var 0)) (de_mul (de_var 1) (de_var 0))) (de_mul (de_mul (de_int) (de_var 1)) (de_var 1))) (de_int)) (de_int)))
  (dss_one (ds_ret (de_mod (de_mul (de_var 2) (de_var 2)) (de_int)))), rp__law_mix⟩

abbrev s__law_draw : Stmt := topS 21
theorem sc__law_draw : FnScope ["_law_left_here", "_law_base", "_law_mixed", "_law_digit"] ["_law_left_here", "_law_base"] (defScope s__law_draw) := ⟨rfl, rfl, rfl, by decide +kernel, rfl, by decide +kernel, by decide +kernel⟩
theorem kn__law_draw {P : Program} {w : World} {K : PySem.W.Frag} {mg : Str → Option Value} {base : Heap} {k : Nat} (B : Bi mg) (M : Mi mg) (O : Ow K mg "_law_draw" s__law_draw ["_law_left_here", "_law_base"]) (G__law_mix : Kn P w K mg base k "_law_mix" ["_law_number", "_law_k"] C__law_mix.s) : Kn P w K mg base (k + 1) "_law_draw" ["_law_left_here", "_law_base"] C__law_draw := by
  obtain ⟨f, fd, F, gm, bd⟩ := O.ex
  obtain ⟨f__law_mix, fd__law_mix, ok__law_mix, mg__law_mix, kp__law_mix, bd__law_mix⟩ := G__law_mix.ex
  refine ⟨f, fd, dfn_ok F sc__law_draw ln__law_draw ?_, gm, F.kp, bd⟩
  intro cdv A outer s H E hr
  exact ⟨_, rd__law_draw, dss_cons (ds_asg (de_add (de_ix (de_var 0) (de_int)) (de_int)) (dg_sub (de_var 0) (de_int)))
  (dss_cons (ds_if (dt_eq hr (de_ix (de_var 0) (de_int)) (de_int)) (dss_cons (ds_set 2 sc__law_draw.nd (de_callT ok__law_mix hr mg__law_mix kp__law_mix bd__law_mix (da_cons (de_ix (de_var 0) (de_int)) (da_cons (de_ix (de_var 0) (de_int)) (da_nil)))))
  (dss_one (ds_ret (de_mod (de_mod (de_mul (de_var 2) (de_add (de_var 2) (de_int))) (de_int)) (de_var 1))))) (dss_nil))
  (dss_cons (ds_set 3 sc__law_draw.nd (de_mod (de_ix (de_var 0) (de_int)) (de_var 1)))
  (dss_cons (ds_asg (de_fdiv (de_ix (de_var 0) (de_int)) (de_var 1)) (dg_sub (de_var 0) (de_int)))
  (dss_one (ds_ret (de_var 3)))))), rp__law_draw⟩

abbrev s__law_cell_at : Stmt := topS 19
theorem sc__law_cell_at : FnScope ["_law_script", "_law_k"] ["_law_script", "_law_k"] (defScope s__law_cell_at) := ⟨rfl, rfl, rfl, by decide +kernel, rfl, by decide +kernel, by decide +kernel⟩
theorem kn__law_cell_at {P : Program} {w : World} {K : PySem.W.Frag} {mg : Str → Option Value} {base : Heap} {k : Nat} (B : Bi mg) (M : Mi mg) (O : Ow K mg "_law_cell_at" s__law_cell_at ["_law_script", "_law_k"])  : Kn P w K mg base (k + 1) "_law_cell_at" ["_law_script", "_law_k"] C__law_cell_at.s := by
  obtain ⟨f, fd, F, gm, bd⟩ := O.ex
  refine ⟨f, fd, pfn_ok F sc__law_cell_at ln__law_cell_at ?_, gm, F.kp, bd⟩
  intro cdv A outer s H E hr
  exact ⟨_, rd__law_cell_at, dss_cons (ds_if (dt_lt (de_var 1) (de_len B.h_len (da_cons (de_var 0) (da_nil)))) (dss_one (ds_ret (de_ix (de_var 0) (de_var 1)))) (dss_nil))
  (dss_one (ds_ret (de_int))), rp__law_cell_at⟩

abbrev s__law_left : Stmt := topS 20
theorem sc__law_left : FnScope ["_law_script", "_law_k", "_law_cell"] ["_law_script", "_law_k"] (defScope s__law_left) := ⟨rfl, rfl, rfl, by decide +kernel, rfl, by decide +kernel, by decide +kernel⟩
theorem kn__law_left {P : Program} {w : World} {K : PySem.W.Frag} {mg : Str → Option Value} {base : Heap} {k : Nat} (B : Bi mg) (M : Mi mg) (O : Ow K mg "_law_left" s__law_left ["_law_script", "_law_k"]) (G__law_cell_at : Kn P w K mg base k "_law_cell_at" ["_law_script", "_law_k"] C__law_cell_at.s) : Kn P w K mg base (k + 1) "_law_left" ["_law_script", "_law_k"] C__law_left.s := by
  obtain ⟨f, fd, F, gm, bd⟩ := O.ex
  obtain ⟨f__law_cell_at, fd__law_cell_at, ok__law_cell_at, mg__law_cell_at, kp__law_cell_at, bd__law_cell_at⟩ := G__law_cell_at.ex
  refine ⟨f, fd, pfn_ok F sc__law_left ln__law_left ?_, gm, F.kp, bd⟩
  intro cdv A outer s H E hr
  exact ⟨_, rd__law_left, dss_cons (ds_set 2 sc__law_left.nd (de_callT ok__law_cell_at hr mg__law_cell_at kp__law_cell_at bd__law_cell_at (da_cons (de_var 0) (da_cons (de_var 1) (da_nil)))))
  (dss_cons (ds_if (dt_lt (de_var 2) (de_pow (de_int) (de_int))) (dss_one (ds_ret (de_lstH (da_cons (de_var 2) (da_cons (de_int) (da_cons (de_int) (da_nil))))))) (dss_nil))
  (dss_one (ds_ret (de_lstH (da_cons (de_sub (de_var 2) (de_pow (de_int) (de_int))) (da_cons (de_int) (da_cons (de_int) (da_nil)))))))), rp__law_left⟩

abbrev s__law_part : Stmt := topS 22
theorem sc__law_part : FnScope ["_law_left_here", "_law_most", "_law_many", "_law_ties", "_law_turn", "_law_at", "_law_new", "_law_start", "_law_a", "_law_b"] ["_law_left_here", "_law_most"] (defScope s__law_part) := ⟨rfl, rfl, rfl, by decide +kernel, rfl, by decide +kernel, by decide +kernel⟩
theorem kn__law_part {P : Program} {w : World} {K : PySem.W.Frag} {mg : Str → Option Value} {base : Heap} {k : Nat} (B : Bi mg) (M : Mi mg) (O : Ow K mg "_law_part" s__law_part ["_law_left_here", "_law_most"]) (G__law_draw : Kn P w K mg base k "_law_draw" ["_law_left_here", "_law_base"] C__law_draw) : Kn P w K mg base (k + 1) "_law_part" ["_law_left_here", "_law_most"] C__law_part := by
  obtain ⟨f, fd, F, gm, bd⟩ := O.ex
  obtain ⟨f__law_draw, fd__law_draw, ok__law_draw, mg__law_draw, kp__law_draw, bd__law_draw⟩ := G__law_draw.ex
  refine ⟨f, fd, dfn_ok F sc__law_part ln__law_part ?_, gm, F.kp, bd⟩
  intro cdv A outer s H E hr
  exact ⟨_, rd__law_part, dss_cons (ds_set 2 sc__law_part.nd (de_int))
  (dss_cons (ds_set 3 sc__law_part.nd (de_lstH (da_cons (de_tup (da_cons (de_int) (da_cons (de_int) (da_nil)))) (da_nil))))
  (dss_cons (ds_for rfl (di_range1 B.h_range (da_cons (de_callS ok__law_draw hr mg__law_draw kp__law_draw bd__law_draw (da_cons (de_var 0) (da_cons (de_add (de_var 1) (de_int)) (da_nil)))) (da_nil))) (dg_name 4 sc__law_part.nd) (dss_one (ds_if (dt_eq hr (de_callS ok__law_draw hr mg__law_draw kp__law_draw bd__law_draw (da_cons (de_var 0) (da_cons (de_int) (da_nil)))) (de_int)) (dss_cons (ds_set 5 sc__law_part.nd (de_callS ok__law_draw hr mg__law_draw kp__law_draw bd__law_draw (da_cons (de_var 0) (da_cons (de_len B.h_len (da_cons (de_var 3) (da_nil))) (da_nil)))))
  (dss_cons (ds_set 6 sc__law_part.nd (de_add (de_int) (de_callS ok__law_draw hr mg__law_draw kp__law_draw bd__law_draw (da_cons (de_var 0) (da_cons (de_sub (de_var 2) (de_int)) (da_nil))))))
  (dss_cons (ds_setLcU 3 (fin := finH) (own := [("_law_a", 8), ("_law_b", 9)]) fin_H rfl sc__law_part.nd (di_list (de_var 3)) (blkOk_by (own := [("_law_a", 8), ("_law_b", 9)]) (N := ["_law_left_here", "_law_most", "_law_many", "_law_ties", "_law_turn", "_law_at", "_law_new", "_law_start", "_law_a", "_law_b"]) (sc := defScope s__law_part) (by decide +kernel)) (fun _ _ _ _ _ => ⟨_, cg_tup rfl (cgs_cons (cg_name 8 sc__law_part.nd) (cgs_cons (cg_name 9 sc__law_part.nd) (cgs_nil)))⟩) (fun _ _ _ _ _ => ⟨_, dts_nil⟩) (fun _ _ _ _ _ => ⟨_, de_tup (da_cons (de_add (de_var 8) (de_intOf B.h_int (da_cons (de_ge (de_var 8) (de_var 6)) (da_nil)))) (da_cons (de_add (de_var 9) (de_intOf B.h_int (da_cons (de_ge (de_var 9) (de_var 6)) (da_nil)))) (da_nil)))⟩) s)
  (dss_cons (ds_expr (de_append (de_var 3) (da_cons (de_tup (da_cons (de_var 6) (da_cons (de_ix (de_ix (de_var 3) (de_var 5)) (de_int)) (da_nil)))) (da_nil))))
  (dss_cons (ds_asg (de_tup (da_cons (de_ix (de_ix (de_var 3) (de_var 5)) (de_int)) (da_cons (de_var 6) (da_nil)))) (dg_sub (de_var 3) (de_var 5)))
  (dss_one (ds_set 2 sc__law_part.nd (de_add (de_var 2) (de_int))))))))) (dss_cons (ds_set 7 sc__law_part.nd (de_callS ok__law_draw hr mg__law_draw kp__law_draw bd__law_draw (da_cons (de_var 0) (da_cons (de_sub (de_var 2) (de_int)) (da_nil)))))
  (dss_one (ds_expr (de_append (de_var 3) (da_cons (de_tup (da_cons (de_add (de_var 7) (de_intOf B.h_int (da_cons (de_gt (de_var 7) (de_int)) (da_nil)))) (da_cons (de_callS ok__law_draw hr mg__law_draw kp__law_draw bd__law_draw (da_cons (de_var 0) (da_cons (de_var 2) (da_nil)))) (da_nil)))) (da_nil)))))))))
  (dss_one (ds_ret (de_tup (da_cons (de_var 2) (da_cons (de_frz 3) (da_nil)))))))), rp__law_part⟩

abbrev s__law_web : Stmt := topS 23
theorem sc__law_web : FnScope ["_law_script", "_law_parts_most", "_law_most", "_law_first", "_law_parts", "_law_places", "_law_rows", "_law_part_here", "_law_many", "_law_ties", "_law_some", "_law_start", "_law_end", "_law_row", "_law_later"] ["_law_script", "_law_parts_most", "_law_most"] (defScope s__law_web) := ⟨rfl, rfl, rfl, by decide +kernel, rfl, by decide +kernel, by decide +kernel⟩
theorem kn__law_web {P : Program} {w : World} {K : PySem.W.Frag} {mg : Str → Option Value} {base : Heap} {k : Nat} (B : Bi mg) (M : Mi mg) (O : Ow K mg "_law_web" s__law_web ["_law_script", "_law_parts_most", "_law_most"]) (G__law_left : Kn P w K mg base k "_law_left" ["_law_script", "_law_k"] C__law_left.s) (G__law_draw : Kn P w K mg base k "_law_draw" ["_law_left_here", "_law_base"] C__law_draw) (G__law_part : Kn P w K mg base k "_law_part" ["_law_left_here", "_law_most"] C__law_part) : Kn P w K mg base (k + 1) "_law_web" ["_law_script", "_law_parts_most", "_law_most"] C__law_web := by
  obtain ⟨f, fd, F, gm, bd⟩ := O.ex
  obtain ⟨f__law_left, fd__law_left, ok__law_left, mg__law_left, kp__law_left, bd__law_left⟩ := G__law_left.ex
  obtain ⟨f__law_draw, fd__law_draw, ok__law_draw, mg__law_draw, kp__law_draw, bd__law_draw⟩ := G__law_draw.ex
  obtain ⟨f__law_part, fd__law_part, ok__law_part, mg__law_part, kp__law_part, bd__law_part⟩ := G__law_part.ex
  refine ⟨f, fd, dfn_ok F sc__law_web ln__law_web ?_, gm, F.kp, bd⟩
  intro cdv A outer s H E hr
  exact ⟨_, rd__law_web, dss_cons (ds_set 3 sc__law_web.nd (de_callH ok__law_left hr mg__law_left kp__law_left bd__law_left (da_cons (de_var 0) (da_cons (de_int) (da_nil)))))
  (dss_cons (ds_set 4 sc__law_web.nd (de_add (de_int) (de_callS ok__law_draw hr mg__law_draw kp__law_draw bd__law_draw (da_cons (de_var 3) (da_cons (de_var 1) (da_nil))))))
  (dss_cons (ds_set 5 sc__law_web.nd (de_lstH (da_nil)))
  (dss_cons (ds_set 6 sc__law_web.nd (de_lstW (da_nil)))
  (dss_cons (ds_for rfl (di_range1 B.h_range (da_cons (de_var 4) (da_nil))) (dg_name 7 sc__law_web.nd) (dss_cons (ds_asg (de_callS ok__law_part hr mg__law_part kp__law_part bd__law_part (da_cons (de_callH ok__law_left hr mg__law_left kp__law_left bd__law_left (da_cons (de_var 0) (da_cons (de_add (de_int) (de_var 7)) (da_nil)))) (da_cons (de_var 2) (da_nil)))) (dg_tup rfl (dgs_cons (dg_name 8 sc__law_web.nd) (dgs_cons (dg_name 9 sc__law_web.nd) (dgs_nil)))))
  (dss_cons (ds_expr (de_append (de_var 5) (da_cons (de_var 8) (da_nil))))
  (dss_cons (ds_if (dt_gt (de_var 7) (de_int)) (dss_cons (ds_setLcU 10 (fin := finW) (own := [("_law_row", 13)]) fin_W rfl sc__law_web.nd (di_list (de_var 6)) (blkOk_by (own := [("_law_row", 13)]) (N := ["_law_script", "_law_parts_most", "_law_most", "_law_first", "_law_parts", "_law_places", "_law_rows", "_law_part_here", "_law_many", "_law_ties", "_law_some", "_law_start", "_law_end", "_law_row", "_law_later"]) (sc := defScope s__law_web) (by decide +kernel)) (fun _ _ _ _ _ => ⟨_, cg_name 13 sc__law_web.nd⟩) (fun _ _ _ _ _ => ⟨_, dts_one (dt_eq hr (de_ix (de_var 13) (de_int)) (de_neg (de_int)))⟩) (fun _ _ _ _ _ => ⟨_, de_var 13⟩) s)
  (dss_one (ds_asg (de_var 7) (dg_sub (de_ix (de_var 10) (de_callS ok__law_draw hr mg__law_draw kp__law_draw bd__law_draw (da_cons (de_var 3) (da_cons (de_len B.h_len (da_cons (de_var 10) (da_nil))) (da_nil))))) (de_int))))) (dss_nil))
  (dss_one (ds_for rfl (di_list (de_var 9)) (dg_tup rfl (dgs_cons (dg_name 11 sc__law_web.nd) (dgs_cons (dg_name 12 sc__law_web.nd) (dgs_nil)))) (dss_one (ds_expr (de_insert (de_var 6) (da_cons (de_callS ok__law_draw hr mg__law_draw kp__law_draw bd__law_draw (da_cons (de_var 3) (da_cons (de_add (de_len B.h_len (da_cons (de_var 6) (da_nil))) (de_int)) (da_nil)))) (da_cons (de_lstH (da_cons (de_var 7) (da_cons (de_var 11) (da_cons (de_var 12) (da_cons (de_neg (de_int)) (da_nil)))))) (da_nil))))))))))))
  (dss_cons (ds_for rfl (di_list (de_var 6)) (dg_name 13 sc__law_web.nd) (dss_cons (ds_set 14 sc__law_web.nd (de_callS ok__law_draw hr mg__law_draw kp__law_draw bd__law_draw (da_cons (de_var 3) (da_cons (de_sub (de_var 4) (de_ix (de_var 13) (de_int))) (da_nil)))))
  (dss_one (ds_if (dt_w (dw_and (dt_eq hr (de_ix (de_var 13) (de_int)) (de_neg (de_int))) (dw_and1 (dt_gt (de_var 14) (de_int))))) (dss_one (ds_asg (de_add (de_ix (de_var 13) (de_int)) (de_var 14)) (dg_sub (de_var 13) (de_int)))) (dss_nil)))))
  (dss_one (ds_ret (de_tup (da_cons (de_frz 5) (da_cons (de_lcU (fin := finT) (own := [("_law_row", 13)]) fin_T rfl sc__law_web.nd (di_list (de_var 6)) (blkOk_by (own := [("_law_row", 13)]) (N := ["_law_script", "_law_parts_most", "_law_most", "_law_first", "_law_parts", "_law_places", "_law_rows", "_law_part_here", "_law_many", "_law_ties", "_law_some", "_law_start", "_law_end", "_law_row", "_law_later"]) (sc := defScope s__law_web) (by decide +kernel)) (fun _ _ _ _ _ => ⟨_, cg_name 13 sc__law_web.nd⟩) (fun _ _ _ _ _ => ⟨_, dts_nil⟩) (fun _ _ _ _ _ => ⟨_, de_tupOf B.h_tuple (da_cons (de_var 13) (da_nil))⟩) s) (da_nil))))))))))), rp__law_web⟩

abbrev s__law_stack : Stmt := topS 30
theorem sc__law_stack : FnScope ["_law_web_here", "_law_rows", "_law_stack_here", "_law_k"] ["_law_web_here", "_law_rows"] (defScope s__law_stack) := ⟨rfl, rfl, rfl, by decide +kernel, rfl, by decide +kernel, by decide +kernel⟩
theorem kn__law_stack {P : Program} {w : World} {K : PySem.W.Frag} {mg : Str → Option Value} {base : Heap} {k : Nat} (B : Bi mg) (M : Mi mg) (O : Ow K mg "_law_stack" s__law_stack ["_law_web_here", "_law_rows"])  : Kn P w K mg base (k + 1) "_law_stack" ["_law_web_here", "_law_rows"] C__law_stack.s := by
  obtain ⟨f, fd, F, gm, bd⟩ := O.ex
  refine ⟨f, fd, pfn_ok F sc__law_stack ln__law_stack ?_, gm, F.kp, bd⟩
  intro cdv A outer s H E hr
  exact ⟨_, rd__law_stack, dss_cons (ds_set 2 sc__law_stack.nd (de_lstH (da_cons (de_tup (da_cons (de_int) (da_cons (de_int) (da_nil)))) (da_nil))))
  (dss_cons (ds_for rfl (di_list (de_var 1)) (dg_name 3 sc__law_stack.nd) (dss_cons (ds_if (dt_w (dw_or (dt_eq hr (de_len B.h_len (da_cons (de_var 2) (da_nil))) (de_int)) (dw_or (dt_lt (de_var 3) (de_int)) (dw_or (dt_ge (de_var 3) (de_len B.h_len (da_cons (de_ix (de_var 0) (de_int)) (da_nil)))) (dw_or1 (dt_ne hr (de_slT (de_ix (de_ix (de_var 0) (de_int)) (de_var 3)) (do_none) (do_some (de_int))) (de_ix (de_var 2) (de_neg (de_int))))))))) (dss_one (ds_ret (de_non))) (dss_nil))
  (dss_cons (ds_set 2 sc__law_stack.nd (de_addH (de_sl (de_var 2) (do_none) (do_some (de_neg (de_int)))) (de_lst (da_cons (de_tup (da_cons (de_ix (de_ix (de_ix (de_var 0) (de_int)) (de_var 3)) (de_int)) (da_cons (de_ix (de_ix (de_ix (de_var 0) (de_int)) (de_var 3)) (de_int)) (da_nil)))) (da_nil)))))
  (dss_cons (ds_if (dt_ge (de_ix (de_ix (de_ix (de_var 0) (de_int)) (de_var 3)) (de_int)) (de_int)) (dss_one (ds_expr (de_append (de_var 2) (da_cons (de_tup (da_cons (de_ix (de_ix (de_ix (de_var 0) (de_int)) (de_var 3)) (de_int)) (da_cons (de_int) (da_nil)))) (da_nil))))) (dss_nil))
  (dss_one (ds_while (dt_w (dw_and (dt_gt (de_len B.h_len (da_cons (de_var 2) (da_nil))) (de_int)) (dw_and1 (dt_eq hr (de_ix (de_ix (de_var 2) (de_neg (de_int))) (de_int)) (de_int))))) (dss_one (ds_expr (de_pop (de_var 2))))))))))
  (dss_one (ds_ret (de_var 2)))), rp__law_stack⟩

abbrev s__law_tally : Stmt := topS 31
theorem sc__law_tally : FnScope ["_law_web_here", "_law_heap_here", "_law_found", "_law_rows", "_law_k", "_law_called"] ["_law_web_here", "_law_heap_here"] (defScope s__law_tally) := ⟨rfl, rfl, rfl, by decide +kernel, rfl, by decide +kernel, by decide +kernel⟩
theorem kn__law_tally {P : Program} {w : World} {K : PySem.W.Frag} {mg : Str → Option Value} {base : Heap} {k : Nat} (B : Bi mg) (M : Mi mg) (O : Ow K mg "_law_tally" s__law_tally ["_law_web_here", "_law_heap_here"]) (G__law_stack : Kn P w K mg base k "_law_stack" ["_law_web_here", "_law_rows"] C__law_stack.s) : Kn P w K mg base (k + 1) "_law_tally" ["_law_web_here", "_law_heap_here"] C__law_tally.s := by
  obtain ⟨f, fd, F, gm, bd⟩ := O.ex
  obtain ⟨f__law_stack, fd__law_stack, ok__law_stack, mg__law_stack, kp__law_stack, bd__law_stack⟩ := G__law_stack.ex
  refine ⟨f, fd, pfn_ok F sc__law_tally ln__law_tally ?_, gm, F.kp, bd⟩
  intro cdv A outer s H E hr
  exact ⟨_, rd__law_tally, dss_cons (ds_set 2 sc__law_tally.nd (de_repH (de_lst (da_cons (de_int) (da_nil))) (de_add (de_len B.h_len (da_cons (de_ix (de_var 0) (de_int)) (da_nil))) (de_len B.h_len (da_cons (de_ix (de_var 0) (de_int)) (da_nil))))))
  (dss_cons (ds_for rfl (di_list (de_var 1)) (dg_name 3 sc__law_tally.nd) (dss_cons (ds_if (dt_ne hr (de_callT ok__law_stack hr mg__law_stack kp__law_stack bd__law_stack (da_cons (de_var 0) (da_cons (de_var 3) (da_nil)))) (de_lst (da_nil))) (dss_one (ds_ret (de_non))) (dss_nil))
  (dss_cons (ds_asg (de_add (de_ix (de_var 2) (de_len B.h_len (da_cons (de_ix (de_var 0) (de_int)) (da_nil)))) (de_int)) (dg_sub (de_var 2) (de_len B.h_len (da_cons (de_ix (de_var 0) (de_int)) (da_nil)))))
  (dss_one (ds_for rfl (di_list (de_var 3)) (dg_name 4 sc__law_tally.nd) (dss_cons (ds_asg (de_add (de_ix (de_var 2) (de_var 4)) (de_int)) (dg_sub (de_var 2) (de_var 4)))
  (dss_one (ds_if (dt_ge (de_ix (de_ix (de_ix (de_var 0) (de_int)) (de_var 4)) (de_int)) (de_int)) (dss_cons (ds_set 5 sc__law_tally.nd (de_add (de_len B.h_len (da_cons (de_ix (de_var 0) (de_int)) (da_nil))) (de_ix (de_ix (de_ix (de_var 0) (de_int)) (de_var 4)) (de_int))))
  (dss_one (ds_asg (de_add (de_ix (de_var 2) (de_var 5)) (de_int)) (dg_sub (de_var 2) (de_var 5))))) (dss_nil)))))))))
  (dss_one (ds_ret (de_var 2)))), rp__law_tally⟩

abbrev s__law_far : Stmt := topS 25
theorem sc__law_far : FnScope ["_law_web_here", "_law_part_here", "_law_far_here", "_law_turn", "_law_row"] ["_law_web_here", "_law_part_here"] (defScope s__law_far) := ⟨rfl, rfl, rfl, by decide +kernel, rfl, by decide +kernel, by decide +kernel⟩
theorem kn__law_far {P : Program} {w : World} {K : PySem.W.Frag} {mg : Str → Option Value} {base : Heap} {k : Nat} (B : Bi mg) (M : Mi mg) (O : Ow K mg "_law_far" s__law_far ["_law_web_here", "_law_part_here"])  : Kn P w K mg base (k + 1) "_law_far" ["_law_web_here", "_law_part_here"] C__law_far.s := by
  obtain ⟨f, fd, F, gm, bd⟩ := O.ex
  refine ⟨f, fd, pfn_ok F sc__law_far ln__law_far ?_, gm, F.kp, bd⟩
  intro cdv A outer s H E hr
  exact ⟨_, rd__law_far, dss_cons (ds_set 2 sc__law_far.nd (de_disp (dp_cons (de_int) (de_int) (dp_nil)) (by rfl) (by rfl) (fun z => by cases z) (by decide)))
  (dss_cons (ds_for rfl (di_range1 B.h_range (da_cons (de_ix (de_ix (de_var 0) (de_int)) (de_var 1)) (da_nil))) (dg_name 3 sc__law_far.nd) (dss_one (ds_for rfl (di_list (de_ix (de_var 0) (de_int))) (dg_name 4 sc__law_far.nd) (dss_one (ds_if (dt_w (dw_and (dt_eq hr (de_ix (de_var 4) (de_int)) (de_var 1)) (dw_and1 (dt_din hr (de_ix (de_var 4) (de_int)) (de_var 2))))) (dss_one (ds_dput hr (de_var 2) (de_ix (de_var 4) (de_int)) (de_min rfl B.h_min (da_cons (de_getD hr (de_var 2) (de_ix (de_var 4) (de_int)) (de_int)) (da_cons (de_add (de_get hr (de_var 2) (de_ix (de_var 4) (de_int))) (de_int)) (da_nil)))))) (dss_nil))))))
  (dss_one (ds_ret (de_var 2)))), rp__law_far⟩

abbrev s__law_leaving : Stmt := topS 26
theorem sc__law_leaving : FnScope ["_law_web_here", "_law_stack_here", "_law_short", "_law_fars", "_law_part_here", "_law_place", "_law_some", "_law_least", "_law_k"] ["_law_web_here", "_law_stack_here", "_law_short", "_law_fars"] (defScope s__law_leaving) := ⟨rfl, rfl, rfl, by decide +kernel, rfl, by decide +kernel, by decide +kernel⟩
theorem kn__law_leaving {P : Program} {w : World} {K : PySem.W.Frag} {mg : Str → Option Value} {base : Heap} {k : Nat} (B : Bi mg) (M : Mi mg) (O : Ow K mg "_law_leaving" s__law_leaving ["_law_web_here", "_law_stack_here", "_law_short", "_law_fars"])  : Kn P w K mg base (k + 1) "_law_leaving" ["_law_web_here", "_law_stack_here", "_law_short", "_law_fars"] C__law_leaving.s := by
  obtain ⟨f, fd, F, gm, bd⟩ := O.ex
  refine ⟨f, fd, pfn_ok F sc__law_leaving ln__law_leaving ?_, gm, F.kp, bd⟩
  intro cdv A outer s H E hr
  exact ⟨_, rd__law_leaving, dss_cons (ds_asg (de_ix (de_var 1) (de_neg (de_int))) (dg_tup rfl (dgs_cons (dg_name 4 sc__law_leaving.nd) (dgs_cons (dg_name 5 sc__law_leaving.nd) (dgs_nil)))))
  (dss_cons (ds_setLcU 6 (fin := finT) (own := [("_law_k", 8)]) fin_T rfl sc__law_leaving.nd (di_range1 B.h_range (da_cons (de_len B.h_len (da_cons (de_ix (de_var 0) (de_int)) (da_nil))) (da_nil))) (blkOk_by (own := [("_law_k", 8)]) (N := ["_law_web_here", "_law_stack_here", "_law_short", "_law_fars", "_law_part_here", "_law_place", "_law_some", "_law_least", "_law_k"]) (sc := defScope s__law_leaving) (by decide +kernel)) (fun _ _ _ _ _ => ⟨_, cg_name 8 sc__law_leaving.nd⟩) (fun _ _ _ _ _ => ⟨_, dts_one (dt_eq hr (de_slT (de_ix (de_ix (de_var 0) (de_int)) (de_var 8)) (do_none) (do_some (de_int))) (de_tup (da_cons (de_var 4) (da_cons (de_var 5) (da_nil)))))⟩) (fun _ _ _ _ _ => ⟨_, de_var 8⟩) s)
  (dss_cons (ds_if (dt_val (de_var 2)) (dss_cons (ds_set 7 sc__law_leaving.nd (de_min rfl B.h_min (da_cons (de_lcU (fin := finT) (own := [("_law_k", 8)]) fin_T rfl sc__law_leaving.nd (di_list (de_var 6)) (blkOk_by (own := [("_law_k", 8)]) (N := ["_law_web_here", "_law_stack_here", "_law_short", "_law_fars", "_law_part_here", "_law_place", "_law_some", "_law_least", "_law_k"]) (sc := defScope s__law_leaving) (by decide +kernel)) (fun _ _ _ _ _ => ⟨_, cg_name 8 sc__law_leaving.nd⟩) (fun _ _ _ _ _ => ⟨_, dts_nil⟩) (fun _ _ _ _ _ => ⟨_, de_get hr (de_ix (de_var 3) (de_var 4)) (de_ix (de_ix (de_ix (de_var 0) (de_int)) (de_var 8)) (de_int))⟩) s) (da_nil))))
  (dss_one (ds_set 6 sc__law_leaving.nd (de_sl (de_lcU (fin := finT) (own := [("_law_k", 8)]) fin_T rfl sc__law_leaving.nd (di_list (de_var 6)) (blkOk_by (own := [("_law_k", 8)]) (N := ["_law_web_here", "_law_stack_here", "_law_short", "_law_fars", "_law_part_here", "_law_place", "_law_some", "_law_least", "_law_k"]) (sc := defScope s__law_leaving) (by decide +kernel)) (fun _ _ _ _ _ => ⟨_, cg_name 8 sc__law_leaving.nd⟩) (fun _ _ _ _ _ => ⟨_, dts_one (dt_eq hr (de_get hr (de_ix (de_var 3) (de_var 4)) (de_ix (de_ix (de_ix (de_var 0) (de_int)) (de_var 8)) (de_int))) (de_var 7))⟩) (fun _ _ _ _ _ => ⟨_, de_var 8⟩) s) (do_none) (do_some (de_int)))))) (dss_nil))
  (dss_one (ds_ret (de_var 6))))), rp__law_leaving⟩

abbrev s__law_behind : Stmt := topS 27
theorem sc__law_behind : FnScope ["_law_web_here", "_law_stack_here", "_law_k"] ["_law_web_here", "_law_stack_here", "_law_k"] (defScope s__law_behind) := ⟨rfl, rfl, rfl, by decide +kernel, rfl, by decide +kernel, by decide +kernel⟩
theorem kn__law_behind {P : Program} {w : World} {K : PySem.W.Frag} {mg : Str → Option Value} {base : Heap} {k : Nat} (B : Bi mg) (M : Mi mg) (O : Ow K mg "_law_behind" s__law_behind ["_law_web_here", "_law_stack_here", "_law_k"])  : Kn P w K mg base (k + 1) "_law_behind" ["_law_web_here", "_law_stack_here", "_law_k"] C__law_behind.s := by
  obtain ⟨f, fd, F, gm, bd⟩ := O.ex
  refine ⟨f, fd, pfn_ok F sc__law_behind ln__law_behind ?_, gm, F.kp, bd⟩
  intro cdv A outer s H E hr
  exact ⟨_, rd__law_behind, dss_cons (ds_set 1 sc__law_behind.nd (de_addH (de_sl (de_var 1) (do_none) (do_some (de_neg (de_int)))) (de_lst (da_cons (de_tup (da_cons (de_ix (de_ix (de_ix (de_var 0) (de_int)) (de_var 2)) (de_int)) (da_cons (de_ix (de_ix (de_ix (de_var 0) (de_int)) (de_var 2)) (de_int)) (da_nil)))) (da_nil)))))
  (dss_cons (ds_if (dt_ge (de_ix (de_ix (de_ix (de_var 0) (de_int)) (de_var 2)) (de_int)) (de_int)) (dss_one (ds_expr (de_append (de_var 1) (da_cons (de_tup (da_cons (de_ix (de_ix (de_ix (de_var 0) (de_int)) (de_var 2)) (de_int)) (da_cons (de_int) (da_nil)))) (da_nil))))) (dss_nil))
  (dss_cons (ds_while (dt_w (dw_and (dt_gt (de_len B.h_len (da_cons (de_var 1) (da_nil))) (de_int)) (dw_and1 (dt_eq hr (de_ix (de_ix (de_var 1) (de_neg (de_int))) (de_int)) (de_int))))) (dss_one (ds_expr (de_pop (de_var 1)))))
  (dss_one (ds_ret (de_var 1))))), rp__law_behind⟩

abbrev s__law_run : Stmt := topS 28
theorem sc__law_run : FnScope ["_law_web_here", "_law_left_here", "_law_most", "_law_fars", "_law_rows", "_law_stack_here", "_law_some", "_law_part_here"] ["_law_web_here", "_law_left_here", "_law_most"] (defScope s__law_run) := ⟨rfl, rfl, rfl, by decide +kernel, rfl, by decide +kernel, by decide +kernel⟩
theorem kn__law_run {P : Program} {w : World} {K : PySem.W.Frag} {mg : Str → Option Value} {base : Heap} {k : Nat} (B : Bi mg) (M : Mi mg) (O : Ow K mg "_law_run" s__law_run ["_law_web_here", "_law_left_here", "_law_most"]) (G__law_far : Kn P w K mg base k "_law_far" ["_law_web_here", "_law_part_here"] C__law_far.s) (G__law_leaving : Kn P w K mg base k "_law_leaving" ["_law_web_here", "_law_stack_here", "_law_short", "_law_fars"] C__law_leaving.s) (G__law_draw : Kn P w K mg base k "_law_draw" ["_law_left_here", "_law_base"] C__law_draw) (G__law_behind : Kn P w K mg base k "_law_behind" ["_law_web_here", "_law_stack_here", "_law_k"] C__law_behind.s) : Kn P w K mg base (k + 1) "_law_run" ["_law_web_here", "_law_left_here", "_law_most"] C__law_run := by
  obtain ⟨f, fd, F, gm, bd⟩ := O.ex
  obtain ⟨f__law_far, fd__law_far, ok__law_far, mg__law_far, kp__law_far, bd__law_far⟩ := G__law_far.ex
  obtain ⟨f__law_leaving, fd__law_leaving, ok__law_leaving, mg__law_leaving, kp__law_leaving, bd__law_leaving⟩ := G__law_leaving.ex
  obtain ⟨f__law_draw, fd__law_draw, ok__law_draw, mg__law_draw, kp__law_draw, bd__law_draw⟩ := G__law_draw.ex
  obtain ⟨f__law_behind, fd__law_behind, ok__law_behind, mg__law_behind, kp__law_behind, bd__law_behind⟩ := G__law_behind.ex
  refine ⟨f, fd, dfn_ok F sc__law_run ln__law_run ?_, gm, F.kp, bd⟩
  intro cdv A outer s H E hr
  exact ⟨_, rd__law_run, dss_cons (ds_setLcU 3 (fin := finT) (own := [("_law_part_here", 7)]) fin_T rfl sc__law_run.nd (di_range1 B.h_range (da_cons (de_len B.h_len (da_cons (de_ix (de_var 0) (de_int)) (da_nil))) (da_nil))) (blkOk_by (own := [("_law_part_here", 7)]) (N := ["_law_web_here", "_law_left_here", "_law_most", "_law_fars", "_law_rows", "_law_stack_here", "_law_some", "_law_part_here"]) (sc := defScope s__law_run) (by decide +kernel)) (fun _ _ _ _ _ => ⟨_, cg_name 7 sc__law_run.nd⟩) (fun _ _ _ _ _ => ⟨_, dts_nil⟩) (fun _ _ _ _ _ => ⟨_, de_callT ok__law_far hr mg__law_far kp__law_far bd__law_far (da_cons (de_var 0) (da_cons (de_var 7) (da_nil)))⟩) s)
  (dss_cons (ds_set 4 sc__law_run.nd (de_lstH (da_nil)))
  (dss_cons (ds_set 5 sc__law_run.nd (de_lst (da_cons (de_tup (da_cons (de_int) (da_cons (de_int) (da_nil)))) (da_nil))))
  (dss_cons (ds_while (dt_gt (de_len B.h_len (da_cons (de_var 5) (da_nil))) (de_int)) (dss_cons (ds_set 6 sc__law_run.nd (de_callT ok__law_leaving hr mg__law_leaving kp__law_leaving bd__law_leaving (da_cons (de_var 0) (da_cons (de_var 5) (da_cons (de_ge (de_len B.h_len (da_cons (de_var 4) (da_nil))) (de_var 2)) (da_cons (de_var 3) (da_nil)))))))
  (dss_cons (ds_expr (de_append (de_var 4) (da_cons (de_ix (de_var 6) (de_callS ok__law_draw hr mg__law_draw kp__law_draw bd__law_draw (da_cons (de_var 1) (da_cons (de_len B.h_len (da_cons (de_var 6) (da_nil))) (da_nil))))) (da_nil))))
  (dss_one (ds_set 5 sc__law_run.nd (de_callT ok__law_behind hr mg__law_behind kp__law_behind bd__law_behind (da_cons (de_var 0) (da_cons (de_var 5) (da_cons (de_ix (de_var 4) (de_neg (de_int))) (da_nil))))))))))
  (dss_one (ds_ret (de_var 4)))))), rp__law_run⟩

abbrev s__law_heap : Stmt := topS 29
theorem sc__law_heap : FnScope ["_law_script", "_law_at", "_law_web_here", "_law_most_runs", "_law_most", "_law_left_here", "_law_heap_here", "_law_room", "_law_turn", "_law_run_here"] ["_law_script", "_law_at", "_law_web_here", "_law_most_runs", "_law_most"] (defScope s__law_heap) := ⟨rfl, rfl, rfl, by decide +kernel, rfl, by decide +kernel, by decide +kernel⟩
theorem kn__law_heap {P : Program} {w : World} {K : PySem.W.Frag} {mg : Str → Option Value} {base : Heap} {k : Nat} (B : Bi mg) (M : Mi mg) (O : Ow K mg "_law_heap" s__law_heap ["_law_script", "_law_at", "_law_web_here", "_law_most_runs", "_law_most"]) (G__law_left : Kn P w K mg base k "_law_left" ["_law_script", "_law_k"] C__law_left.s) (G__law_draw : Kn P w K mg base k "_law_draw" ["_law_left_here", "_law_base"] C__law_draw) (G__law_run : Kn P w K mg base k "_law_run" ["_law_web_here", "_law_left_here", "_law_most"] C__law_run) : Kn P w K mg base (k + 1) "_law_heap" ["_law_script", "_law_at", "_law_web_here", "_law_most_runs", "_law_most"] C__law_heap.s := by
  obtain ⟨f, fd, F, gm, bd⟩ := O.ex
  obtain ⟨f__law_left, fd__law_left, ok__law_left, mg__law_left, kp__law_left, bd__law_left⟩ := G__law_left.ex
  obtain ⟨f__law_draw, fd__law_draw, ok__law_draw, mg__law_draw, kp__law_draw, bd__law_draw⟩ := G__law_draw.ex
  obtain ⟨f__law_run, fd__law_run, ok__law_run, mg__law_run, kp__law_run, bd__law_run⟩ := G__law_run.ex
  refine ⟨f, fd, pfn_ok F sc__law_heap ln__law_heap ?_, gm, F.kp, bd⟩
  intro cdv A outer s H E hr
  exact ⟨_, rd__law_heap, dss_cons (ds_set 5 sc__law_heap.nd (de_callH ok__law_left hr mg__law_left kp__law_left bd__law_left (da_cons (de_var 0) (da_cons (de_var 1) (da_nil)))))
  (dss_cons (ds_set 6 sc__law_heap.nd (de_lstH (da_nil)))
  (dss_cons (ds_set 7 sc__law_heap.nd (de_int))
  (dss_cons (ds_for rfl (di_range1 B.h_range (da_cons (de_callS ok__law_draw hr mg__law_draw kp__law_draw bd__law_draw (da_cons (de_var 5) (da_cons (de_add (de_var 3) (de_int)) (da_nil)))) (da_nil))) (dg_name 8 sc__law_heap.nd) (dss_cons (ds_set 9 sc__law_heap.nd (de_callS ok__law_run hr mg__law_run kp__law_run bd__law_run (da_cons (de_var 2) (da_cons (de_callH ok__law_left hr mg__law_left kp__law_left bd__law_left (da_cons (de_var 0) (da_cons (de_add (de_add (de_var 1) (de_int)) (de_var 8)) (da_nil)))) (da_cons (de_var 4) (da_nil))))))
  (dss_one (ds_if (dt_le (de_len B.h_len (da_cons (de_var 9) (da_nil))) (de_var 7)) (dss_cons (ds_expr (de_append (de_var 6) (da_cons (de_frz 9) (da_nil))))
  (dss_one (ds_set 7 sc__law_heap.nd (de_sub (de_var 7) (de_len B.h_len (da_cons (de_var 9) (da_nil))))))) (dss_nil)))))
  (dss_one (ds_ret (de_var 6)))))), rp__law_heap⟩

abbrev s__law_copy : Stmt := topS 24
theorem sc__law_copy : FnScope ["_law_web_here"] ["_law_web_here"] (defScope s__law_copy) := ⟨rfl, rfl, rfl, by decide +kernel, rfl, by decide +kernel, by decide +kernel⟩
theorem kn__law_copy {P : Program} {w : World} {K : PySem.W.Frag} {mg : Str → Option Value} {base : Heap} {k : Nat} (B : Bi mg) (M : Mi mg) (O : Ow K mg "_law_copy" s__law_copy ["_law_web_here"])  : Kn P w K mg base (k + 1) "_law_copy" ["_law_web_here"] C__law_copy.s := by
  obtain ⟨f, fd, F, gm, bd⟩ := O.ex
  refine ⟨f, fd, pfn_ok F sc__law_copy ln__law_copy ?_, gm, F.kp, bd⟩
  intro cdv A outer s H E hr
  exact ⟨_, rd__law_copy, dss_one (ds_ret (de_tup (da_cons (de_listOf B.h_list (da_cons (de_ix (de_var 0) (de_int)) (da_nil))) (da_cons (de_listOf B.h_list (da_cons (de_ix (de_var 0) (de_int)) (da_nil))) (da_nil))))), rp__law_copy⟩

abbrev s_fits_row : Stmt := topS 9
theorem sc_fits_row : FnScope ["web", "row", "places", "rows", "part", "start", "end", "calls"] ["web", "row"] (defScope s_fits_row) := ⟨rfl, rfl, rfl, by decide +kernel, rfl, by decide +kernel, by decide +kernel⟩
theorem kn_fits_row {P : Program} {w : World} {K : PySem.W.Frag} {mg : Str → Option Value} {base : Heap} {k : Nat} (B : Bi mg) (M : Mi mg) (O : Ow K mg "fits_row" s_fits_row ["web", "row"])  : Kn P w K mg base (k + 1) "fits_row" ["web", "row"] C_fits_row.s := by
  obtain ⟨f, fd, F, gm, bd⟩ := O.ex
  refine ⟨f, fd, pfn_ok F sc_fits_row ln_fits_row ?_, gm, F.kp, bd⟩
  intro cdv A outer s H E hr
  exact ⟨_, rd_fits_row, dss_cons (ds_asg (de_var 0) (dg_tup rfl (dgs_cons (dg_name 2 sc_fits_row.nd) (dgs_cons (dg_name 3 sc_fits_row.nd) (dgs_nil)))))
  (dss_cons (ds_asg (de_var 1) (dg_tup rfl (dgs_cons (dg_name 4 sc_fits_row.nd) (dgs_cons (dg_name 5 sc_fits_row.nd) (dgs_cons (dg_name 6 sc_fits_row.nd) (dgs_cons (dg_name 7 sc_fits_row.nd) (dgs_nil)))))))
  (dss_cons (ds_if (dt_w (dw_or (dt_lt (de_var 4) (de_int)) (dw_or (dt_ge (de_var 4) (de_len B.h_len (da_cons (de_var 2) (da_nil)))) (dw_or (dt_lt (de_min rfl B.h_min (da_cons (de_var 5) (da_cons (de_var 6) (da_nil)))) (de_int)) (dw_or1 (dt_ge (de_max rfl B.h_max (da_cons (de_var 5) (da_cons (de_var 6) (da_nil)))) (de_ix (de_var 2) (de_var 4)))))))) (dss_one (ds_ret (de_bl))) (dss_nil))
  (dss_one (ds_ret (de_and (de_ne hr (de_var 5) (de_int)) (de_and (de_lt (de_var 7) (de_len B.h_len (da_cons (de_var 2) (da_nil)))) (de_one (de_or (de_eq hr (de_var 7) (de_neg (de_int))) (de_one (de_gt (de_var 7) (de_var 4))))))))))), rp_fits_row⟩

abbrev s_rows_of : Stmt := topS 7
theorem sc_rows_of : FnScope ["web", "part", "k"] ["web", "part"] (defScope s_rows_of) := ⟨rfl, rfl, rfl, by decide +kernel, rfl, by decide +kernel, by decide +kernel⟩
theorem kn_rows_of {P : Program} {w : World} {K : PySem.W.Frag} {mg : Str → Option Value} {base : Heap} {k : Nat} (B : Bi mg) (M : Mi mg) (O : Ow K mg "rows_of" s_rows_of ["web", "part"])  : Kn P w K mg base (k + 1) "rows_of" ["web", "part"] C_rows_of.s := by
  obtain ⟨f, fd, F, gm, bd⟩ := O.ex
  refine ⟨f, fd, pfn_ok F sc_rows_of ln_rows_of ?_, gm, F.kp, bd⟩
  intro cdv A outer s H E hr
  exact ⟨_, rd_rows_of, dss_one (ds_ret (de_lcU (fin := finH) (own := [("k", 2)]) fin_H rfl sc_rows_of.nd (di_range1 B.h_range (da_cons (de_len B.h_len (da_cons (de_ix (de_var 0) (de_int)) (da_nil))) (da_nil))) (blkOk_by (own := [("k", 2)]) (N := ["web", "part", "k"]) (sc := defScope s_rows_of) (by decide +kernel)) (fun _ _ _ _ _ => ⟨_, cg_name 2 sc_rows_of.nd⟩) (fun _ _ _ _ _ => ⟨_, dts_one (dt_eq hr (de_ix (de_ix (de_ix (de_var 0) (de_int)) (de_var 2)) (de_int)) (de_var 1))⟩) (fun _ _ _ _ _ => ⟨_, de_var 2⟩) s)), rp_rows_of⟩

abbrev s_reached : Stmt := topS 8
theorem sc_reached : FnScope ["web", "part", "start", "turned", "found", "many", "k", "one", "other"] ["web", "part", "start", "turned"] (defScope s_reached) := ⟨rfl, rfl, rfl, by decide +kernel, rfl, by decide +kernel, by decide +kernel⟩
theorem kn_reached {P : Program} {w : World} {K : PySem.W.Frag} {mg : Str → Option Value} {base : Heap} {k : Nat} (B : Bi mg) (M : Mi mg) (O : Ow K mg "reached" s_reached ["web", "part", "start", "turned"]) (G_rows_of : Kn P w K mg base k "rows_of" ["web", "part"] C_rows_of.s) : Kn P w K mg base (k + 1) "reached" ["web", "part", "start", "turned"] C_reached.s := by
  obtain ⟨f, fd, F, gm, bd⟩ := O.ex
  obtain ⟨f_rows_of, fd_rows_of, ok_rows_of, mg_rows_of, kp_rows_of, bd_rows_of⟩ := G_rows_of.ex
  refine ⟨f, fd, pfn_ok F sc_reached ln_reached ?_, gm, F.kp, bd⟩
  intro cdv A outer s H E hr
  exact ⟨_, rd_reached, dss_cons (ds_set 4 sc_reached.nd (de_disp (dp_cons (de_var 2) (de_bl) (dp_nil)) (by rfl) (by rfl) (fun z => by cases z) (by decide)))
  (dss_cons (ds_set 5 sc_reached.nd (de_int))
  (dss_cons (ds_while (dt_lt (de_var 5) (de_len B.h_len (da_cons (de_var 4) (da_nil)))) (dss_cons (ds_set 5 sc_reached.nd (de_len B.h_len (da_cons (de_var 4) (da_nil))))
  (dss_one (ds_for rfl (di_list (de_callT ok_rows_of hr mg_rows_of kp_rows_of bd_rows_of (da_cons (de_var 0) (da_cons (de_var 1) (da_nil))))) (dg_name 6 sc_reached.nd) (dss_cons (ds_par 7 8 sc_reached.nd (da_cons (de_ix (de_ix (de_ix (de_var 0) (de_int)) (de_var 6)) (de_int)) (da_cons (de_ix (de_ix (de_ix (de_var 0) (de_int)) (de_var 6)) (de_int)) (da_nil))))
  (dss_cons (ds_if (dt_val (de_var 3)) (dss_one (ds_par 7 8 sc_reached.nd (da_cons (de_var 8) (da_cons (de_var 7) (da_nil))))) (dss_nil))
  (dss_one (ds_if (dt_din hr (de_var 7) (de_var 4)) (dss_one (ds_dput hr (de_var 4) (de_var 8) (de_bl))) (dss_nil)))))))))
  (dss_one (ds_ret (de_var 4))))), rp_reached⟩

abbrev s_is_web : Stmt := topS 10
theorem sc_is_web : FnScope ["web", "places", "rows", "row", "part"] ["web"] (defScope s_is_web) := ⟨rfl, rfl, rfl, by decide +kernel, rfl, by decide +kernel, by decide +kernel⟩
theorem kn_is_web {P : Program} {w : World} {K : PySem.W.Frag} {mg : Str → Option Value} {base : Heap} {k : Nat} (B : Bi mg) (M : Mi mg) (O : Ow K mg "is_web" s_is_web ["web"]) (G_fits_row : Kn P w K mg base k "fits_row" ["web", "row"] C_fits_row.s) (G_reached : Kn P w K mg base k "reached" ["web", "part", "start", "turned"] C_reached.s) : Kn P w K mg base (k + 1) "is_web" ["web"] C_is_web.s := by
  obtain ⟨f, fd, F, gm, bd⟩ := O.ex
  obtain ⟨f_fits_row, fd_fits_row, ok_fits_row, mg_fits_row, kp_fits_row, bd_fits_row⟩ := G_fits_row.ex
  obtain ⟨f_reached, fd_reached, ok_reached, mg_reached, kp_reached, bd_reached⟩ := G_reached.ex
  refine ⟨f, fd, pfn_ok F sc_is_web ln_is_web ?_, gm, F.kp, bd⟩
  intro cdv A outer s H E hr
  exact ⟨_, rd_is_web, dss_cons (ds_asg (de_var 0) (dg_tup rfl (dgs_cons (dg_name 1 sc_is_web.nd) (dgs_cons (dg_name 2 sc_is_web.nd) (dgs_nil)))))
  (dss_cons (ds_if (dt_w (dw_or (dt_lt (de_len B.h_len (da_cons (de_var 1) (da_nil))) (de_int)) (dw_or (dt_gt (de_len B.h_len (da_cons (de_var 1) (da_nil))) (de_globE (by rfl) M.m_MOST_PARTS)) (dw_or (dt_lt (de_len B.h_len (da_cons (de_var 2) (da_nil))) (de_int)) (dw_or1 (dt_gt (de_len B.h_len (da_cons (de_var 2) (da_nil))) (de_globE (by rfl) M.m_MOST_ROWS))))))) (dss_one (ds_ret (de_bl))) (dss_nil))
  (dss_cons (ds_if (dt_w (dw_or (dt_lt (de_min rfl B.h_min (da_cons (de_var 1) (da_nil))) (de_int)) (dw_or1 (dt_gt (de_max rfl B.h_max (da_cons (de_var 1) (da_nil))) (de_globE (by rfl) M.m_MOST_PLACES))))) (dss_one (ds_ret (de_bl))) (dss_nil))
  (dss_cons (ds_for rfl (di_list (de_var 2)) (dg_name 3 sc_is_web.nd) (dss_one (ds_if (dt_not (dt_val (de_callT ok_fits_row hr mg_fits_row kp_fits_row bd_fits_row (da_cons (de_var 0) (da_cons (de_var 3) (da_nil)))))) (dss_one (ds_ret (de_bl))) (dss_nil))))
  (dss_cons (ds_for rfl (di_range1 B.h_range (da_cons (de_len B.h_len (da_cons (de_var 1) (da_nil))) (da_nil))) (dg_name 4 sc_is_web.nd) (dss_cons (ds_if (dt_w (dw_or (dt_ne hr (de_len B.h_len (da_cons (de_callT ok_reached hr mg_reached kp_reached bd_reached (da_cons (de_var 0) (da_cons (de_var 4) (da_cons (de_int) (da_cons (de_bl) (da_nil)))))) (da_nil))) (de_ix (de_var 1) (de_var 4))) (dw_or1 (dt_ne hr (de_len B.h_len (da_cons (de_callT ok_reached hr mg_reached kp_reached bd_reached (da_cons (de_var 0) (da_cons (de_var 4) (da_cons (de_int) (da_cons (de_bl) (da_nil)))))) (da_nil))) (de_ix (de_var 1) (de_var 4)))))) (dss_one (ds_ret (de_bl))) (dss_nil))
  (dss_one (ds_if (dt_w (dw_and (dt_gt (de_var 4) (de_int)) (dw_and1 (dt_notin (de_var 4) (de_lcU (fin := finT) (own := [("row", 3)]) fin_T rfl sc_is_web.nd (di_list (de_var 2)) (blkOk_by (own := [("row", 3)]) (N := ["web", "places", "rows", "row", "part"]) (sc := defScope s_is_web) (by decide +kernel)) (fun _ _ _ _ _ => ⟨_, cg_name 3 sc_is_web.nd⟩) (fun _ _ _ _ _ => ⟨_, dts_nil⟩) (fun _ _ _ _ _ => ⟨_, de_ix (de_var 3) (de_int)⟩) s))))) (dss_one (ds_ret (de_bl))) (dss_nil)))))
  (dss_one (ds_ret (de_bl))))))), rp_is_web⟩

abbrev s_must_be_web : Stmt := topS 11
theorem sc_must_be_web : FnScope ["web"] ["web"] (defScope s_must_be_web) := ⟨rfl, rfl, rfl, by decide +kernel, rfl, by decide +kernel, by decide +kernel⟩
theorem kn_must_be_web {P : Program} {w : World} {K : PySem.W.Frag} {mg : Str → Option Value} {base : Heap} {k : Nat} (B : Bi mg) (M : Mi mg) (O : Ow K mg "must_be_web" s_must_be_web ["web"]) (G_is_web : Kn P w K mg base k "is_web" ["web"] C_is_web.s) : Kn P w K mg base (k + 1) "must_be_web" ["web"] C_must_be_web.s := by
  obtain ⟨f, fd, F, gm, bd⟩ := O.ex
  obtain ⟨f_is_web, fd_is_web, ok_is_web, mg_is_web, kp_is_web, bd_is_web⟩ := G_is_web.ex
  refine ⟨f, fd, pfn_ok F sc_must_be_web ln_must_be_web ?_, gm, F.kp, bd⟩
  intro cdv A outer s H E hr
  exact ⟨_, rd_must_be_web, dss_one (ds_if (dt_not (dt_val (de_callT ok_is_web hr mg_is_web kp_is_web bd_is_web (da_cons (de_var 0) (da_nil))))) (dss_one (ds_never)) (dss_nil)), rp_must_be_web⟩

abbrev s_relation_at : Stmt := topS 13
theorem sc_relation_at : FnScope ["web", "part", "place", "found", "row", "here", "begun", "other"] ["web", "part", "place"] (defScope s_relation_at) := ⟨rfl, rfl, rfl, by decide +kernel, rfl, by decide +kernel, by decide +kernel⟩
theorem kn_relation_at {P : Program} {w : World} {K : PySem.W.Frag} {mg : Str → Option Value} {base : Heap} {k : Nat} (B : Bi mg) (M : Mi mg) (O : Ow K mg "relation_at" s_relation_at ["web", "part", "place"])  : Kn P w K mg base (k + 1) "relation_at" ["web", "part", "place"] C_relation_at.s := by
  obtain ⟨f, fd, F, gm, bd⟩ := O.ex
  refine ⟨f, fd, pfn_ok F sc_relation_at ln_relation_at ?_, gm, F.kp, bd⟩
  intro cdv A outer s H E hr
  exact ⟨_, rd_relation_at, dss_cons (ds_set 3 sc_relation_at.nd (de_lstH (da_nil)))
  (dss_cons (ds_for rfl (di_list (de_ix (de_var 0) (de_int))) (dg_name 4 sc_relation_at.nd) (dss_cons (ds_set 5 sc_relation_at.nd (de_eq hr (de_ix (de_var 4) (de_int)) (de_var 1)))
  (dss_one (ds_expr (de_append (de_var 3) (da_cons (de_sub (de_intOf B.h_int (da_cons (de_and (de_var 5) (de_one (de_eq hr (de_ix (de_var 4) (de_int)) (de_var 2)))) (da_nil))) (de_intOf B.h_int (da_cons (de_and (de_var 5) (de_one (de_eq hr (de_ix (de_var 4) (de_int)) (de_var 2)))) (da_nil)))) (da_nil)))))))
  (dss_cons (ds_set 6 sc_relation_at.nd (de_sub (de_intOf B.h_int (da_cons (de_eq hr (de_var 2) (de_int)) (da_nil))) (de_intOf B.h_int (da_cons (de_eq hr (de_var 2) (de_int)) (da_nil)))))
  (dss_one (ds_ret (de_addH (de_var 3) (de_lcU (fin := finT) (own := [("other", 7)]) fin_T rfl sc_relation_at.nd (di_range1 B.h_range (da_cons (de_len B.h_len (da_cons (de_ix (de_var 0) (de_int)) (da_nil))) (da_nil))) (blkOk_by (own := [("other", 7)]) (N := ["web", "part", "place", "found", "row", "here", "begun", "other"]) (sc := defScope s_relation_at) (by decide +kernel)) (fun _ _ _ _ _ => ⟨_, cg_name 7 sc_relation_at.nd⟩) (fun _ _ _ _ _ => ⟨_, dts_nil⟩) (fun _ _ _ _ _ => ⟨_, de_mul (de_var 6) (de_intOf B.h_int (da_cons (de_eq hr (de_var 7) (de_var 1)) (da_nil)))⟩) s)))))), rp_relation_at⟩

abbrev s_relation_of_calls : Stmt := topS 14
theorem sc_relation_of_calls : FnScope ["web", "part", "row", "other"] ["web", "part"] (defScope s_relation_of_calls) := ⟨rfl, rfl, rfl, by decide +kernel, rfl, by decide +kernel, by decide +kernel⟩
theorem kn_relation_of_calls {P : Program} {w : World} {K : PySem.W.Frag} {mg : Str → Option Value} {base : Heap} {k : Nat} (B : Bi mg) (M : Mi mg) (O : Ow K mg "relation_of_calls" s_relation_of_calls ["web", "part"])  : Kn P w K mg base (k + 1) "relation_of_calls" ["web", "part"] C_relation_of_calls.s := by
  obtain ⟨f, fd, F, gm, bd⟩ := O.ex
  refine ⟨f, fd, pfn_ok F sc_relation_of_calls ln_relation_of_calls ?_, gm, F.kp, bd⟩
  intro cdv A outer s H E hr
  exact ⟨_, rd_relation_of_calls, dss_one (ds_ret (de_addH (de_lcU (fin := finT) (own := [("row", 2)]) fin_T rfl sc_relation_of_calls.nd (di_list (de_ix (de_var 0) (de_int))) (blkOk_by (own := [("row", 2)]) (N := ["web", "part", "row", "other"]) (sc := defScope s_relation_of_calls) (by decide +kernel)) (fun _ _ _ _ _ => ⟨_, cg_name 2 sc_relation_of_calls.nd⟩) (fun _ _ _ _ _ => ⟨_, dts_nil⟩) (fun _ _ _ _ _ => ⟨_, de_intOf B.h_int (da_cons (de_eq hr (de_ix (de_var 2) (de_int)) (de_var 1)) (da_nil))⟩) s) (de_lcU (fin := finT) (own := [("other", 3)]) fin_T rfl sc_relation_of_calls.nd (di_range1 B.h_range (da_cons (de_len B.h_len (da_cons (de_ix (de_var 0) (de_int)) (da_nil))) (da_nil))) (blkOk_by (own := [("other", 3)]) (N := ["web", "part", "row", "other"]) (sc := defScope s_relation_of_calls) (by decide +kernel)) (fun _ _ _ _ _ => ⟨_, cg_name 3 sc_relation_of_calls.nd⟩) (fun _ _ _ _ _ => ⟨_, dts_nil⟩) (fun _ _ _ _ _ => ⟨_, de_sub (de_int) (de_intOf B.h_int (da_cons (de_eq hr (de_var 3) (de_var 1)) (da_nil)))⟩) s))), rp_relation_of_calls⟩

abbrev s_related : Stmt := topS 15
theorem sc_related : FnScope ["web", "found", "part", "place"] ["web"] (defScope s_related) := ⟨rfl, rfl, rfl, by decide +kernel, rfl, by decide +kernel, by decide +kernel⟩
theorem kn_related {P : Program} {w : World} {K : PySem.W.Frag} {mg : Str → Option Value} {base : Heap} {k : Nat} (B : Bi mg) (M : Mi mg) (O : Ow K mg "related" s_related ["web"]) (G_relation_at : Kn P w K mg base k "relation_at" ["web", "part", "place"] C_relation_at.s) (G_relation_of_calls : Kn P w K mg base k "relation_of_calls" ["web", "part"] C_relation_of_calls.s) : Kn P w K mg base (k + 1) "related" ["web"] C_related := by
  obtain ⟨f, fd, F, gm, bd⟩ := O.ex
  obtain ⟨f_relation_at, fd_relation_at, ok_relation_at, mg_relation_at, kp_relation_at, bd_relation_at⟩ := G_relation_at.ex
  obtain ⟨f_relation_of_calls, fd_relation_of_calls, ok_relation_of_calls, mg_relation_of_calls, kp_relation_of_calls, bd_relation_of_calls⟩ := G_relation_of_calls.ex
  refine ⟨f, fd, dfn_ok F sc_related ln_related ?_, gm, F.kp, bd⟩
  intro cdv A outer s H E hr
  exact ⟨_, rd_related, dss_cons (ds_set 1 sc_related.nd (de_lstW (da_nil)))
  (dss_cons (ds_for rfl (di_range1 B.h_range (da_cons (de_len B.h_len (da_cons (de_ix (de_var 0) (de_int)) (da_nil))) (da_nil))) (dg_name 2 sc_related.nd) (dss_one (ds_set 1 sc_related.nd (de_addW (de_var 1) (de_lcU (fin := finW) (own := [("place", 3)]) fin_W rfl sc_related.nd (di_range1 B.h_range (da_cons (de_ix (de_ix (de_var 0) (de_int)) (de_var 2)) (da_nil))) (blkOk_by (own := [("place", 3)]) (N := ["web", "found", "part", "place"]) (sc := defScope s_related) (by decide +kernel)) (fun _ _ _ _ _ => ⟨_, cg_name 3 sc_related.nd⟩) (fun _ _ _ _ _ => ⟨_, dts_nil⟩) (fun _ _ _ _ _ => ⟨_, de_callH ok_relation_at hr mg_relation_at kp_relation_at bd_relation_at (da_cons (de_var 0) (da_cons (de_var 2) (da_cons (de_var 3) (da_nil))))⟩) s)))))
  (dss_one (ds_ret (de_addW (de_var 1) (de_lcU (fin := finW) (own := [("part", 2)]) fin_W rfl sc_related.nd (di_range2 B.h_range (da_cons (de_int) (da_cons (de_len B.h_len (da_cons (de_ix (de_var 0) (de_int)) (da_nil))) (da_nil)))) (blkOk_by (own := [("part", 2)]) (N := ["web", "found", "part", "place"]) (sc := defScope s_related) (by decide +kernel)) (fun _ _ _ _ _ => ⟨_, cg_name 2 sc_related.nd⟩) (fun _ _ _ _ _ => ⟨_, dts_nil⟩) (fun _ _ _ _ _ => ⟨_, de_callH ok_relation_of_calls hr mg_relation_of_calls kp_relation_of_calls bd_relation_of_calls (da_cons (de_var 0) (da_cons (de_var 2) (da_nil)))⟩) s))))), rp_related⟩

abbrev s_relations : Stmt := topS 16
theorem sc_relations : FnScope ["web"] ["web"] (defScope s_relations) := ⟨rfl, rfl, rfl, by decide +kernel, rfl, by decide +kernel, by decide +kernel⟩
theorem kn_relations {P : Program} {w : World} {K : PySem.W.Frag} {mg : Str → Option Value} {base : Heap} {k : Nat} (B : Bi mg) (M : Mi mg) (O : Ow K mg "relations" s_relations ["web"]) (G_must_be_web : Kn P w K mg base k "must_be_web" ["web"] C_must_be_web.s) (G_related : Kn P w K mg base k "related" ["web"] C_related) : Kn P w K mg base (k + 1) "relations" ["web"] C_relations := by
  obtain ⟨f, fd, F, gm, bd⟩ := O.ex
  obtain ⟨f_must_be_web, fd_must_be_web, ok_must_be_web, mg_must_be_web, kp_must_be_web, bd_must_be_web⟩ := G_must_be_web.ex
  obtain ⟨f_related, fd_related, ok_related, mg_related, kp_related, bd_related⟩ := G_related.ex
  refine ⟨f, fd, dfn_ok F sc_relations ln_relations ?_, gm, F.kp, bd⟩
  intro cdv A outer s H E hr
  exact ⟨_, rd_relations, dss_cons (ds_expr (de_callT ok_must_be_web hr mg_must_be_web kp_must_be_web bd_must_be_web (da_cons (de_var 0) (da_nil))))
  (dss_one (ds_ret (de_callS ok_related hr mg_related kp_related bd_related (da_cons (de_var 0) (da_nil))))), rp_relations⟩

abbrev s__law_every : Stmt := topS 32
theorem sc__law_every : FnScope ["_law_web_here", "_law_found", "_law_part_here", "_law_place", "_law_sums", "_law_row", "_law_here", "_law_other"] ["_law_web_here"] (defScope s__law_every) := ⟨rfl, rfl, rfl, by decide +kernel, rfl, by decide +kernel, by decide +kernel⟩
theorem kn__law_every {P : Program} {w : World} {K : PySem.W.Frag} {mg : Str → Option Value} {base : Heap} {k : Nat} (B : Bi mg) (M : Mi mg) (O : Ow K mg "_law_every" s__law_every ["_law_web_here"])  : Kn P w K mg base (k + 1) "_law_every" ["_law_web_here"] C__law_every.s := by
  obtain ⟨f, fd, F, gm, bd⟩ := O.ex
  refine ⟨f, fd, pfn_ok F sc__law_every ln__law_every ?_, gm, F.kp, bd⟩
  intro cdv A outer s H E hr
  exact ⟨_, rd__law_every, dss_cons (ds_set 1 sc__law_every.nd (de_lstH (da_nil)))
  (dss_cons (ds_for rfl (di_range1 B.h_range (da_cons (de_len B.h_len (da_cons (de_ix (de_var 0) (de_int)) (da_nil))) (da_nil))) (dg_name 2 sc__law_every.nd) (dss_one (ds_for rfl (di_range1 B.h_range (da_cons (de_ix (de_ix (de_var 0) (de_int)) (de_var 2)) (da_nil))) (dg_name 3 sc__law_every.nd) (dss_cons (ds_set 4 sc__law_every.nd (de_lstH (da_nil)))
  (dss_cons (ds_for rfl (di_list (de_ix (de_var 0) (de_int))) (dg_name 5 sc__law_every.nd) (dss_cons (ds_set 6 sc__law_every.nd (de_sub (de_intOf B.h_int (da_cons (de_eq hr (de_ix (de_var 5) (de_int)) (de_var 3)) (da_nil))) (de_intOf B.h_int (da_cons (de_eq hr (de_ix (de_var 5) (de_int)) (de_var 3)) (da_nil)))))
  (dss_one (ds_expr (de_append (de_var 4) (da_cons (de_mul (de_var 6) (de_intOf B.h_int (da_cons (de_eq hr (de_ix (de_var 5) (de_int)) (de_var 2)) (da_nil)))) (da_nil)))))))
  (dss_cons (ds_for rfl (di_range1 B.h_range (da_cons (de_len B.h_len (da_cons (de_ix (de_var 0) (de_int)) (da_nil))) (da_nil))) (dg_name 7 sc__law_every.nd) (dss_one (ds_expr (de_append (de_var 4) (da_cons (de_mul (de_intOf B.h_int (da_cons (de_eq hr (de_var 7) (de_var 2)) (da_nil))) (de_sub (de_intOf B.h_int (da_cons (de_eq hr (de_var 3) (de_int)) (da_nil))) (de_intOf B.h_int (da_cons (de_eq hr (de_var 3) (de_int)) (da_nil))))) (da_nil))))))
  (dss_one (ds_expr (de_append (de_var 1) (da_cons (de_frz 4) (da_nil)))))))))))
  (dss_cons (ds_for rfl (di_range2 B.h_range (da_cons (de_int) (da_cons (de_len B.h_len (da_cons (de_ix (de_var 0) (de_int)) (da_nil))) (da_nil)))) (dg_name 2 sc__law_every.nd) (dss_one (ds_expr (de_append (de_var 1) (da_cons (de_add (de_lcU (fin := finT) (own := [("_law_row", 5)]) fin_T rfl sc__law_every.nd (di_list (de_ix (de_var 0) (de_int))) (blkOk_by (own := [("_law_row", 5)]) (N := ["_law_web_here", "_law_found", "_law_part_here", "_law_place", "_law_sums", "_law_row", "_law_here", "_law_other"]) (sc := defScope s__law_every) (by decide +kernel)) (fun _ _ _ _ _ => ⟨_, cg_name 5 sc__law_every.nd⟩) (fun _ _ _ _ _ => ⟨_, dts_nil⟩) (fun _ _ _ _ _ => ⟨_, de_intOf B.h_int (da_cons (de_eq hr (de_ix (de_var 5) (de_int)) (de_var 2)) (da_nil))⟩) s) (de_lcU (fin := finT) (own := [("_law_other", 7)]) fin_T rfl sc__law_every.nd (di_range1 B.h_range (da_cons (de_len B.h_len (da_cons (de_ix (de_var 0) (de_int)) (da_nil))) (da_nil))) (blkOk_by (own := [("_law_other", 7)]) (N := ["_law_web_here", "_law_found", "_law_part_here", "_law_place", "_law_sums", "_law_row", "_law_here", "_law_other"]) (sc := defScope s__law_every) (by decide +kernel)) (fun _ _ _ _ _ => ⟨_, cg_name 7 sc__law_every.nd⟩) (fun _ _ _ _ _ => ⟨_, dts_nil⟩) (fun _ _ _ _ _ => ⟨_, de_sub (de_int) (de_intOf B.h_int (da_cons (de_eq hr (de_var 7) (de_var 2)) (da_nil)))⟩) s)) (da_nil))))))
  (dss_one (ds_ret (de_var 1))))), rp__law_every⟩

abbrev s_law : Stmt := topS 33
theorem sc_law : FnScope ["_law_script", "_law_parts", "_law_most", "_law_web_here", "_law_tally_here", "_law_handed", "_law_turn", "_law_found", "_law_sides", "_law_number", "_law_k"] ["_law_script"] (defScope s_law) := ⟨rfl, rfl, rfl, by decide +kernel, rfl, by decide +kernel, by decide +kernel⟩
theorem kl_law {P : Program} {w : World} {K : PySem.W.Frag} {mg : Str → Option Value} {base : Heap} {k : Nat} {f : Addr} {fd : FuncData} (B : Bi mg) (M : Mi mg) (F : Fun K "law" "law" s_law f fd) (G__law_draw : Kn P w K mg base k "_law_draw" ["_law_left_here", "_law_base"] C__law_draw) (G__law_left : Kn P w K mg base k "_law_left" ["_law_script", "_law_k"] C__law_left.s) (G__law_web : Kn P w K mg base k "_law_web" ["_law_script", "_law_parts_most", "_law_most"] C__law_web) (G__law_tally : Kn P w K mg base k "_law_tally" ["_law_web_here", "_law_heap_here"] C__law_tally.s) (G__law_heap : Kn P w K mg base k "_law_heap" ["_law_script", "_law_at", "_law_web_here", "_law_most_runs", "_law_most"] C__law_heap.s) (G__law_copy : Kn P w K mg base k "_law_copy" ["_law_web_here"] C__law_copy.s) (G_relations : Kn P w K mg base k "relations" ["web"] C_relations) (G__law_every : Kn P w K mg base k "_law_every" ["_law_web_here"] C__law_every.s) : FnOk P w K mg base CX0 (k + 1) f fd ["_law_script"] (sps K C_law) := by
  obtain ⟨f__law_draw, fd__law_draw, ok__law_draw, mg__law_draw, kp__law_draw, bd__law_draw⟩ := G__law_draw.ex
  obtain ⟨f__law_left, fd__law_left, ok__law_left, mg__law_left, kp__law_left, bd__law_left⟩ := G__law_left.ex
  obtain ⟨f__law_web, fd__law_web, ok__law_web, mg__law_web, kp__law_web, bd__law_web⟩ := G__law_web.ex
  obtain ⟨f__law_tally, fd__law_tally, ok__law_tally, mg__law_tally, kp__law_tally, bd__law_tally⟩ := G__law_tally.ex
  obtain ⟨f__law_heap, fd__law_heap, ok__law_heap, mg__law_heap, kp__law_heap, bd__law_heap⟩ := G__law_heap.ex
  obtain ⟨f__law_copy, fd__law_copy, ok__law_copy, mg__law_copy, kp__law_copy, bd__law_copy⟩ := G__law_copy.ex
  obtain ⟨f_relations, fd_relations, ok_relations, mg_relations, kp_relations, bd_relations⟩ := G_relations.ex
  obtain ⟨f__law_every, fd__law_every, ok__law_every, mg__law_every, kp__law_every, bd__law_every⟩ := G__law_every.ex
  refine dfn_ok F sc_law ln_law ?_
  intro cdv A outer s H E hr
  exact ⟨_, rd_law, dss_cons (ds_asg (de_ix (de_lst (da_cons (de_tup (da_cons (de_int) (da_cons (de_int) (da_nil)))) (da_cons (de_tup (da_cons (de_int) (da_cons (de_int) (da_nil)))) (da_nil)))) (de_callS ok__law_draw hr mg__law_draw kp__law_draw bd__law_draw (da_cons (de_callH ok__law_left hr mg__law_left kp__law_left bd__law_left (da_cons (de_var 0) (da_cons (de_int) (da_nil)))) (da_cons (de_int) (da_nil))))) (dg_tup rfl (dgs_cons (dg_name 1 sc_law.nd) (dgs_cons (dg_name 2 sc_law.nd) (dgs_nil)))))
  (dss_cons (ds_set 3 sc_law.nd (de_callS ok__law_web hr mg__law_web kp__law_web bd__law_web (da_cons (de_var 0) (da_cons (de_var 1) (da_cons (de_var 2) (da_nil))))))
  (dss_cons (ds_set 4 sc_law.nd (de_callT ok__law_tally hr mg__law_tally kp__law_tally bd__law_tally (da_cons (de_var 3) (da_cons (de_callT ok__law_heap hr mg__law_heap kp__law_heap bd__law_heap (da_cons (de_var 0) (da_cons (de_int) (da_cons (de_var 3) (da_cons (de_int) (da_cons (de_int) (da_nil))))))) (da_nil)))))
  (dss_cons (ds_set 5 sc_law.nd (de_callT ok__law_copy hr mg__law_copy kp__law_copy bd__law_copy (da_cons (de_var 3) (da_nil))))
  (dss_cons (ds_for rfl (di_range1 B.h_range (da_cons (de_int) (da_nil))) (dg_name 6 sc_law.nd) (dss_cons (ds_set 7 sc_law.nd (de_callS ok_relations hr mg_relations kp_relations bd_relations (da_cons (de_var 5) (da_nil))))
  (dss_cons (ds_if (dt_w (dw_or (dt_not (dt_val (de_isi B.h_isinstance (da_cons (de_var 7) (da_cons (de_bltn (by rfl) B.h_list (by decide +kernel)) (da_nil)))))) (dw_or (dt_neN hr (de_var 7) (de_callT ok__law_every hr mg__law_every kp__law_every bd__law_every (da_cons (de_var 3) (da_nil)))) (dw_or1 (dt_ne hr (de_var 5) (de_var 3)))))) (dss_one (ds_ret (de_bl))) (dss_nil))
  (dss_cons (ds_for rfl (di_list (de_var 7)) (dg_name 8 sc_law.nd) (dss_cons (ds_if (dt_w (dw_or (dt_not (dt_val (de_isi B.h_isinstance (da_cons (de_var 8) (da_cons (de_bltn (by rfl) B.h_list (by decide +kernel)) (da_nil)))))) (dw_or1 (dt_in (de_bl) (de_lcU (fin := finT) (own := [("_law_number", 9)]) fin_T rfl sc_law.nd (di_list (de_var 8)) (blkOk_by (own := [("_law_number", 9)]) (N := ["_law_script", "_law_parts", "_law_most", "_law_web_here", "_law_tally_here", "_law_handed", "_law_turn", "_law_found", "_law_sides", "_law_number", "_law_k"]) (sc := defScope s_law) (by decide +kernel)) (fun _ _ _ _ _ => ⟨_, cg_name 9 sc_law.nd⟩) (fun _ _ _ _ _ => ⟨_, dts_nil⟩) (fun _ _ _ _ _ => ⟨_, de_isi B.h_isinstance (da_cons (de_var 9) (da_cons (de_bltn (by rfl) B.h_bool (by decide +kernel)) (da_nil)))⟩) s))))) (dss_one (ds_ret (de_bl))) (dss_nil))
  (dss_cons (ds_if (dt_ne hr (de_sum rfl B.h_sum (da_cons (de_lcU (fin := finT) (own := [("_law_k", 10)]) fin_T rfl sc_law.nd (di_range1 B.h_range (da_cons (de_len B.h_len (da_cons (de_var 4) (da_nil))) (da_nil))) (blkOk_by (own := [("_law_k", 10)]) (N := ["_law_script", "_law_parts", "_law_most", "_law_web_here", "_law_tally_here", "_law_handed", "_law_turn", "_law_found", "_law_sides", "_law_number", "_law_k"]) (sc := defScope s_law) (by decide +kernel)) (fun _ _ _ _ _ => ⟨_, cg_name 10 sc_law.nd⟩) (fun _ _ _ _ _ => ⟨_, dts_nil⟩) (fun _ _ _ _ _ => ⟨_, de_mul (de_ix (de_var 8) (de_var 10)) (de_ix (de_var 4) (de_var 10))⟩) s) (da_nil))) (de_int)) (dss_one (ds_ret (de_bl))) (dss_nil))
  (dss_one (ds_expr (de_append (de_var 8) (da_cons (de_int) (da_nil))))))))
  (dss_one (ds_expr (de_append (de_var 7) (da_cons (de_lstH (da_cons (de_int) (da_nil))) (da_nil)))))))))
  (dss_one (ds_ret (de_bl))))))), rp_law⟩

/-! the law's promise -/
def spLaw (K : PySem.W.Frag) : Sp := fun vs H Q _ => ∃ (a : Addr) (ns : List Int), vs = [.ref a] ∧ SqL K H a (ns.map V.int) ∧ ns.length ≤ 63 ∧ (∀ z ∈ ns, Builtin.Int.intBits z ≤ 1048576) ∧ ∀ H', Q (.bl true) H'
theorem spLaw_of {K : PySem.W.Frag} : ∀ vs H Q E, spLaw K vs H Q E → sps K C_law vs H Q E := by
  rintro vs H Q E ⟨a, ns, rfl, hS, hl, hb, q⟩
  refine ⟨[], H, fun _ => none, [], [.t (.sq (ns.map T.int))], fun w m cs => w = .t (.bl true), ⟨fun _ _ e => e, (fun _ _ e => by cases e), fun _ _ _ => rfl, rfl, (fun n c e => by simp at e), (fun n k c d a e => by simp at e)⟩, .cons ?_ .nil, ⟨ns, rfl, rfl, hl, hb, rfl⟩, fun al2 S' H' m1 cs v w R' _ _ d e => ?_⟩
  · unfold DenW Den
    exact ⟨a, ns.map V.int, rfl, hS, Dens.iff.mpr (den_ints ns)⟩
  · subst e
    unfold DenW Den at d
    subst d
    exact q H'

theorem all_mk {l : PySem.W.OpenLaw} {w : World} {K : PySem.W.Frag} {h : Heap} {mg : Str → Option Value} {fa f1 f2 f3 f4 f5 f6 f7 f8 f9 f10 f11 f12 f13 f14 f15 f16 f17 f18 f19 f20 f21 f22 f23 f24 f25 : Addr} (X : K.In h) (G : h.Ns mainGlobals mg) (hfa : mg "law" = some (.ref fa))
    {od1 an1 od2 an2 od3 an3 od4 an4 od5 an5 od6 an6 od7 an7 od8 an8 od9 an9 od10 an10 od11 an11 od12 an12 od13 an13 od14 an14 od15 an15 od16 an16 od17 an17 od18 an18 od19 an19 od20 an20 od21 an21 od22 an22 od23 an23 od24 an24 od25 an25 : Option Addr} {sl1 sl2 sl3 sl4 sl5 sl6 sl7 sl8 sl9 sl10 sl11 sl12 sl13 sl14 sl15 sl16 sl17 sl18 sl19 sl20 sl21 sl22 sl23 sl24 sl25 : Array (Option Value)} {oc1 kV1 dc1 pm1 cd1 ct1 oc2 kV2 dc2 pm2 cd2 ct2 oc3 kV3 dc3 pm3 cd3 ct3 oc4 kV4 dc4 pm4 cd4 ct4 oc5 kV5 dc5 pm5 cd5 ct5 oc6 kV6 dc6 pm6 cd6 ct6 oc7 kV7 dc7 pm7 cd7 ct7 oc8 kV8 dc8 pm8 cd8 ct8 oc9 kV9 dc9 pm9 cd9 ct9 oc10 kV10 dc10 pm10 cd10 ct10 oc11 kV11 dc11 pm11 cd11 ct11 oc12 kV12 dc12 pm12 cd12 ct12 oc13 kV13 dc13 pm13 cd13 ct13 oc14 kV14 dc14 pm14 cd14 ct14 oc15 kV15 dc15 pm15 cd15 ct15 oc16 kV16 dc16 pm16 cd16 ct16 oc17 kV17 dc17 pm17 cd17 ct17 oc18 kV18 dc18 pm18 cd18 ct18 oc19 kV19 dc19 pm19 cd19 ct19 oc20 kV20 dc20 pm20 cd20 ct20 oc21 kV21 dc21 pm21 cd21 ct21 oc22 kV22 dc22 pm22 cd22 ct22 oc23 kV23 dc23 pm23 cd23 ct23 oc24 kV24 dc24 pm24 cd24 ct24 oc25 kV25 dc25 pm25 cd25 ct25 : Value} {tk_MOST_PLACES : Tok} {tk_MOST_PARTS : Tok} {tk_MOST_ROWS : Tok}
    (a1 : PySem.W.nsIn K mainGlobals "_law_mix" = some (some (.ref f1))) (l1 : K.lookup f1 = some ⟨oc1, od1, .func (PySem.W.fnOf "_law_mix" "_law_mix" (defArgs s__law_mix) (defBody s__law_mix) (defScope s__law_mix) .none kV1 dc1 pm1 an1 cd1 ct1), sl1⟩) (c1 : PySem.W.codeIn K cd1 "_law_mix" = true) (k1 : PySem.W.keepIn K (.ref f1) = true)
    (a2 : PySem.W.nsIn K mainGlobals "_law_draw" = some (some (.ref f2))) (l2 : K.lookup f2 = some ⟨oc2, od2, .func (PySem.W.fnOf "_law_draw" "_law_draw" (defArgs s__law_draw) (defBody s__law_draw) (defScope s__law_draw) .none kV2 dc2 pm2 an2 cd2 ct2), sl2⟩) (c2 : PySem.W.codeIn K cd2 "_law_draw" = true) (k2 : PySem.W.keepIn K (.ref f2) = true)
    (a3 : PySem.W.nsIn K mainGlobals "_law_cell_at" = some (some (.ref f3))) (l3 : K.lookup f3 = some ⟨oc3, od3, .func (PySem.W.fnOf "_law_cell_at" "_law_cell_at" (defArgs s__law_cell_at) (defBody s__law_cell_at) (defScope s__law_cell_at) .none kV3 dc3 pm3 an3 cd3 ct3), sl3⟩) (c3 : PySem.W.codeIn K cd3 "_law_cell_at" = true) (k3 : PySem.W.keepIn K (.ref f3) = true)
    (a4 : PySem.W.nsIn K mainGlobals "_law_left" = some (some (.ref f4))) (l4 : K.lookup f4 = some ⟨oc4, od4, .func (PySem.W.fnOf "_law_left" "_law_left" (defArgs s__law_left) (defBody s__law_left) (defScope s__law_left) .none kV4 dc4 pm4 an4 cd4 ct4), sl4⟩) (c4 : PySem.W.codeIn K cd4 "_law_left" = true) (k4 : PySem.W.keepIn K (.ref f4) = true)
    (a5 : PySem.W.nsIn K mainGlobals "_law_part" = some (some (.ref f5))) (l5 : K.lookup f5 = some ⟨oc5, od5, .func (PySem.W.fnOf "_law_part" "_law_part" (defArgs s__law_part) (defBody s__law_part) (defScope s__law_part) .none kV5 dc5 pm5 an5 cd5 ct5), sl5⟩) (c5 : PySem.W.codeIn K cd5 "_law_part" = true) (k5 : PySem.W.keepIn K (.ref f5) = true)
    (a6 : PySem.W.nsIn K mainGlobals "_law_web" = some (some (.ref f6))) (l6 : K.lookup f6 = some ⟨oc6, od6, .func (PySem.W.fnOf "_law_web" "_law_web" (defArgs s__law_web) (defBody s__law_web) (defScope s__law_web) .none kV6 dc6 pm6 an6 cd6 ct6), sl6⟩) (c6 : PySem.W.codeIn K cd6 "_law_web" = true) (k6 : PySem.W.keepIn K (.ref f6) = true)
    (a7 : PySem.W.nsIn K mainGlobals "_law_stack" = some (some (.ref f7))) (l7 : K.lookup f7 = some ⟨oc7, od7, .func (PySem.W.fnOf "_law_stack" "_law_stack" (defArgs s__law_stack) (defBody s__law_stack) (defScope s__law_stack) .none kV7 dc7 pm7 an7 cd7 ct7), sl7⟩) (c7 : PySem.W.codeIn K cd7 "_law_stack" = true) (k7 : PySem.W.keepIn K (.ref f7) = true)
    (a8 : PySem.W.nsIn K mainGlobals "_law_tally" = some (some (.ref f8))) (l8 : K.lookup f8 = some ⟨oc8, od8, .func (PySem.W.fnOf "_law_tally" "_law_tally" (defArgs s__law_tally) (defBody s__law_tally) (defScope s__law_tally) .none kV8 dc8 pm8 an8 cd8 ct8), sl8⟩) (c8 : PySem.W.codeIn K cd8 "_law_tally" = true) (k8 : PySem.W.keepIn K (.ref f8) = true)
    (a9 : PySem.W.nsIn K mainGlobals "_law_far" = some (some (.ref f9))) (l9 : K.lookup f9 = some ⟨oc9, od9, .func (PySem.W.fnOf "_law_far" "_law_far" (defArgs s__law_far) (defBody s__law_far) (defScope s__law_far) .none kV9 dc9 pm9 an9 cd9 ct9), sl9⟩) (c9 : PySem.W.codeIn K cd9 "_law_far" = true) (k9 : PySem.W.keepIn K (.ref f9) = true)
    (a10 : PySem.W.nsIn K mainGlobals "_law_leaving" = some (some (.ref f10))) (l10 : K.lookup f10 = some ⟨oc10, od10, .func (PySem.W.fnOf "_law_leaving" "_law_leaving" (defArgs s__law_leaving) (defBody s__law_leaving) (defScope s__law_leaving) .none kV10 dc10 pm10 an10 cd10 ct10), sl10⟩) (c10 : PySem.W.codeIn K cd10 "_law_leaving" = true) (k10 : PySem.W.keepIn K (.ref f10) = true)
    (a11 : PySem.W.nsIn K mainGlobals "_law_behind" = some (some (.ref f11))) (l11 : K.lookup f11 = some ⟨oc11, od11, .func (PySem.W.fnOf "_law_behind" "_law_behind" (defArgs s__law_behind) (defBody s__law_behind) (defScope s__law_behind) .none kV11 dc11 pm11 an11 cd11 ct11), sl11⟩) (c11 : PySem.W.codeIn K cd11 "_law_behind" = true) (k11 : PySem.W.keepIn K (.ref f11) = true)
    (a12 : PySem.W.nsIn K mainGlobals "_law_run" = some (some (.ref f12))) (l12 : K.lookup f12 = some ⟨oc12, od12, .func (PySem.W.fnOf "_law_run" "_law_run" (defArgs s__law_run) (defBody s__law_run) (defScope s__law_run) .none kV12 dc12 pm12 an12 cd12 ct12), sl12⟩) (c12 : PySem.W.codeIn K cd12 "_law_run" = true) (k12 : PySem.W.keepIn K (.ref f12) = true)
    (a13 : PySem.W.nsIn K mainGlobals "_law_heap" = some (some (.ref f13))) (l13 : K.lookup f13 = some ⟨oc13, od13, .func (PySem.W.fnOf "_law_heap" "_law_heap" (defArgs s__law_heap) (defBody s__law_heap) (defScope s__law_heap) .none kV13 dc13 pm13 an13 cd13 ct13), sl13⟩) (c13 : PySem.W.codeIn K cd13 "_law_heap" = true) (k13 : PySem.W.keepIn K (.ref f13) = true)
    (a14 : PySem.W.nsIn K mainGlobals "_law_copy" = some (some (.ref f14))) (l14 : K.lookup f14 = some ⟨oc14, od14, .func (PySem.W.fnOf "_law_copy" "_law_copy" (defArgs s__law_copy) (defBody s__law_copy) (defScope s__law_copy) .none kV14 dc14 pm14 an14 cd14 ct14), sl14⟩) (c14 : PySem.W.codeIn K cd14 "_law_copy" = true) (k14 : PySem.W.keepIn K (.ref f14) = true)
    (a15 : PySem.W.nsIn K mainGlobals "fits_row" = some (some (.ref f15))) (l15 : K.lookup f15 = some ⟨oc15, od15, .func (PySem.W.fnOf "fits_row" "fits_row" (defArgs s_fits_row) (defBody s_fits_row) (defScope s_fits_row) .none kV15 dc15 pm15 an15 cd15 ct15), sl15⟩) (c15 : PySem.W.codeIn K cd15 "fits_row" = true) (k15 : PySem.W.keepIn K (.ref f15) = true)
    (a16 : PySem.W.nsIn K mainGlobals "rows_of" = some (some (.ref f16))) (l16 : K.lookup f16 = some ⟨oc16, od16, .func (PySem.W.fnOf "rows_of" "rows_of" (defArgs s_rows_of) (defBody s_rows_of) (defScope s_rows_of) .none kV16 dc16 pm16 an16 cd16 ct16), sl16⟩) (c16 : PySem.W.codeIn K cd16 "rows_of" = true) (k16 : PySem.W.keepIn K (.ref f16) = true)
    (a17 : PySem.W.nsIn K mainGlobals "reached" = some (some (.ref f17))) (l17 : K.lookup f17 = some ⟨oc17, od17, .func (PySem.W.fnOf "reached" "reached" (defArgs s_reached) (defBody s_reached) (defScope s_reached) .none kV17 dc17 pm17 an17 cd17 ct17), sl17⟩) (c17 : PySem.W.codeIn K cd17 "reached" = true) (k17 : PySem.W.keepIn K (.ref f17) = true)
    (a18 : PySem.W.nsIn K mainGlobals "is_web" = some (some (.ref f18))) (l18 : K.lookup f18 = some ⟨oc18, od18, .func (PySem.W.fnOf "is_web" "is_web" (defArgs s_is_web) (defBody s_is_web) (defScope s_is_web) .none kV18 dc18 pm18 an18 cd18 ct18), sl18⟩) (c18 : PySem.W.codeIn K cd18 "is_web" = true) (k18 : PySem.W.keepIn K (.ref f18) = true)
    (a19 : PySem.W.nsIn K mainGlobals "must_be_web" = some (some (.ref f19))) (l19 : K.lookup f19 = some ⟨oc19, od19, .func (PySem.W.fnOf "must_be_web" "must_be_web" (defArgs s_must_be_web) (defBody s_must_be_web) (defScope s_must_be_web) .none kV19 dc19 pm19 an19 cd19 ct19), sl19⟩) (c19 : PySem.W.codeIn K cd19 "must_be_web" = true) (k19 : PySem.W.keepIn K (.ref f19) = true)
    (a20 : PySem.W.nsIn K mainGlobals "relation_at" = some (some (.ref f20))) (l20 : K.lookup f20 = some ⟨oc20, od20, .func (PySem.W.fnOf "relation_at" "relation_at" (defArgs s_relation_at) (defBody s_relation_at) (defScope s_relation_at) .none kV20 dc20 pm20 an20 cd20 ct20), sl20⟩) (c20 : PySem.W.codeIn K cd20 "relation_at" = true) (k20 : PySem.W.keepIn K (.ref f20) = true)
    (a21 : PySem.W.nsIn K mainGlobals "relation_of_calls" = some (some (.ref f21))) (l21 : K.lookup f21 = some ⟨oc21, od21, .func (PySem.W.fnOf "relation_of_calls" "relation_of_calls" (defArgs s_relation_of_calls) (defBody s_relation_of_calls) (defScope s_relation_of_calls) .none kV21 dc21 pm21 an21 cd21 ct21), sl21⟩) (c21 : PySem.W.codeIn K cd21 "relation_of_calls" = true) (k21 : PySem.W.keepIn K (.ref f21) = true)
    (a22 : PySem.W.nsIn K mainGlobals "related" = some (some (.ref f22))) (l22 : K.lookup f22 = some ⟨oc22, od22, .func (PySem.W.fnOf "related" "related" (defArgs s_related) (defBody s_related) (defScope s_related) .none kV22 dc22 pm22 an22 cd22 ct22), sl22⟩) (c22 : PySem.W.codeIn K cd22 "related" = true) (k22 : PySem.W.keepIn K (.ref f22) = true)
    (a23 : PySem.W.nsIn K mainGlobals "relations" = some (some (.ref f23))) (l23 : K.lookup f23 = some ⟨oc23, od23, .func (PySem.W.fnOf "relations" "relations" (defArgs s_relations) (defBody s_relations) (defScope s_relations) .none kV23 dc23 pm23 an23 cd23 ct23), sl23⟩) (c23 : PySem.W.codeIn K cd23 "relations" = true) (k23 : PySem.W.keepIn K (.ref f23) = true)
    (a24 : PySem.W.nsIn K mainGlobals "_law_every" = some (some (.ref f24))) (l24 : K.lookup f24 = some ⟨oc24, od24, .func (PySem.W.fnOf "_law_every" "_law_every" (defArgs s__law_every) (defBody s__law_every) (defScope s__law_every) .none kV24 dc24 pm24 an24 cd24 ct24), sl24⟩) (c24 : PySem.W.codeIn K cd24 "_law_every" = true) (k24 : PySem.W.keepIn K (.ref f24) = true)
    (a25 : PySem.W.nsIn K mainGlobals "law" = some (some (.ref f25))) (l25 : K.lookup f25 = some ⟨oc25, od25, .func (PySem.W.fnOf "law" "law" (defArgs s_law) (defBody s_law) (defScope s_law) .none kV25 dc25 pm25 an25 cd25 ct25), sl25⟩) (c25 : PySem.W.codeIn K cd25 "law" = true) (k25 : PySem.W.keepIn K (.ref f25) = true)
    (z_len : PySem.W.nsIn K mainGlobals "len" = some none)
    (z_range : PySem.W.nsIn K mainGlobals "range" = some none)
    (z_sum : PySem.W.nsIn K mainGlobals "sum" = some none)
    (z_min : PySem.W.nsIn K mainGlobals "min" = some none)
    (z_max : PySem.W.nsIn K mainGlobals "max" = some none)
    (z_all : PySem.W.nsIn K mainGlobals "all" = some none)
    (z_any : PySem.W.nsIn K mainGlobals "any" = some none)
    (z_abs : PySem.W.nsIn K mainGlobals "abs" = some none)
    (z_isinstance : PySem.W.nsIn K mainGlobals "isinstance" = some none)
    (z_int : PySem.W.nsIn K mainGlobals "int" = some none)
    (z_bool : PySem.W.nsIn K mainGlobals "bool" = some none)
    (z_list : PySem.W.nsIn K mainGlobals "list" = some none)
    (z_tuple : PySem.W.nsIn K mainGlobals "tuple" = some none)
    (z_str : PySem.W.nsIn K mainGlobals "str" = some none)
    (z_dict : PySem.W.nsIn K mainGlobals "dict" = some none)
    (z_sorted : PySem.W.nsIn K mainGlobals "sorted" = some none)
    (z_zip : PySem.W.nsIn K mainGlobals "zip" = some none)
    (z_enumerate : PySem.W.nsIn K mainGlobals "enumerate" = some none)
    (z_set : PySem.W.nsIn K mainGlobals "set" = some none)
    (t_MOST_PLACES : PySem.W.nsIn K mainGlobals "MOST_PLACES" = some (some (.int 16 tk_MOST_PLACES)))
    (t_MOST_PARTS : PySem.W.nsIn K mainGlobals "MOST_PARTS" = some (some (.int 4 tk_MOST_PARTS)))
    (t_MOST_ROWS : PySem.W.nsIn K mainGlobals "MOST_ROWS" = some (some (.int 60 tk_MOST_ROWS)))
    : ∃ fd : FuncData, (∀ (s : Shared) (v : Value), BindsTo s fd ⟨[v], []⟩ [("_law_script", v)]) ∧ ∀ base : Heap, K.In base → base.Ns mainGlobals mg → FnOk l.prog w K mg base CX0 6 fa fd ["_law_script"] (spLaw K) := by
  have e := hfa.symm.trans (PySem.W.mg_of X G a25)
  cases e
  refine ⟨PySem.W.fnOf "law" "law" (defArgs s_law) (defBody s_law) (defScope s_law) .none kV25 dc25 pm25 an25 cd25 ct25, fun s v => .of_eq rfl, fun base _ _ => ?_⟩
  have B : Bi mg := ⟨PySem.W.mg_none_of X G z_len, PySem.W.mg_none_of X G z_range, PySem.W.mg_none_of X G z_sum, PySem.W.mg_none_of X G z_min, PySem.W.mg_none_of X G z_max, PySem.W.mg_none_of X G z_all, PySem.W.mg_none_of X G z_any, PySem.W.mg_none_of X G z_abs, PySem.W.mg_none_of X G z_isinstance, PySem.W.mg_none_of X G z_int, PySem.W.mg_none_of X G z_bool, PySem.W.mg_none_of X G z_list, PySem.W.mg_none_of X G z_tuple, PySem.W.mg_none_of X G z_str, PySem.W.mg_none_of X G z_dict, PySem.W.mg_none_of X G z_sorted, PySem.W.mg_none_of X G z_zip, PySem.W.mg_none_of X G z_enumerate⟩
  have M : Mi mg := ⟨PySem.W.mg_none_of X G z_set, ⟨_, PySem.W.mg_of X G t_MOST_PLACES⟩, ⟨_, PySem.W.mg_of X G t_MOST_PARTS⟩, ⟨_, PySem.W.mg_of X G t_MOST_ROWS⟩⟩
  have O1 : Ow K mg "_law_mix" s__law_mix ["_law_number", "_law_k"] := ⟨_, _, fun_mk (st := s__law_mix) l1 c1 k1, PySem.W.mg_of X G a1, (fun_mk (st := s__law_mix) l1 c1 k1).binds (ps := ["_law_number", "_law_k"]) fun _ _ _ _ _ _ us hl => match us, hl with | [_, _], _ => rfl⟩
  have O2 : Ow K mg "_law_draw" s__law_draw ["_law_left_here", "_law_base"] := ⟨_, _, fun_mk (st := s__law_draw) l2 c2 k2, PySem.W.mg_of X G a2, (fun_mk (st := s__law_draw) l2 c2 k2).binds (ps := ["_law_left_here", "_law_base"]) fun _ _ _ _ _ _ us hl => match us, hl with | [_, _], _ => rfl⟩
  have O3 : Ow K mg "_law_cell_at" s__law_cell_at ["_law_script", "_law_k"] := ⟨_, _, fun_mk (st := s__law_cell_at) l3 c3 k3, PySem.W.mg_of X G a3, (fun_mk (st := s__law_cell_at) l3 c3 k3).binds (ps := ["_law_script", "_law_k"]) fun _ _ _ _ _ _ us hl => match us, hl with | [_, _], _ => rfl⟩
  have O4 : Ow K mg "_law_left" s__law_left ["_law_script", "_law_k"] := ⟨_, _, fun_mk (st := s__law_left) l4 c4 k4, PySem.W.mg_of X G a4, (fun_mk (st := s__law_left) l4 c4 k4).binds (ps := ["_law_script", "_law_k"]) fun _ _ _ _ _ _ us hl => match us, hl with | [_, _], _ => rfl⟩
  have O5 : Ow K mg "_law_part" s__law_part ["_law_left_here", "_law_most"] := ⟨_, _, fun_mk (st := s__law_part) l5 c5 k5, PySem.W.mg_of X G a5, (fun_mk (st := s__law_part) l5 c5 k5).binds (ps := ["_law_left_here", "_law_most"]) fun _ _ _ _ _ _ us hl => match us, hl with | [_, _], _ => rfl⟩
  have O6 : Ow K mg "_law_web" s__law_web ["_law_script", "_law_parts_most", "_law_most"] := ⟨_, _, fun_mk (st := s__law_web) l6 c6 k6, PySem.W.mg_of X G a6, (fun_mk (st := s__law_web) l6 c6 k6).binds (ps := ["_law_script", "_law_parts_most", "_law_most"]) fun _ _ _ _ _ _ us hl => match us, hl with | [_, _, _], _ => rfl⟩
  have O7 : Ow K mg "_law_stack" s__law_stack ["_law_web_here", "_law_rows"] := ⟨_, _, fun_mk (st := s__law_stack) l7 c7 k7, PySem.W.mg_of X G a7, (fun_mk (st := s__law_stack) l7 c7 k7).binds (ps := ["_law_web_here", "_law_rows"]) fun _ _ _ _ _ _ us hl => match us, hl with | [_, _], _ => rfl⟩
  have O8 : Ow K mg "_law_tally" s__law_tally ["_law_web_here", "_law_heap_here"] := ⟨_, _, fun_mk (st := s__law_tally) l8 c8 k8, PySem.W.mg_of X G a8, (fun_mk (st := s__law_tally) l8 c8 k8).binds (ps := ["_law_web_here", "_law_heap_here"]) fun _ _ _ _ _ _ us hl => match us, hl with | [_, _], _ => rfl⟩
  have O9 : Ow K mg "_law_far" s__law_far ["_law_web_here", "_law_part_here"] := ⟨_, _, fun_mk (st := s__law_far) l9 c9 k9, PySem.W.mg_of X G a9, (fun_mk (st := s__law_far) l9 c9 k9).binds (ps := ["_law_web_here", "_law_part_here"]) fun _ _ _ _ _ _ us hl => match us, hl with | [_, _], _ => rfl⟩
  have O10 : Ow K mg "_law_leaving" s__law_leaving ["_law_web_here", "_law_stack_here", "_law_short", "_law_fars"] := ⟨_, _, fun_mk (st := s__law_leaving) l10 c10 k10, PySem.W.mg_of X G a10, (fun_mk (st := s__law_leaving) l10 c10 k10).binds (ps := ["_law_web_here", "_law_stack_here", "_law_short", "_law_fars"]) fun _ _ _ _ _ _ us hl => match us, hl with | [_, _, _, _], _ => rfl⟩
  have O11 : Ow K mg "_law_behind" s__law_behind ["_law_web_here", "_law_stack_here", "_law_k"] := ⟨_, _, fun_mk (st := s__law_behind) l11 c11 k11, PySem.W.mg_of X G a11, (fun_mk (st := s__law_behind) l11 c11 k11).binds (ps := ["_law_web_here", "_law_stack_here", "_law_k"]) fun _ _ _ _ _ _ us hl => match us, hl with | [_, _, _], _ => rfl⟩
  have O12 : Ow K mg "_law_run" s__law_run ["_law_web_here", "_law_left_here", "_law_most"] := ⟨_, _, fun_mk (st := s__law_run) l12 c12 k12, PySem.W.mg_of X G a12, (fun_mk (st := s__law_run) l12 c12 k12).binds (ps := ["_law_web_here", "_law_left_here", "_law_most"]) fun _ _ _ _ _ _ us hl => match us, hl with | [_, _, _], _ => rfl⟩
  have O13 : Ow K mg "_law_heap" s__law_heap ["_law_script", "_law_at", "_law_web_here", "_law_most_runs", "_law_most"] := ⟨_, _, fun_mk (st := s__law_heap) l13 c13 k13, PySem.W.mg_of X G a13, (fun_mk (st := s__law_heap) l13 c13 k13).binds (ps := ["_law_script", "_law_at", "_law_web_here", "_law_most_runs", "_law_most"]) fun _ _ _ _ _ _ us hl => match us, hl with | [_, _, _, _, _], _ => rfl⟩
  have O14 : Ow K mg "_law_copy" s__law_copy ["_law_web_here"] := ⟨_, _, fun_mk (st := s__law_copy) l14 c14 k14, PySem.W.mg_of X G a14, (fun_mk (st := s__law_copy) l14 c14 k14).binds (ps := ["_law_web_here"]) fun _ _ _ _ _ _ us hl => match us, hl with | [_], _ => rfl⟩
  have O15 : Ow K mg "fits_row" s_fits_row ["web", "row"] := ⟨_, _, fun_mk (st := s_fits_row) l15 c15 k15, PySem.W.mg_of X G a15, (fun_mk (st := s_fits_row) l15 c15 k15).binds (ps := ["web", "row"]) fun _ _ _ _ _ _ us hl => match us, hl with | [_, _], _ => rfl⟩
  have O16 : Ow K mg "rows_of" s_rows_of ["web", "part"] := ⟨_, _, fun_mk (st := s_rows_of) l16 c16 k16, PySem.W.mg_of X G a16, (fun_mk (st := s_rows_of) l16 c16 k16).binds (ps := ["web", "part"]) fun _ _ _ _ _ _ us hl => match us, hl with | [_, _], _ => rfl⟩
  have O17 : Ow K mg "reached" s_reached ["web", "part", "start", "turned"] := ⟨_, _, fun_mk (st := s_reached) l17 c17 k17, PySem.W.mg_of X G a17, (fun_mk (st := s_reached) l17 c17 k17).binds (ps := ["web", "part", "start", "turned"]) fun _ _ _ _ _ _ us hl => match us, hl with | [_, _, _, _], _ => rfl⟩
  have O18 : Ow K mg "is_web" s_is_web ["web"] := ⟨_, _, fun_mk (st := s_is_web) l18 c18 k18, PySem.W.mg_of X G a18, (fun_mk (st := s_is_web) l18 c18 k18).binds (ps := ["web"]) fun _ _ _ _ _ _ us hl => match us, hl with | [_], _ => rfl⟩
  have O19 : Ow K mg "must_be_web" s_must_be_web ["web"] := ⟨_, _, fun_mk (st := s_must_be_web) l19 c19 k19, PySem.W.mg_of X G a19, (fun_mk (st := s_must_be_web) l19 c19 k19).binds (ps := ["web"]) fun _ _ _ _ _ _ us hl => match us, hl with | [_], _ => rfl⟩
  have O20 : Ow K mg "relation_at" s_relation_at ["web", "part", "place"] := ⟨_, _, fun_mk (st := s_relation_at) l20 c20 k20, PySem.W.mg_of X G a20, (fun_mk (st := s_relation_at) l20 c20 k20).binds (ps := ["web", "part", "place"]) fun _ _ _ _ _ _ us hl => match us, hl with | [_, _, _], _ => rfl⟩
  have O21 : Ow K mg "relation_of_calls" s_relation_of_calls ["web", "part"] := ⟨_, _, fun_mk (st := s_relation_of_calls) l21 c21 k21, PySem.W.mg_of X G a21, (fun_mk (st := s_relation_of_calls) l21 c21 k21).binds (ps := ["web", "part"]) fun _ _ _ _ _ _ us hl => match us, hl with | [_, _], _ => rfl⟩
  have O22 : Ow K mg "related" s_related ["web"] := ⟨_, _, fun_mk (st := s_related) l22 c22 k22, PySem.W.mg_of X G a22, (fun_mk (st := s_related) l22 c22 k22).binds (ps := ["web"]) fun _ _ _ _ _ _ us hl => match us, hl with | [_], _ => rfl⟩
  have O23 : Ow K mg "relations" s_relations ["web"] := ⟨_, _, fun_mk (st := s_relations) l23 c23 k23, PySem.W.mg_of X G a23, (fun_mk (st := s_relations) l23 c23 k23).binds (ps := ["web"]) fun _ _ _ _ _ _ us hl => match us, hl with | [_], _ => rfl⟩
  have O24 : Ow K mg "_law_every" s__law_every ["_law_web_here"] := ⟨_, _, fun_mk (st := s__law_every) l24 c24 k24, PySem.W.mg_of X G a24, (fun_mk (st := s__law_every) l24 c24 k24).binds (ps := ["_law_web_here"]) fun _ _ _ _ _ _ us hl => match us, hl with | [_], _ => rfl⟩
  have K1 := kn__law_mix (P := l.prog) (w := w) (base := base) (k := 0) B M O1
  have K2 := kn__law_draw (P := l.prog) (w := w) (base := base) (k := 1) B M O2 (K1.mono (by decide))
  have K3 := kn__law_cell_at (P := l.prog) (w := w) (base := base) (k := 0) B M O3
  have K4 := kn__law_left (P := l.prog) (w := w) (base := base) (k := 1) B M O4 (K3.mono (by decide))
  have K5 := kn__law_part (P := l.prog) (w := w) (base := base) (k := 2) B M O5 (K2.mono (by decide))
  have K6 := kn__law_web (P := l.prog) (w := w) (base := base) (k := 3) B M O6 (K4.mono (by decide)) (K2.mono (by decide)) (K5.mono (by decide))
  have K7 := kn__law_stack (P := l.prog) (w := w) (base := base) (k := 0) B M O7
  have K8 := kn__law_tally (P := l.prog) (w := w) (base := base) (k := 1) B M O8 (K7.mono (by decide))
  have K9 := kn__law_far (P := l.prog) (w := w) (base := base) (k := 0) B M O9
  have K10 := kn__law_leaving (P := l.prog) (w := w) (base := base) (k := 0) B M O10
  have K11 := kn__law_behind (P := l.prog) (w := w) (base := base) (k := 0) B M O11
  have K12 := kn__law_run (P := l.prog) (w := w) (base := base) (k := 2) B M O12 (K9.mono (by decide)) (K10.mono (by decide)) (K2.mono (by decide)) (K11.mono (by decide))
  have K13 := kn__law_heap (P := l.prog) (w := w) (base := base) (k := 3) B M O13 (K4.mono (by decide)) (K2.mono (by decide)) (K12.mono (by decide))
  have K14 := kn__law_copy (P := l.prog) (w := w) (base := base) (k := 0) B M O14
  have K15 := kn_fits_row (P := l.prog) (w := w) (base := base) (k := 0) B M O15
  have K16 := kn_rows_of (P := l.prog) (w := w) (base := base) (k := 0) B M O16
  have K17 := kn_reached (P := l.prog) (w := w) (base := base) (k := 1) B M O17 (K16.mono (by decide))
  have K18 := kn_is_web (P := l.prog) (w := w) (base := base) (k := 2) B M O18 (K15.mono (by decide)) (K17.mono (by decide))
  have K19 := kn_must_be_web (P := l.prog) (w := w) (base := base) (k := 3) B M O19 (K18.mono (by decide))
  have K20 := kn_relation_at (P := l.prog) (w := w) (base := base) (k := 0) B M O20
  have K21 := kn_relation_of_calls (P := l.prog) (w := w) (base := base) (k := 0) B M O21
  have K22 := kn_related (P := l.prog) (w := w) (base := base) (k := 1) B M O22 (K20.mono (by decide)) (K21.mono (by decide))
  have K23 := kn_relations (P := l.prog) (w := w) (base := base) (k := 4) B M O23 (K19.mono (by decide)) (K22.mono (by decide))
  have K24 := kn__law_every (P := l.prog) (w := w) (base := base) (k := 0) B M O24
  exact (kl_law (k := 5) B M (fun_mk (st := s_law) l25 c25 k25) (K2.mono (by decide)) (K4.mono (by decide)) (K6.mono (by decide)) (K8.mono (by decide)) (K13.mono (by decide)) (K14.mono (by decide)) (K23.mono (by decide)) (K24.mono (by decide))).imp spLaw_of
end DL
open PySem PySem.W PyProof.Rows
set_option maxHeartbeats 0 in
theorem PySem.Challenge.cw_fewcounters_k05_whole_relations_holds : PySem.Challenge.rw_fewcounters_k05_whole_relations.Holds := by
  w_on; o_law; k_head; (case hw => w_witness2)
  k_fill
  refine L2.walk_ofB (l := PySem.Challenge.rw_fewcounters_k05_whole_relations) (n := 63) (k := 6) (x := "_law_script") (CX := fun _ => L2.CX0) (sp := fun w => DL.spLaw _) rfl (by decide) rfl ⟨rfl, by decide, by decide⟩ (fun w h Y => by first | exact PySem.W.kIn_of Y | exact PySem.W.km_in_of Y) ?F (fun _ _ a ns hl hb _ hS => ⟨a, ns, rfl, hS, hl, hb, fun _ => rfl⟩) (fun _ _ _ _ _ h => h)
  case F =>
    intro w mg fa h KX G hmg
    refine' DL.all_mk KX G hmg ?a1 ?l1 ?c1 ?k1 ?a2 ?l2 ?c2 ?k2 ?a3 ?l3 ?c3 ?k3 ?a4 ?l4 ?c4 ?k4 ?a5 ?l5 ?c5 ?k5 ?a6 ?l6 ?c6 ?k6 ?a7 ?l7 ?c7 ?k7 ?a8 ?l8 ?c8 ?k8 ?a9 ?l9 ?c9 ?k9 ?a10 ?l10 ?c10 ?k10 ?a11 ?l11 ?c11 ?k11 ?a12 ?l12 ?c12 ?k12 ?a13 ?l13 ?c13 ?k13 ?a14 ?l14 ?c14 ?k14 ?a15 ?l15 ?c15 ?k15 ?a16 ?l16 ?c16 ?k16 ?a17 ?l17 ?c17 ?k17 ?a18 ?l18 ?c18 ?k18 ?a19 ?l19 ?c19 ?k19 ?a20 ?l20 ?c20 ?k20 ?a21 ?l21 ?c21 ?k21 ?a22 ?l22 ?c22 ?k22 ?a23 ?l23 ?c23 ?k23 ?a24 ?l24 ?c24 ?k24 ?a25 ?l25 ?c25 ?k25 ?z_len ?z_range ?z_sum ?z_min ?z_max ?z_all ?z_any ?z_abs ?z_isinstance ?z_int ?z_bool ?z_list ?z_tuple ?z_str ?z_dict ?z_sorted ?z_zip ?z_enumerate ?z_set ?t_MOST_PLACES ?t_MOST_PARTS ?t_MOST_ROWS
    (case a1 => k_is); (case l1 => k_is); (case c1 => k_is); (case k1 => k_is); (case a2 => k_is); (case l2 => k_is); (case c2 => k_is); (case k2 => k_is); (case a3 => k_is); (case l3 => k_is); (case c3 => k_is); (case k3 => k_is); (case a4 => k_is); (case l4 => k_is); (case c4 => k_is); (case k4 => k_is); (case a5 => k_is); (case l5 => k_is); (case c5 => k_is); (case k5 => k_is); (case a6 => k_is); (case l6 => k_is); (case c6 => k_is); (case k6 => k_is); (case a7 => k_is); (case l7 => k_is); (case c7 => k_is); (case k7 => k_is); (case a8 => k_is); (case l8 => k_is); (case c8 => k_is); (case k8 => k_is); (case a9 => k_is); (case l9 => k_is); (case c9 => k_is); (case k9 => k_is); (case a10 => k_is); (case l10 => k_is); (case c10 => k_is); (case k10 => k_is); (case a11 => k_is); (case l11 => k_is); (case c11 => k_is); (case k11 => k_is); (case a12 => k_is); (case l12 => k_is); (case c12 => k_is); (case k12 => k_is); (case a13 => k_is); (case l13 => k_is); (case c13 => k_is); (case k13 => k_is); (case a14 => k_is); (case l14 => k_is); (case c14 => k_is); (case k14 => k_is); (case a15 => k_is); (case l15 => k_is); (case c15 => k_is); (case k15 => k_is); (case a16 => k_is); (case l16 => k_is); (case c16 => k_is); (case k16 => k_is); (case a17 => k_is); (case l17 => k_is); (case c17 => k_is); (case k17 => k_is); (case a18 => k_is); (case l18 => k_is); (case c18 => k_is); (case k18 => k_is); (case a19 => k_is); (case l19 => k_is); (case c19 => k_is); (case k19 => k_is); (case a20 => k_is); (case l20 => k_is); (case c20 => k_is); (case k20 => k_is); (case a21 => k_is); (case l21 => k_is); (case c21 => k_is); (case k21 => k_is); (case a22 => k_is); (case l22 => k_is); (case c22 => k_is); (case k22 => k_is); (case a23 => k_is); (case l23 => k_is); (case c23 => k_is); (case k23 => k_is); (case a24 => k_is); (case l24 => k_is); (case c24 => k_is); (case k24 => k_is); (case a25 => k_is); (case l25 => k_is); (case c25 => k_is); (case k25 => k_is); (case z_len => k_is); (case z_range => k_is); (case z_sum => k_is); (case z_min => k_is); (case z_max => k_is); (case z_all => k_is); (case z_any => k_is); (case z_abs => k_is); (case z_isinstance => k_is); (case z_int => k_is); (case z_bool => k_is); (case z_list => k_is); (case z_tuple => k_is); (case z_str => k_is); (case z_dict => k_is); (case z_sorted => k_is); (case z_zip => k_is); (case z_enumerate => k_is); (case z_set => k_is); (case t_MOST_PLACES => k_is); (case t_MOST_PARTS => k_is); (case t_MOST_ROWS => k_is)

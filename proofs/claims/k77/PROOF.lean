import PyProof.Rows.All
import HandS.ForMost
import HandS.ForExc
import HandS.SortInts
import HandS.SetFor
import HandS.IsInst
import HandS.Conv
import HandS.More
import HandS.NoneIn
import HandS.Style
import HandS.Wide
import HandS.ExcIs
import HandS.ExcOwn
import HandS.Deep
import HandS.TupLe
import KE.DataCmp
import HandS.SetKeys
import HandS.Iter
import HandS.ExcField
import HandS.ExcInit
import HandS.Zip
import HandS.Text
import KE.GoesMore
import KE.GoesZip
import HandS.Codes
import HandS.TupAny
import HandS.SortRule
import HandS.ListItems
import PySem.Challenge.RW_fewcounters_k77_whole_machine
set_option Elab.async false
set_option linter.all false
set_option maxRecDepth 100000
set_option maxHeartbeats 4000000
namespace DL
open PySem PySem.Spec L2

/-! data trees, slots, the store of mutable cells -/
inductive T where
  | non | bl (b : Bool) | int (i : Int) | str (s : Str) | lst (xs : List T) | tup (xs : List T)
  | dk (ks : List Key) (xs : List T) | sq (xs : List T) | raw (x : V)
  | exc (n : Str) | ob (n : Str) (fs : List Str) (xs : List T) | exf (n f : Str) (x : T)
inductive W where
  | t (x : T) | h (n : Nat)
inductive Cell where
  | lt (xs : List T) | lw (xs : List W) | dt (ks : List Key) (xs : List T) | dw (ks : List Key) (xs : List W) | tw (xs : List W) | ob (n : Str) (fs : List Str) (ws : List W) | dp (ks : List (List Key)) (xs : List T)
abbrev Sto := List (Option Cell)
structure G where
  sl : List (Option W)
  mem : Sto
def G.set (g : G) (i : Nat) (w : W) : G := ⟨g.sl.set i (some w), g.mem⟩
def G.put (g : G) (n : Nat) (c : Cell) : G := ⟨g.sl, g.mem.set n (some c)⟩
def G.push (g : G) (c : Cell) : G := ⟨g.sl, g.mem ++ [some c]⟩
def wipeW (sl : List (Option W)) : List Nat → List (Option W)
  | [] => sl
  | v :: vs => (wipeW sl vs).set v none
def G.wipe (g : G) (vs : List Nat) : G := ⟨wipeW g.sl vs, g.mem⟩
def frzW (n : Nat) (t : T) : Option W → Option W
  | some (.h m) => if m = n then some (.t t) else some (.h m)
  | o => o
def G.frz (g : G) (n : Nat) (t : T) : G := ⟨g.sl.map (frzW n t), g.mem.set n none⟩

/-- a caught exception of an own class, as a thing of the store -/
def ExI (C a : Addr) : HO := .ext fun h => ∃ (oe : Obj) (vs : Array Value), h.get? a = some oe ∧ Zc (.ref C) none oe ∧ oe.data = .fields vs
/-- .. that keeps a value in its own dict at d -/
def ExI2 (C d a : Addr) : HO := .ext fun h => ∃ (oe : Obj) (vs : Array Value), h.get? a = some oe ∧ Zc (.ref C) (some d) oe ∧ oe.data = .fields vs
mutual
def Den (K : PySem.W.Frag) (S : Hp) : T → V → Prop
  | .non, v => v = .non
  | .bl b, v => v = .bl b
  | .int i, v => v = .int i
  | .str x, v => v = .str x
  | .lst ts, v => ∃ a vs, v = .ref a ∧ S a = some (.lst vs) ∧ Dens K S ts vs
  | .sq ts, v => ∃ a vs, v = .ref a ∧ SqL K S a vs ∧ Dens K S ts vs
  | .tup ts, v => ∃ a vs, v = .ref a ∧ SqT K S a vs ∧ Dens K S ts vs
  | .dk ks ts, v => ∃ a vs, v = .ref a ∧ S a = some (.dK (ks.zip vs)) ∧ ks.length = ts.length ∧ Dens K S ts vs
  | .raw x, v => v = x
  | .exc n, v => ∃ a C, v = .ref a ∧ PySem.W.nsIn K mainGlobals n = some (some (.ref C)) ∧ S a = some (ExI C a)
  | .ob n fs ts, v => ∃ a C dx vs, v = .ref a ∧ PySem.W.nsIn K mainGlobals n = some (some (.ref C)) ∧ S a = some (.ins C dx (fs.zip vs)) ∧ fs.length = ts.length ∧ Dens K S ts vs
  | .exf n f t, v => ∃ a C d u, v = .ref a ∧ PySem.W.nsIn K mainGlobals n = some (some (.ref C)) ∧ S a = some (ExI2 C d a) ∧ S d = some (.xd [(f, u)]) ∧ Den K S t u
def Dens (K : PySem.W.Frag) (S : Hp) : List T → List V → Prop
  | [], vs => vs = []
  | t :: ts, vs => ∃ v r, vs = v :: r ∧ Den K S t v ∧ Dens K S ts r
end
section
variable {K : PySem.W.Frag} {S S' : Hp}
theorem seqT {a : Addr} {xs : List V} (e : Same S S') (h : SqT K S a xs) : SqT K S' a xs := by
  rcases h with (h | ⟨o, h⟩) | h
  · exact .inl (.inl (e _ _ h))
  · exact .inl (.inr ⟨o, e _ _ h⟩)
  · exact .inr h
mutual
theorem Den.mono (e : Same S S') : ∀ (t : T) (v : V), Den K S t v → Den K S' t v
  | .non, _, h => h
  | .bl _, _, h => h
  | .int _, _, h => h
  | .str _, _, h => h
  | .raw _, _, h => h
  | .exc _, _, h => by
    unfold Den at h ⊢
    obtain ⟨a, C, h1, h2, h3⟩ := h
    exact ⟨a, C, h1, h2, e _ _ h3⟩
  | .ob _ _ ts, v, h => by
    unfold Den at h ⊢
    obtain ⟨a, C, dx, vs, h1, h2, h3, h4, h5⟩ := h
    exact ⟨a, C, dx, vs, h1, h2, e _ _ h3, h4, Dens.mono e ts vs h5⟩
  | .exf _ _ t, v, h => by
    unfold Den at h ⊢
    obtain ⟨a, C, d, u, h1, h2, h3, h4, h5⟩ := h
    exact ⟨a, C, d, u, h1, h2, e _ _ h3, e _ _ h4, Den.mono e t u h5⟩
  | .lst ts, v, h => by
    unfold Den at h ⊢
    obtain ⟨a, vs, h1, h2, h3⟩ := h
    exact ⟨a, vs, h1, e _ _ h2, Dens.mono e ts vs h3⟩
  | .sq ts, v, h => by
    unfold Den at h ⊢
    obtain ⟨a, vs, h1, h2, h3⟩ := h
    exact ⟨a, vs, h1, e.seq h2, Dens.mono e ts vs h3⟩
  | .tup ts, v, h => by
    unfold Den at h ⊢
    obtain ⟨a, vs, h1, h2, h3⟩ := h
    exact ⟨a, vs, h1, seqT e h2, Dens.mono e ts vs h3⟩
  | .dk ks ts, v, h => by
    unfold Den at h ⊢
    obtain ⟨a, vs, h1, h2, h3, h4⟩ := h
    exact ⟨a, vs, h1, e _ _ h2, h3, Dens.mono e ts vs h4⟩
theorem Dens.mono (e : Same S S') : ∀ (ts : List T) (vs : List V), Dens K S ts vs → Dens K S' ts vs
  | [], _, h => h
  | t :: ts, vs, h => by
    unfold Dens at h ⊢
    obtain ⟨v, r, h1, h2, h3⟩ := h
    exact ⟨v, r, h1, Den.mono e t v h2, Dens.mono e ts r h3⟩
end
theorem Dens.iff : ∀ {ts : List T} {vs : List V}, Dens K S ts vs ↔ Paired (Den K S) ts vs
  | [], vs => by
    unfold Dens
    constructor
    · rintro rfl; exact .nil
    · intro h; cases h; rfl
  | t :: ts, vs => by
    unfold Dens
    constructor
    · rintro ⟨v, r, rfl, h1, h2⟩; exact .cons h1 (Dens.iff.mp h2)
    · intro h; cases h with
      | cons h1 h2 => exact ⟨_, _, rfl, h1, Dens.iff.mpr h2⟩
end
/-! general facts of Paired -/
section
variable {α β : Type} {F : α → β → Prop}
theorem pget : ∀ {xs : List α} {ys : List β} {i : Nat} {x : α}, Paired F xs ys → xs[i]? = some x → ∃ y, ys[i]? = some y ∧ F x y
  | _, _, _, _, .nil, e => by simp at e
  | _, _, 0, _, .cons r _, e => by simp at e; subst e; exact ⟨_, rfl, r⟩
  | _, _, i + 1, x, .cons _ t, e => by
    obtain ⟨u, h1, h2⟩ := pget (i := i) (x := x) t (by simpa using e)
    exact ⟨u, by simpa using h1, h2⟩
theorem pset {x : α} {y : β} (r : F x y) : ∀ {xs : List α} {ys : List β} (i : Nat), Paired F xs ys → Paired F (xs.set i x) (ys.set i y)
  | _, _, _, .nil => .nil
  | _, _, 0, .cons _ t => .cons r t
  | _, _, i + 1, .cons q t => .cons q (pset r i t)
theorem papp : ∀ {xs us : List α} {ys vs : List β}, Paired F xs ys → Paired F us vs → Paired F (xs ++ us) (ys ++ vs)
  | _, _, _, _, .nil, s => s
  | _, _, _, _, .cons r t, s => .cons r (papp t s)
theorem ptake : ∀ {xs : List α} {ys : List β} (n : Nat), Paired F xs ys → Paired F (xs.take n) (ys.take n)
  | _, _, 0, _ => .nil
  | _, _, _ + 1, .nil => .nil
  | _, _, n + 1, .cons r t => .cons r (ptake n t)
theorem pdrop : ∀ {xs : List α} {ys : List β} (n : Nat), Paired F xs ys → Paired F (xs.drop n) (ys.drop n)
  | _, _, 0, r => r
  | _, _, _ + 1, .nil => .nil
  | _, _, n + 1, .cons _ t => pdrop n t
theorem pmapL {γ : Type} (f : γ → α) : ∀ {xs : List γ} {ys : List β}, Paired F (xs.map f) ys ↔ Paired (fun x y => F (f x) y) xs ys
  | [], ys => by
    constructor
    · intro h; cases h; exact .nil
    · intro h; cases h; exact .nil
  | x :: xs, ys => by
    constructor
    · intro h
      rw [List.map_cons] at h
      cases h with
      | cons h1 h2 => exact .cons h1 ((pmapL f).mp h2)
    · intro h
      cases h with
      | cons h1 h2 => exact .cons h1 ((pmapL f).mpr h2)
end

def DenW (K : PySem.W.Frag) (al : List Addr) (S : Hp) : W → V → Prop
  | .t x, v => Den K S x v
  | .h n, v => ∃ a, al[n]? = some a ∧ v = .ref a
def CellOk (K : PySem.W.Frag) (al : List Addr) (S : Hp) : Cell → HO → Prop
  | .lt ts, o => ∃ vs, o = .lst vs ∧ Paired (Den K S) ts vs
  | .lw ws, o => ∃ vs, o = .lst vs ∧ Paired (DenW K al S) ws vs
  | .dt ks ts, o => ∃ vs, o = .dK (ks.zip vs) ∧ ks.length = ts.length ∧ Paired (Den K S) ts vs
  | .dw ks ws, o => ∃ vs, o = .dK (ks.zip vs) ∧ ks.length = ws.length ∧ Paired (DenW K al S) ws vs
  | .tw ws, o => ∃ vs, o = .tup vs ∧ Paired (DenW K al S) ws vs
  | .ob n fs ws, o => ∃ C dx vs, PySem.W.nsIn K mainGlobals n = some (some (.ref C)) ∧ o = .ins C dx (fs.zip vs) ∧ fs.length = ws.length ∧ Paired (DenW K al S) ws vs
  | .dp ks ts, o => ∃ vs, o = .dT (ks.zip vs) ∧ ks.length = ts.length ∧ Paired (Den K S) ts vs
structure Grow (al : List Addr) (S : Hp) (al' : List Addr) (S' : Hp) : Prop where
  al : ∃ more, al' = al ++ more
  s : Same S S'
theorem Grow.refl (al : List Addr) (S : Hp) : Grow al S al S := ⟨⟨[], by simp⟩, Same.refl S⟩
theorem Grow.trans {a b c : List Addr} {S S' S'' : Hp} (x : Grow a S b S') (y : Grow b S' c S'') : Grow a S c S'' := by
  obtain ⟨⟨m, e⟩, s⟩ := x
  obtain ⟨⟨m', e'⟩, s'⟩ := y
  exact ⟨⟨m ++ m', by rw [e', e, List.append_assoc]⟩, s.trans s'⟩
theorem Grow.get {a b : List Addr} {S S' : Hp} (g : Grow a S b S') {n : Nat} {x : Addr} (h : a[n]? = some x) : b[n]? = some x := by
  obtain ⟨⟨m, rfl⟩, _⟩ := g
  rw [List.getElem?_append_left (by
    rcases Nat.lt_or_ge n a.length with q | q
    · exact q
    · rw [List.getElem?_eq_none q] at h; cases h)]
  exact h
section
variable {K : PySem.W.Frag} {al al' : List Addr} {S S' F H H' : Hp}
theorem DenW.grow (g : Grow al S al' S') : ∀ {w : W} {v : V}, DenW K al S w v → DenW K al' S' w v
  | .t x, v, h => Den.mono g.s x v h
  | .h n, v, ⟨a, h1, h2⟩ => ⟨a, g.get h1, h2⟩
theorem DenWs.grow (g : Grow al S al' S') {ws : List W} {vs : List V} (h : Paired (DenW K al S) ws vs) : Paired (DenW K al' S') ws vs := Paired.mono (fun _ _ => DenW.grow g) h
theorem Denp.grow (g : Same S S') {ws : List T} {vs : List V} (h : Paired (Den K S) ws vs) : Paired (Den K S') ws vs := Paired.mono (fun t v => Den.mono g t v) h
theorem CellOk.grow (g : Grow al S al' S') : ∀ {c : Cell} {o : HO}, CellOk K al S c o → CellOk K al' S' c o
  | .lt _, _, ⟨vs, h, r⟩ => ⟨vs, h, Denp.grow g.s r⟩
  | .lw _, _, ⟨vs, h, r⟩ => ⟨vs, h, DenWs.grow g r⟩
  | .dt _ _, _, ⟨vs, h, l, r⟩ => ⟨vs, h, l, Denp.grow g.s r⟩
  | .dw _ _, _, ⟨vs, h, l, r⟩ => ⟨vs, h, l, DenWs.grow g r⟩
  | .tw _, _, ⟨vs, h, r⟩ => ⟨vs, h, DenWs.grow g r⟩
  | .ob _ _ _, _, ⟨C, dx, vs, n, h, l, r⟩ => ⟨C, dx, vs, n, h, l, DenWs.grow g r⟩
  | .dp _ _, _, ⟨vs, h, l, r⟩ => ⟨vs, h, l, Denp.grow g.s r⟩
structure RepM (K : PySem.W.Frag) (al : List Addr) (S F H : Hp) (m : Sto) : Prop where
  same : Same S H
  fr : Same F H
  dis : ∀ a o, S a = some o → F a = none
  len : al.length = m.length
  cell : ∀ (n : Nat) (c : Cell), m[n]? = some (some c) → ∃ a o, al[n]? = some a ∧ S a = none ∧ F a = none ∧ H a = some o ∧ CellOk K al S c o
  inj : ∀ (n k : Nat) (c d : Cell) (a : Addr), m[n]? = some (some c) → m[k]? = some (some d) → al[n]? = some a → al[k]? = some a → n = k
structure Rep (K : PySem.W.Frag) (al : List Addr) (S F H : Hp) (σ : St) (g : G) : Prop extends RepM K al S F H g.mem where
  slen : g.sl.length = σ.length
  slot : ∀ (i : Nat) (w : W), g.sl[i]? = some (some w) → ∃ v, σ[i]? = some (some v) ∧ DenW K al S w v
variable {σ σ' : St} {g : G} {m : Sto}
/-- a new thing at p, taken as stable -/
theorem RepM.lay (R : RepM K al S F H m) {p : Addr} {o : HO} (np : H p = none) : RepM K al (upd S p o) F (upd H p o) m ∧ Grow al S al (upd S p o) := by
  have nS : S p = none := R.same.free np
  have nF : F p = none := R.fr.free np
  have gr : Grow al S al (upd S p o) := ⟨⟨[], by simp⟩, fun b u e => by rw [upd_ne (ne_of_none e nS)]; exact e⟩
  refine ⟨⟨fun b u e => ?_, fun b u e => ?_, fun b u e => ?_, R.len, fun n c e => ?_, R.inj⟩, gr⟩
  · by_cases hb : b = p
    · subst hb; rw [upd_same] at e ⊢; exact e
    · rw [upd_ne hb] at e ⊢; exact R.same b u e
  · rw [upd_ne (ne_of_none e nF)]; exact R.fr b u e
  · by_cases hb : b = p
    · subst hb; exact nF
    · rw [upd_ne hb] at e; exact R.dis b u e
  · obtain ⟨a, o', h1, h2, h3, h4, h5⟩ := R.cell n c e
    have na : a ≠ p := ne_of_none h4 np
    exact ⟨a, o', h1, by rw [upd_ne na]; exact h2, h3, by rw [upd_ne na]; exact h4, h5.grow gr⟩
/-- a new thing at p that nobody looks at -/
theorem RepM.skip (R : RepM K al S F H m) {p : Addr} {o : HO} (np : H p = none) : RepM K al S F (upd H p o) m := by
  refine ⟨fun b u e => ?_, fun b u e => ?_, R.dis, R.len, fun n c e => ?_, R.inj⟩
  · rw [upd_ne (ne_of_none (R.same _ _ e) np)]; exact R.same b u e
  · rw [upd_ne (ne_of_none (R.fr _ _ e) np)]; exact R.fr b u e
  · obtain ⟨a, o', h1, h2, h3, h4, h5⟩ := R.cell n c e
    exact ⟨a, o', h1, h2, h3, by rw [upd_ne (ne_of_none h4 np)]; exact h4, h5⟩
/-- a new cell -/
theorem RepM.push (R : RepM K al S F H m) {p : Addr} {o : HO} {c : Cell} (np : H p = none) (ok : CellOk K (al ++ [p]) S c o) : RepM K (al ++ [p]) S F (upd H p o) (m ++ [some c]) ∧ Grow al S (al ++ [p]) S := by
  have gr : Grow al S (al ++ [p]) S := ⟨⟨[p], rfl⟩, Same.refl S⟩
  have hold : ∀ (n : Nat) (c' : Cell), (m ++ [some c])[n]? = some (some c') → (n < m.length ∧ m[n]? = some (some c')) ∨ (n = m.length ∧ c' = c) := fun n c' e => by
    rcases Nat.lt_or_ge n m.length with q | q
    · rw [List.getElem?_append_left q] at e; exact .inl ⟨q, e⟩
    · rw [List.getElem?_append_right q] at e
      rcases Nat.eq_or_lt_of_le q with q' | q'
      · subst q'; simp at e; exact .inr ⟨rfl, e.symm⟩
      · rw [List.getElem?_eq_none (by simp; omega)] at e; cases e
  have atE : (al ++ [p])[m.length]? = some p := by rw [List.getElem?_append_right (by rw [R.len]; exact Nat.le_refl _), R.len]; simp
  have atN : ∀ (n : Nat), n < m.length → (al ++ [p])[n]? = al[n]? := fun n hn => List.getElem?_append_left (by rw [R.len]; exact hn)
  refine ⟨⟨fun b u e => ?_, fun b u e => ?_, R.dis, by simp [R.len], fun n c' e => ?_, fun n k c1 c2 a e1 e2 e3 e4 => ?_⟩, gr⟩
  · rw [upd_ne (ne_of_none (R.same _ _ e) np)]; exact R.same b u e
  · rw [upd_ne (ne_of_none (R.fr _ _ e) np)]; exact R.fr b u e
  · rcases hold n c' e with ⟨hn, e'⟩ | ⟨rfl, rfl⟩
    · obtain ⟨a, o', h1, h2, h3, h4, h5⟩ := R.cell n c' e'
      exact ⟨a, o', by rw [atN n hn]; exact h1, h2, h3, by rw [upd_ne (ne_of_none h4 np)]; exact h4, h5.grow gr⟩
    · exact ⟨p, o, atE, R.same.free np, R.fr.free np, upd_same, ok⟩
  · rcases hold n c1 e1 with ⟨hn, e1'⟩ | ⟨rfl, rfl⟩
    · rcases hold k c2 e2 with ⟨hk, e2'⟩ | ⟨rfl, rfl⟩
      · rw [atN n hn] at e3; rw [atN k hk] at e4
        exact R.inj n k c1 c2 a e1' e2' e3 e4
      · rw [atN n hn] at e3
        rw [atE] at e4
        cases e4
        obtain ⟨a, o', h1, h2, h3, h4, h5⟩ := R.cell n c1 e1'
        rw [e3] at h1; cases h1
        rw [np] at h4; cases h4
    · rcases hold k c2 e2 with ⟨hk, e2'⟩ | ⟨rfl, rfl⟩
      · rw [atN k hk] at e4
        rw [atE] at e3
        cases e3
        obtain ⟨a, o', h1, h2, h3, h4, h5⟩ := R.cell k c2 e2'
        rw [e4] at h1; cases h1
        rw [np] at h4; cases h4
      · rfl
/-- a cell written -/
theorem RepM.put (R : RepM K al S F H m) {n : Nat} {c0 c : Cell} {a : Addr} {o : HO} (e : m[n]? = some (some c0)) (ea : al[n]? = some a) (ok : CellOk K al S c o) : RepM K al S F (upd H a o) (m.set n (some c)) := by
  have nn : n < m.length := by
    rcases Nat.lt_or_ge n m.length with q | q
    · exact q
    · rw [List.getElem?_eq_none q] at e; cases e
  obtain ⟨a', o', g1, g2, g3, g4, g5⟩ := R.cell n c0 e
  rw [ea] at g1; cases g1
  have hset : ∀ (k : Nat) (c' : Cell), (m.set n (some c))[k]? = some (some c') → (k = n ∧ c' = c) ∨ (k ≠ n ∧ m[k]? = some (some c')) := fun k c' q => by
    by_cases hk : k = n
    · subst hk; rw [List.getElem?_set_self nn] at q; cases q; exact .inl ⟨rfl, rfl⟩
    · rw [List.getElem?_set_ne (Ne.symm hk)] at q; exact .inr ⟨hk, q⟩
  have some_of : ∀ (k : Nat) (c' : Cell), (m.set n (some c))[k]? = some (some c') → ∃ d, m[k]? = some (some d) := fun k c' q => by
    rcases hset k c' q with ⟨rfl, _⟩ | ⟨_, q'⟩
    · exact ⟨c0, e⟩
    · exact ⟨c', q'⟩
  refine ⟨fun b u q => ?_, fun b u q => ?_, R.dis, by simp [R.len], fun k c' q => ?_, fun k l c1 c2 b e1 e2 e3 e4 => ?_⟩
  · rw [upd_ne (ne_of_none q g2)]; exact R.same b u q
  · rw [upd_ne (ne_of_none q g3)]; exact R.fr b u q
  · rcases hset k c' q with ⟨rfl, rfl⟩ | ⟨hk, q'⟩
    · exact ⟨a, o, ea, g2, g3, upd_same, ok⟩
    · obtain ⟨b, o', h1, h2, h3, h4, h5⟩ := R.cell k c' q'
      have hb : b ≠ a := fun z => by subst z; exact hk (R.inj k n c' c0 b q' e h1 ea)
      exact ⟨b, o', h1, h2, h3, by rw [upd_ne hb]; exact h4, h5⟩
  · obtain ⟨d1, q1⟩ := some_of k c1 e1
    obtain ⟨d2, q2⟩ := some_of l c2 e2
    exact R.inj k l d1 d2 b q1 q2 e3 e4
/-- a cell becomes stable -/
theorem RepM.frz (R : RepM K al S F H m) {n : Nat} {c : Cell} (e : m[n]? = some (some c)) : ∃ a o S', al[n]? = some a ∧ S' = upd S a o ∧ CellOk K al S c o ∧ RepM K al S' F H (m.set n none) ∧ Grow al S al S' ∧ S' a = some o := by
  have nn : n < m.length := by
    rcases Nat.lt_or_ge n m.length with q | q
    · exact q
    · rw [List.getElem?_eq_none q] at e; cases e
  obtain ⟨a, o, g1, g2, g3, g4, g5⟩ := R.cell n c e
  have gr : Grow al S al (upd S a o) := ⟨⟨[], by simp⟩, fun b u q => by rw [upd_ne (ne_of_none q g2)]; exact q⟩
  have hset : ∀ (k : Nat) (c' : Cell), (m.set n none)[k]? = some (some c') → k ≠ n ∧ m[k]? = some (some c') := fun k c' q => by
    by_cases hk : k = n
    · subst hk; rw [List.getElem?_set_self nn] at q; cases q
    · rw [List.getElem?_set_ne (Ne.symm hk)] at q; exact ⟨hk, q⟩
  refine ⟨a, o, _, g1, rfl, g5, ⟨fun b u q => ?_, R.fr, fun b u q => ?_, by simp [R.len], fun k c' q => ?_, fun k l c1 c2 b e1 e2 e3 e4 => ?_⟩, gr, upd_same⟩
  · by_cases hb : b = a
    · subst hb; rw [upd_same] at q; cases q; exact g4
    · rw [upd_ne hb] at q; exact R.same b u q
  · by_cases hb : b = a
    · subst hb; exact g3
    · rw [upd_ne hb] at q; exact R.dis b u q
  · obtain ⟨hk, q'⟩ := hset k c' q
    obtain ⟨b, o', h1, h2, h3, h4, h5⟩ := R.cell k c' q'
    have hb : b ≠ a := fun z => by subst z; exact hk (R.inj k n c' c b q' e h1 g1)
    exact ⟨b, o', h1, by rw [upd_ne hb]; exact h2, h3, h4, h5.grow gr⟩
  · exact R.inj k l c1 c2 b (hset k c1 e1).2 (hset l c2 e2).2 e3 e4
/-- the slots stay described -/
theorem Rep.withM (R : Rep K al S F H σ g) {m' : Sto} (gr : Grow al S al' S') (M : RepM K al' S' F H' m') : Rep K al' S' F H' σ ⟨g.sl, m'⟩ :=
  ⟨M, R.slen, fun i w e => let ⟨v, h1, h2⟩ := R.slot i w e; ⟨v, h1, h2.grow gr⟩⟩
theorem Rep.setSlot (R : Rep K al S F H σ g) {i : Nat} {w : W} {v : V} (d : DenW K al S w v) : Rep K al S F H (σ.set i (some v)) (g.set i w) := by
  refine ⟨R.toRepM, by simp [G.set, R.slen], fun j u e => ?_⟩
  unfold G.set at e
  dsimp only at e
  by_cases hj : i = j
  · subst hj
    by_cases hl : i < g.sl.length
    · rw [List.getElem?_set_self hl] at e
      cases e
      exact ⟨v, List.getElem?_set_self (by rw [← R.slen]; exact hl), d⟩
    · rw [List.getElem?_eq_none (by simp; omega)] at e; cases e
  · rw [List.getElem?_set_ne hj] at e
    obtain ⟨v', h1, h2⟩ := R.slot j u e
    exact ⟨v', by rw [List.getElem?_set_ne hj]; exact h1, h2⟩
end
end DL

namespace DL
open PySem PySem.Spec L2

abbrev Dt := G → (W → G → Prop) → Prop
abbrev DTt := G → (Bool → G → Prop) → Prop
abbrev DAt := G → (List W → G → Prop) → Prop
def Ct (K : PySem.W.Frag) (al : List Addr) (S F : Hp) (σ : L2.St) (Q : W → G → Prop) (QV : VK) : Prop :=
  ∀ al' S' H' g' v w, Rep K al' S' F H' σ g' → Grow al S al' S' → DenW K al' S' w v → Q w g' → QV v H'
theorem Ct.grow {K : PySem.W.Frag} {al al1 : List Addr} {S S1 F : Hp} {σ : L2.St} {Q : W → G → Prop} {QV : VK} (k : Ct K al S F σ Q QV) (gr : Grow al S al1 S1) : Ct K al1 S1 F σ Q QV :=
  fun al' S' H' g' v w R g2 d q => k al' S' H' g' v w R (gr.trans g2) d q
theorem Ct.val {K : PySem.W.Frag} {al : List Addr} {S F H : Hp} {σ : L2.St} {Q : W → G → Prop} {QV : VK} (k : Ct K al S F σ Q QV) {g : G} {v : V} {w : W} (R : Rep K al S F H σ g) (d : DenW K al S w v) (q : Q w g) : QV v H :=
  k al S H g v w R (Grow.refl _ _) d q
theorem Ct.tr {K : PySem.W.Frag} {al : List Addr} {S F H : Hp} {σ : L2.St} {Q : W → G → Prop} {QV : VK} (k : Ct K al S F σ Q QV) {g : G} {v : V} {t : T} (R : Rep K al S F H σ g) (d : Den K S t v) (q : Q (.t t) g) : QV v H :=
  k al S H g v (.t t) R (Grow.refl _ _) d q
def DEr (K : PySem.W.Frag) (τ : TE) (t : Dt) : Prop := ∀ (al : List Addr) (S F H : Hp) (σ : L2.St) (g : G) (Q : W → G → Prop) (QV : VK), Rep K al S F H σ g → t g Q → Ct K al S F σ Q QV → τ σ H QV
def DTr (K : PySem.W.Frag) (τ : TT) (t : DTt) : Prop := ∀ (al : List Addr) (S F H : Hp) (σ : L2.St) (g : G) (Q : Bool → G → Prop) (QV : Bool → Hp → Prop), Rep K al S F H σ g → t g Q →
  (∀ al' S' H' g' b, Rep K al' S' F H' σ g' → Grow al S al' S' → Q b g' → QV b H') → τ σ H QV
def DAr (K : PySem.W.Frag) (τ : TA) (t : DAt) : Prop := ∀ (al : List Addr) (S F H : Hp) (σ : L2.St) (g : G) (Q : List W → G → Prop) (QV : List V → Hp → Prop), Rep K al S F H σ g → t g Q →
  (∀ al' S' H' g' vs ws, Rep K al' S' F H' σ g' → Grow al S al' S' → Paired (DenW K al' S') ws vs → Q ws g' → QV vs H') → τ σ H QV
structure DE (X : Cx) (e : Expr) (τ : TE) (t : Dt) : Prop where
  pe : PE X e τ
  r : DEr X.K τ t
structure DT (X : Cx) (e : Expr) (τ : TT) (t : DTt) : Prop where
  pe : PT X e τ
  r : DTr X.K τ t
structure DW (X : Cx) (e : Expr) (τ : TT) (t : DTt) : Prop where
  pe : PW X e τ
  r : DTr X.K τ t
structure DA (X : Cx) (es : List Expr) (τ : TA) (t : DAt) : Prop where
  pe : PA X es τ
  r : DAr X.K τ t

/-! views -/
def Cell.tree : Cell → Option T
  | .lt ts => some (.lst ts)
  | .dt ks ts => some (.dk ks ts)
  | _ => none
def G.cell? (g : G) : W → Option Cell
  | .h n => match g.mem[n]? with | some (some c) => some c | _ => none
  | .t (.lst ts) => some (.lt ts)
  | .t (.dk ks ts) => some (.dt ks ts)
  | _ => none
def G.seqL? (g : G) (w : W) : Option (List T) := match g.cell? w with | some (.lt ts) => some ts | _ => none
def G.wseq? (g : G) (w : W) : Option (List W) := match g.cell? w with | some (.lw ts) => some ts | _ => none
def G.seq? (g : G) : W → Option (List T)
  | .t (.tup ts) => some ts
  | .t (.sq ts) => some ts
  | w => g.seqL? w
def G.tree? (g : G) : W → Option T
  | .t t => some t
  | .h n => match g.mem[n]? with | some (some c) => c.tree | _ => none
section
variable {K : PySem.W.Frag} {al al' : List Addr} {S S' F H H' : Hp} {σ : L2.St} {g : G}
theorem Rep.view (R : Rep K al S F H σ g) {w : W} {v : V} {c : Cell} (d : DenW K al S w v) (e : g.cell? w = some c) : ∃ a o, v = .ref a ∧ H a = some o ∧ CellOk K al S c o := by
  cases w with
  | h n =>
    obtain ⟨a, ea, rfl⟩ := d
    unfold G.cell? at e
    dsimp only at e
    split at e
    · rename_i c' q
      cases e
      obtain ⟨a', o, h1, h2, h3, h4, h5⟩ := R.cell n c q
      rw [ea] at h1; cases h1
      exact ⟨a, o, rfl, h4, h5⟩
    · cases e
  | t x =>
    cases x with
    | lst ts =>
      cases e
      unfold DenW Den at d
      obtain ⟨a, vs, rfl, h1, h2⟩ := d
      exact ⟨a, _, rfl, R.same _ _ h1, vs, rfl, Dens.iff.mp h2⟩
    | dk ks ts =>
      cases e
      unfold DenW Den at d
      obtain ⟨a, vs, rfl, h1, h2, h3⟩ := d
      exact ⟨a, _, rfl, R.same _ _ h1, vs, rfl, h2, Dens.iff.mp h3⟩
    | _ => cases e
theorem Rep.viewL (R : Rep K al S F H σ g) {w : W} {v : V} {ts : List T} (d : DenW K al S w v) (e : g.seqL? w = some ts) : ∃ a vs, v = .ref a ∧ H a = some (.lst vs) ∧ Paired (Den K S) ts vs := by
  unfold G.seqL? at e
  split at e
  · rename_i ts' q
    cases e
    obtain ⟨a, o, h1, h2, vs, rfl, h3⟩ := R.view d q
    exact ⟨a, vs, h1, h2, h3⟩
  · cases e
theorem Rep.viewW (R : Rep K al S F H σ g) {w : W} {v : V} {ts : List W} (d : DenW K al S w v) (e : g.wseq? w = some ts) : ∃ a vs, v = .ref a ∧ H a = some (.lst vs) ∧ Paired (DenW K al S) ts vs := by
  unfold G.wseq? at e
  split at e
  · rename_i ts' q
    cases e
    obtain ⟨a, o, h1, h2, vs, rfl, h3⟩ := R.view d q
    exact ⟨a, vs, h1, h2, h3⟩
  · cases e
theorem Rep.viewS (R : Rep K al S F H σ g) {w : W} {v : V} {ts : List T} (d : DenW K al S w v) (e : g.seq? w = some ts) : ∃ a vs, v = .ref a ∧ (SqL K H a vs ∨ SqT K H a vs) ∧ Paired (Den K S) ts vs := by
  have go : ∀ ts', g.seqL? w = some ts' → ∃ a vs, v = .ref a ∧ (SqL K H a vs ∨ SqT K H a vs) ∧ Paired (Den K S) ts' vs := fun ts' q => by
    obtain ⟨a, vs, h1, h2, h3⟩ := R.viewL d q
    exact ⟨a, vs, h1, .inl (.inl (.inl h2)), h3⟩
  unfold G.seq? at e
  split at e
  · cases e
    unfold DenW Den at d
    obtain ⟨a, vs, rfl, h1, h2⟩ := d
    exact ⟨a, vs, rfl, .inr (seqT R.same h1), Dens.iff.mp h2⟩
  · cases e
    unfold DenW Den at d
    obtain ⟨a, vs, rfl, h1, h2⟩ := d
    exact ⟨a, vs, rfl, .inl (R.same.seq h1), Dens.iff.mp h2⟩
  · exact go _ e
/-- as a tree in the heap as it stands -/
theorem Rep.viewT (R : Rep K al S F H σ g) {w : W} {v : V} {t : T} (d : DenW K al S w v) (e : g.tree? w = some t) : Den K H t v := by
  cases w with
  | t x => cases e; exact Den.mono R.same _ v d
  | h n =>
    unfold G.tree? at e
    dsimp only at e
    split at e
    · rename_i c q
      have q2 : g.cell? (.h n) = some c := by unfold G.cell?; dsimp only; rw [q]
      obtain ⟨a, o, h1, h2, h3⟩ := R.view d q2
      cases c with
      | lt ts =>
        cases e
        obtain ⟨vs, rfl, h4⟩ := h3
        unfold Den
        exact ⟨a, vs, h1, h2, Dens.iff.mpr (Denp.grow R.same h4)⟩
      | dt ks ts =>
        cases e
        obtain ⟨vs, rfl, h4, h5⟩ := h3
        unfold Den
        exact ⟨a, vs, h1, h2, h4, Dens.iff.mpr (Denp.grow R.same h5)⟩
      | _ => cases e
    · cases e
theorem Rep.layT (R : Rep K al S F H σ g) {p : Addr} {o : HO} (np : H p = none) : Rep K al (upd S p o) F (upd H p o) σ g ∧ Grow al S al (upd S p o) :=
  let ⟨M, gr⟩ := R.toRepM.lay (o := o) np
  ⟨R.withM gr M, gr⟩
/-- a new list of trees, stable -/
theorem Rep.layL (R : Rep K al S F H σ g) {p : Addr} {ts : List T} {vs : List V} (np : H p = none) (d : Paired (Den K S) ts vs) :
    Rep K al (upd S p (.lst vs)) F (upd H p (.lst vs)) σ g ∧ Grow al S al (upd S p (.lst vs)) ∧ DenW K al (upd S p (.lst vs)) (.t (.lst ts)) (.ref p) := by
  obtain ⟨R1, gr⟩ := R.layT (o := .lst vs) np
  refine ⟨R1, gr, ?_⟩
  unfold DenW Den
  exact ⟨p, vs, rfl, upd_same, Dens.iff.mpr (Denp.grow gr.s d)⟩
theorem Rep.layTup (R : Rep K al S F H σ g) {p : Addr} {ts : List T} {vs : List V} (np : H p = none) (d : Paired (Den K S) ts vs) :
    Rep K al (upd S p (.tup vs)) F (upd H p (.tup vs)) σ g ∧ Grow al S al (upd S p (.tup vs)) ∧ DenW K al (upd S p (.tup vs)) (.t (.tup ts)) (.ref p) := by
  obtain ⟨R1, gr⟩ := R.layT (o := .tup vs) np
  refine ⟨R1, gr, ?_⟩
  unfold DenW Den
  exact ⟨p, vs, rfl, .inl (.inl upd_same), Dens.iff.mpr (Denp.grow gr.s d)⟩
theorem Rep.pushC (R : Rep K al S F H σ g) {p : Addr} {o : HO} {c : Cell} (np : H p = none) (ok : CellOk K (al ++ [p]) S c o) :
    Rep K (al ++ [p]) S F (upd H p o) σ (g.push c) ∧ Grow al S (al ++ [p]) S ∧ DenW K (al ++ [p]) S (.h g.mem.length) (.ref p) := by
  obtain ⟨M, gr⟩ := R.toRepM.push np ok
  refine ⟨R.withM gr M, gr, p, ?_, rfl⟩
  rw [List.getElem?_append_right (by rw [R.len]; exact Nat.le_refl _), R.len]; simp
end
theorem patI {F : T → V → Prop} {xs : List T} {ys : List V} {i : Int} {x : T} (p : Paired F xs ys) (h : atI xs i = some x) : ∃ y, atI ys i = some y ∧ F x y := by
  unfold atI at h ⊢
  rw [← p.length]
  cases e : ixN xs.length i with
  | none => rw [e] at h; cases h
  | some j =>
    rw [e] at h
    exact pget p h
theorem patW {F : W → V → Prop} {xs : List W} {ys : List V} {i : Int} {x : W} (p : Paired F xs ys) (h : atI xs i = some x) : ∃ y, atI ys i = some y ∧ F x y := by
  unfold atI at h ⊢
  rw [← p.length]
  cases e : ixN xs.length i with
  | none => rw [e] at h; cases h
  | some j =>
    rw [e] at h
    exact pget p h

section
variable {X : Cx}
/-! names, constants -/
def dVar (i : Nat) : Dt := fun g Q => match g.sl[i]? with | some (some w) => Q w g | _ => False
theorem der_var {K : PySem.W.Frag} (i : Nat) : DEr K (tVar i) (dVar i) := by
  intro al S F H σ g Q QV R q k
  unfold dVar at q
  split at q
  · rename_i w e
    obtain ⟨v, h1, h2⟩ := R.slot i w e
    exact ⟨v, h1, k.val R h2 q⟩
  · exact q.elim
theorem de_var (i : Nat) {x : Str} {pos : Pos} (hN : X.N[i]? = some x := by rfl) (hv : Vis X.env.scope x := by first | exact Or.inl rfl | exact Or.inr (Or.inl rfl) | exact Or.inr (Or.inr rfl)) (hd : (x == ("__debug__" : Str)) = false := by decide)
    (hcd : (x == ("__classdict__" : Str)) = false := by decide) : DE X (.Name x pos) (tVar i) (dVar i) := ⟨pe_var hN hv hd hcd, der_var i⟩
/-- the cell that a slot holds becomes a tree -/
def dFrz (i : Nat) : Dt := fun g Q => match g.sl[i]? with
  | some (some (.t t)) => Q (.t t) g
  | some (some (.h n)) => (match g.mem[n]? with
    | some (some c) => (match c.tree with | some t => Q (.t t) (g.frz n t) | none => False)
    | _ => False)
  | _ => False
theorem Rep.frzT {K : PySem.W.Frag} {al : List Addr} {S F H : Hp} {σ : L2.St} {g : G} {n : Nat} {c : Cell} {t : T} (R : Rep K al S F H σ g) (e : g.mem[n]? = some (some c)) (et : c.tree = some t) :
    ∃ S' a, al[n]? = some a ∧ Rep K al S' F H σ (g.frz n t) ∧ Grow al S al S' ∧ Den K S' t (.ref a) := by
  obtain ⟨a, o, S', h1, rfl, h3, M, gr, h4⟩ := R.toRepM.frz e
  have dt : Den K (upd S a o) t (.ref a) := by
    cases c with
    | lt ts =>
      cases et
      obtain ⟨vs, rfl, h5⟩ := h3
      unfold Den
      exact ⟨a, vs, rfl, h4, Dens.iff.mpr (Denp.grow gr.s h5)⟩
    | dt ks ts =>
      cases et
      obtain ⟨vs, rfl, h5, h6⟩ := h3
      unfold Den
      exact ⟨a, vs, rfl, h4, h5, Dens.iff.mpr (Denp.grow gr.s h6)⟩
    | _ => cases et
  refine ⟨_, a, h1, ⟨M, by simp [G.frz, R.slen], fun i w q => ?_⟩, gr, dt⟩
  unfold G.frz at q
  dsimp only at q
  rw [List.getElem?_map] at q
  cases e2 : g.sl[i]? with
  | none => rw [e2] at q; cases q
  | some o2 =>
    rw [e2] at q
    cases o2 with
    | none => cases q
    | some w0 =>
      obtain ⟨v, hv, dv⟩ := R.slot i w0 e2
      refine ⟨v, hv, ?_⟩
      cases w0 with
      | t x => cases q; exact dv.grow gr
      | h m =>
        simp only [Option.map_some, frzW] at q
        split at q
        · rename_i hm
          subst hm
          cases q
          obtain ⟨b, hb, rfl⟩ := dv
          rw [h1] at hb; cases hb
          exact dt
        · cases q
          exact dv.grow gr
theorem der_frz {K : PySem.W.Frag} (i : Nat) : DEr K (tVar i) (dFrz i) := by
  intro al S F H σ g Q QV R q k
  unfold dFrz at q
  split at q
  · rename_i t e
    obtain ⟨v, h1, h2⟩ := R.slot i _ e
    exact ⟨v, h1, k.val R h2 q⟩
  · rename_i n e
    split at q
    · rename_i c ec
      split at q
      · rename_i t et
        obtain ⟨v, h1, a, h2, rfl⟩ := R.slot i _ e
        obtain ⟨S', a', h3, R', gr, d⟩ := R.frzT ec et
        rw [h2] at h3; cases h3
        exact ⟨_, h1, k _ _ _ _ _ (.t t) R' gr d q⟩
      · exact q.elim
    · exact q.elim
  · exact q.elim
theorem de_frz (i : Nat) {x : Str} {pos : Pos} (hN : X.N[i]? = some x := by rfl) (hv : Vis X.env.scope x := by first | exact Or.inl rfl | exact Or.inr (Or.inl rfl) | exact Or.inr (Or.inr rfl)) (hd : (x == ("__debug__" : Str)) = false := by decide)
    (hcd : (x == ("__classdict__" : Str)) = false := by decide) : DE X (.Name x pos) (tVar i) (dFrz i) := ⟨pe_var hN hv hd hcd, der_frz i⟩
def dC (t : T) : Dt := fun g Q => Q (.t t) g
theorem der_c {K : PySem.W.Frag} {t : T} {v : V} (h : ∀ S, Den K S t v) : DEr K (tC v) (dC t) := by
  intro al S F H σ g Q QV R q k
  exact k.tr R (h S) q
theorem de_int {i : Int} {j pos} : DE X (.Constant (.int i) j pos) (tC (.int i)) (dC (.int i)) := ⟨pe_int, der_c fun _ => by unfold Den; rfl⟩
theorem de_bl {b : Bool} {j pos} : DE X (.Constant (.bool b) j pos) (tC (.bl b)) (dC (.bl b)) := ⟨pe_bl, der_c fun _ => by unfold Den; rfl⟩
theorem de_non {j pos} : DE X (.Constant .none j pos) (tC .non) (dC .non) := ⟨pe_non, der_c fun _ => by unfold Den; rfl⟩
theorem de_str {x : Str} {j pos} : DE X (.Constant (.str x) j pos) (tC (.str x)) (dC (.str x)) := ⟨pe_str, der_c fun _ => by unfold Den; rfl⟩
/-- a module's int -/
theorem de_globI {x : Str} {i : Int} {tk : Tok} {pos : Pos} (hg : Gl X x) (hm : X.mg x = some (.int i tk)) (hd : (x == ("__debug__" : Str)) = false := by decide) : DE X (.Name x pos) (tC (.int i)) (dC (.int i)) :=
  ⟨pe_glob hg hm ⟨_, rfl⟩ hd, der_c fun _ => by unfold Den; rfl⟩
/-- a built-in's name as a value -/
theorem de_bltn {x : Str} {n : String} {pos : Pos} (hg : Gl X x) (hm : X.mg x = none) (hv : bootBuiltins x = some (.type n)) (hn : x ≠ "__name__" := by decide) (hd : (x == ("__debug__" : Str)) = false := by decide) : DE X (.Name x pos) (tC (.ty n)) (dC (.raw (.ty n))) :=
  ⟨pe_bltn hg hm hv rfl hn hd, der_c fun _ => by unfold Den; rfl⟩

/-! operators -/
abbrev F2 := G → W → W → (W → G → Prop) → Prop
abbrev F1 := G → W → (W → G → Prop) → Prop
abbrev FN := G → List W → (W → G → Prop) → Prop
def Op2 (K : PySem.W.Frag) (r : R2) (f : F2) : Prop := ∀ (al : List Addr) (S F H : Hp) (σ : L2.St) (g : G) (x y : V) (wx wy : W) (Q : W → G → Prop) (QV : VK), Rep K al S F H σ g → DenW K al S wx x → DenW K al S wy y → f g wx wy Q → Ct K al S F σ Q QV → r x y H QV
def Op1 (K : PySem.W.Frag) (r : V → Hp → VK → Prop) (f : F1) : Prop := ∀ (al : List Addr) (S F H : Hp) (σ : L2.St) (g : G) (x : V) (wx : W) (Q : W → G → Prop) (QV : VK), Rep K al S F H σ g → DenW K al S wx x → f g wx Q → Ct K al S F σ Q QV → r x H QV
def OpN (K : PySem.W.Frag) (r : List V → Hp → VK → Prop) (f : FN) : Prop := ∀ (al : List Addr) (S F H : Hp) (σ : L2.St) (g : G) (xs : List V) (ws : List W) (Q : W → G → Prop) (QV : VK), Rep K al S F H σ g → Paired (DenW K al S) ws xs → f g ws Q → Ct K al S F σ Q QV → r xs H QV
def d2 (f : F2) (ta tb : Dt) : Dt := fun g Q => ta g fun x g1 => tb g1 fun y g2 => f g2 x y Q
def d1 (f : F1) (ta : Dt) : Dt := fun g Q => ta g fun x g1 => f g1 x Q
def dN (f : FN) (ta : DAt) : Dt := fun g Q => ta g fun xs g1 => f g1 xs Q
variable {a b : Expr} {τa τb : TE} {ta tb : Dt} {pos : Pos}
theorem der_op2 {K : PySem.W.Frag} {r : R2} {f : F2} (h : Op2 K r f) (ra : DEr K τa ta) (rb : DEr K τb tb) : DEr K (tOp r τa τb) (d2 f ta tb) := by
  intro al S F H σ g Q QV R q k
  refine ra al S F H σ g _ _ R q fun al1 S1 H1 g1 v1 w1 R1 gr1 e1 q1 => ?_
  refine rb al1 S1 F H1 σ g1 _ _ R1 q1 fun al2 S2 H2 g2 v2 w2 R2 gr2 e2 q2 => ?_
  exact h al2 S2 F H2 σ g2 v1 v2 w1 w2 Q QV R2 (e1.grow gr2) e2 q2 (k.grow (gr1.trans gr2))
theorem de_op {op : Operator} {r : R2} {f : F2} (ho : OpR X (binaryOp op) r) (h : Op2 X.K r f) (ha : DE X a τa ta) (hb : DE X b τb tb) : DE X (.BinOp a op b pos) (tOp r τa τb) (d2 f ta tb) :=
  ⟨pe_op ho ha.pe hb.pe, der_op2 h ha.r hb.r⟩
theorem de_un {op : UnaryOp} {r : V → Hp → VK → Prop} {f : F1} (ho : UnR X (unaryOp op) r) (h : Op1 X.K r f) (ha : DE X a τa ta) : DE X (.UnaryOp op a pos) (tUn r τa) (d1 f ta) := by
  refine ⟨pe_un ho ha.pe, ?_⟩
  intro al S F H σ g Q QV R q k
  refine ha.r al S F H σ g _ _ R q fun al1 S1 H1 g1 v1 w1 R1 gr1 e1 q1 => ?_
  exact h al1 S1 F H1 σ g1 v1 w1 Q QV R1 e1 q1 (k.grow gr1)
theorem de_cmp {op : CmpOp} {r : R2} {f : F2} (ho : OpR X (compareOp op) r) (h : Op2 X.K r f) (ha : DE X a τa ta) (hb : DE X b τb tb) (hm : behindInMarks op b = false := by first | exact nomark _ | rfl) : DE X (.Compare a [op] [b] pos) (tOp r τa τb) (d2 f ta tb) :=
  ⟨pe_cmpR ho ha.pe hb.pe hm, der_op2 h ha.r hb.r⟩
theorem de_ixR {r : R2} {f : F2} (ho : IxR X r) (h : Op2 X.K r f) (ha : DE X a τa ta) (hb : DE X b τb tb) (hs : PlainIx b := by intro _ _; rfl) : DE X (.Subscript a b pos) (tOp r τa τb) (d2 f ta tb) :=
  ⟨pe_ix ho ha.pe hb.pe hs, der_op2 h ha.r hb.r⟩
/-- two ints -/
def fI (C : Int → Int → Prop) (f : Int → Int → T) : F2 := fun g x y Q => match x, y with | .t (.int i), .t (.int j) => C i j ∧ Q (.t (f i j)) g | _, _ => False
def fI0 (f : Int → Int → T) : F2 := fun g x y Q => match x, y with | .t (.int i), .t (.int j) => Q (.t (f i j)) g | _, _ => False
theorem op2_I {K : PySem.W.Frag} {C : Int → Int → Prop} {gg : Int → Int → V} {f : Int → Int → T} (h : ∀ i j S, Den K S (f i j) (gg i j)) : Op2 K (rI C gg) (fI C f) := by
  intro al S F H σ g x y wx wy Q QV R dx dy q k
  unfold fI at q
  split at q
  · rename_i i j
    unfold DenW Den at dx dy
    exact ⟨i, j, dx, dy, q.1, k.tr R (h i j S) q.2⟩
  · exact q.elim
theorem op2_I0 {K : PySem.W.Frag} {gg : Int → Int → V} {f : Int → Int → T} (h : ∀ i j S, Den K S (f i j) (gg i j)) : Op2 K (rI0 gg) (fI0 f) := by
  intro al S F H σ g x y wx wy Q QV R dx dy q k
  unfold fI0 at q
  split at q
  · rename_i i j
    unfold DenW Den at dx dy
    exact ⟨i, j, dx, dy, k.tr R (h i j S) q⟩
  · exact q.elim
theorem denI {K : PySem.W.Frag} {S : Hp} (i : Int) : Den K S (.int i) (.int i) := by unfold Den; rfl
theorem denB {K : PySem.W.Frag} {S : Hp} (i : Bool) : Den K S (.bl i) (.bl i) := by unfold Den; rfl
theorem denS {K : PySem.W.Frag} {S : Hp} (i : Str) : Den K S (.str i) (.str i) := by unfold Den; rfl
theorem Op2.or {K : PySem.W.Frag} {r r' : R2} {f f' : F2} (h : Op2 K r f) (h' : Op2 K r' f') : Op2 K (fun x y H Q => r x y H Q ∨ r' x y H Q) (fun g x y Q => f g x y Q ∨ f' g x y Q) := by
  intro al S F H σ g x y wx wy Q QV R dx dy q k
  rcases q with q | q
  · exact .inl (h al S F H σ g x y wx wy Q QV R dx dy q k)
  · exact .inr (h' al S F H σ g x y wx wy Q QV R dx dy q k)
theorem Op2.imp {K : PySem.W.Frag} {r : R2} {f f' : F2} (h : Op2 K r f) (hi : ∀ g x y Q, f' g x y Q → f g x y Q) : Op2 K r f' := by
  intro al S F H σ g x y wx wy Q QV R dx dy q k
  exact h al S F H σ g x y wx wy Q QV R dx dy (hi g wx wy Q q) k
/-- x + y: ints, lists, texts -/
def fCat : F2 := fun g x y Q => match g.seqL? x, g.seqL? y with
  | some xs, some ys => xs.length + ys.length ≤ sizeLine ∧ Q (.t (.lst (xs ++ ys))) g
  | _, _ => False
theorem op2_cat {K : PySem.W.Frag} : Op2 K rCat fCat := by
  intro al S F H σ g x y wx wy Q QV R dx dy q k
  unfold fCat at q
  split at q
  · rename_i xs ys ex ey
    obtain ⟨a, vs, rfl, h1, h2⟩ := R.viewL dx ex
    obtain ⟨b, us, rfl, h3, h4⟩ := R.viewL dy ey
    refine ⟨a, b, vs, us, rfl, rfl, h1, h3, by rw [← h2.length, ← h4.length]; exact q.1, fun p np => ?_⟩
    obtain ⟨R1, gr, d⟩ := R.layL np (papp h2 h4)
    exact k _ _ _ _ _ _ R1 gr d q.2
  · exact q.elim
def fAddS : F2 := fun g x y Q => match x, y with | .t (.str i), .t (.str j) => i.length + j.length ≤ sizeLine ∧ Q (.t (.str (i ++ j))) g | _, _ => False
theorem op2_addS {K : PySem.W.Frag} : Op2 K (fun x y H Q => ∃ i j, x = .str i ∧ y = .str j ∧ i.length + j.length ≤ sizeLine ∧ Q (.str (i ++ j)) H) fAddS := by
  intro al S F H σ g x y wx wy Q QV R dx dy q k
  unfold fAddS at q
  split at q
  · rename_i i j
    unfold DenW Den at dx dy
    exact ⟨i, j, dx, dy, q.1, k.tr R (denS _) q.2⟩
  · exact q.elim
abbrev rAddA : R2 := fun x y H Q => (rI0 fun i j => V.int (i + j)) x y H Q ∨ (fun x y H Q => rCat x y H Q ∨ (fun x y H Q => ∃ i j, x = V.str i ∧ y = V.str j ∧ i.length + j.length ≤ sizeLine ∧ Q (.str (i ++ j)) H) x y H Q) x y H Q
def fAdd : F2 := fun g x y Q => match x with
  | .t (.int _) => fI0 (fun i j => .int (i + j)) g x y Q
  | .t (.str _) => fAddS g x y Q
  | _ => fCat g x y Q
theorem de_add (ha : DE X a τa ta) (hb : DE X b τb tb) : DE X (.BinOp a .Add b pos) (tOp rAddA τa τb) (d2 fAdd ta tb) :=
  de_op (op_add.or (op_cat.or op_add_str)) (((op2_I0 fun _ _ _ => denI _).or (op2_cat.or op2_addS)).imp fun g x y Q h => by
    unfold fAdd at h
    split at h
    · exact .inl h
    · exact .inr (.inr h)
    · exact .inr (.inl h)) ha hb
theorem de_sub (ha : DE X a τa ta) (hb : DE X b τb tb) : DE X (.BinOp a .Sub b pos) (tOp (rI0 fun i j => .int (i - j)) τa τb) (d2 (fI0 fun i j => .int (i - j)) ta tb) := de_op op_sub (op2_I0 fun _ _ _ => denI _) ha hb
theorem op_mulI : OpR X (binaryOp .Mult) (rI IntMulOk fun i j => .int (i * j)) := opI fun _ _ _ _ _ _ _ hc q => PyProof.Rows.mul_int q hc
theorem de_mul (ha : DE X a τa ta) (hb : DE X b τb tb) : DE X (.BinOp a .Mult b pos) (tOp (rI IntMulOk fun i j => .int (i * j)) τa τb) (d2 (fI IntMulOk fun i j => .int (i * j)) ta tb) := de_op op_mulI (op2_I fun _ _ _ => denI _) ha hb
theorem de_mod (ha : DE X a τa ta) (hb : DE X b τb tb) : DE X (.BinOp a .Mod b pos) (tOp (rI (fun _ j => j ≠ 0) fun i j => .int (i.fmod j)) τa τb) (d2 (fI (fun _ j => j ≠ 0) fun i j => .int (i.fmod j)) ta tb) := de_op op_modN (op2_I fun _ _ _ => denI _) ha hb
theorem de_fdiv (ha : DE X a τa ta) (hb : DE X b τb tb) : DE X (.BinOp a .FloorDiv b pos) (tOp (rI CDivN fun i j => .int (i.fdiv j)) τa τb) (d2 (fI CDivN fun i j => .int (i.fdiv j)) ta tb) := de_op op_fdivN (op2_I fun _ _ _ => denI _) ha hb
theorem de_pow (ha : DE X a τa ta) (hb : DE X b τb tb) : DE X (.BinOp a .Pow b pos) (tOp (rI CPow fun i j => .int (i ^ j.toNat)) τa τb) (d2 (fI CPow fun i j => .int (i ^ j.toNat)) ta tb) := de_op op_pow (op2_I fun _ _ _ => denI _) ha hb
theorem de_neg (ha : DE X a τa ta) : DE X (.UnaryOp .USub a pos) (tUn (rU fun i => .int (-i)) τa) (d1 (fun g x Q => match x with | .t (.int i) => Q (.t (.int (-i))) g | _ => False) ta) := by
  refine de_un un_neg ?_ ha
  intro al S F H σ g x wx Q QV R dx q k
  split at q
  · rename_i i
    unfold DenW Den at dx
    exact ⟨i, dx, k.tr R (denI _) q⟩
  · exact q.elim
theorem de_lt (ha : DE X a τa ta) (hb : DE X b τb tb) : DE X (.Compare a [.Lt] [b] pos) (tOp (rI0 fun i j => V.bl (decide (i < j))) τa τb) (d2 (fI0 fun i j => .bl (decide (i < j))) ta tb) := de_cmp op_lt (op2_I0 fun _ _ _ => denB _) ha hb
theorem de_le (ha : DE X a τa ta) (hb : DE X b τb tb) : DE X (.Compare a [.LtE] [b] pos) (tOp (rI0 fun i j => V.bl (decide (i ≤ j))) τa τb) (d2 (fI0 fun i j => .bl (decide (i ≤ j))) ta tb) := de_cmp op_le (op2_I0 fun _ _ _ => denB _) ha hb
theorem de_gt (ha : DE X a τa ta) (hb : DE X b τb tb) : DE X (.Compare a [.Gt] [b] pos) (tOp (rI0 fun i j => V.bl (decide (j < i))) τa τb) (d2 (fI0 fun i j => .bl (decide (j < i))) ta tb) := de_cmp op_gt (op2_I0 fun _ _ _ => denB _) ha hb
theorem de_ge (ha : DE X a τa ta) (hb : DE X b τb tb) : DE X (.Compare a [.GtE] [b] pos) (tOp (rI0 fun i j => V.bl (decide (j ≤ i))) τa τb) (d2 (fI0 fun i j => .bl (decide (j ≤ i))) ta tb) := de_cmp op_ge (op2_I0 fun _ _ _ => denB _) ha hb
end
end DL

namespace DL
open PySem PySem.Spec L2

section
variable {X : Cx} {a b : Expr} {τa τb : TE} {ta tb : Dt} {pos : Pos}
/-! subscripts -/
def fIx : F2 := fun g x y Q => match y with
  | .t (.int i) => (match g.seq? x with
    | some ts => ∃ t, atI ts i = some t ∧ Q (.t t) g
    | none => (match g.wseq? x with
      | some ws => ∃ w, atI ws i = some w ∧ Q w g
      | none => False))
  | _ => False
theorem op2_ix {K : PySem.W.Frag} : Op2 K (fun x y H Q => rIxL K x y H Q ∨ rIxT K x y H Q) fIx := by
  intro al S F H σ g x y wx wy Q QV R dx dy q k
  unfold fIx at q
  split at q
  · rename_i i
    unfold DenW Den at dy
    split at q
    · rename_i ts e
      obtain ⟨t, h1, q⟩ := q
      obtain ⟨p, vs, rfl, h2, h3⟩ := R.viewS dx e
      obtain ⟨v, h4, h5⟩ := patI h3 h1
      rcases h2 with h2 | h2
      · exact .inl ⟨p, vs, i, v, rfl, dy, h2, h4, k.tr R h5 q⟩
      · exact .inr ⟨p, vs, i, v, rfl, dy, h2, h4, k.tr R h5 q⟩
    · split at q
      · rename_i ws e
        obtain ⟨w, h1, q⟩ := q
        obtain ⟨p, vs, rfl, h2, h3⟩ := R.viewW dx e
        obtain ⟨v, h4, h5⟩ := patW h3 h1
        exact .inl ⟨p, vs, i, v, rfl, dy, .inl (.inl h2), h4, k.val R h5 q⟩
      · exact q.elim
  · exact q.elim
theorem de_ix (ha : DE X a τa ta) (hb : DE X b τb tb) (hs : PlainIx b := by intro _ _; rfl) : DE X (.Subscript a b pos) (tOp (fun x y H Q => rIxL X.K x y H Q ∨ rIxT X.K x y H Q) τa τb) (d2 fIx ta tb) :=
  de_ixR (ix_list.or ix_tup) op2_ix ha hb hs
/-! slices -/
abbrev DOt := G → (Option Int → G → Prop) → Prop
def DOr (K : PySem.W.Frag) (τ : TO) (t : DOt) : Prop := ∀ (al : List Addr) (S F H : Hp) (σ : L2.St) (g : G) (Q : Option Int → G → Prop) (QV : Option Int → Hp → Prop), Rep K al S F H σ g → t g Q →
  (∀ al' S' H' g' b, Rep K al' S' F H' σ g' → Grow al S al' S' → Q b g' → QV b H') → τ σ H QV
structure DO (X : Cx) (e : Option Expr) (τ : TO) (t : DOt) : Prop where
  pe : PO X e τ
  r : DOr X.K τ t
def dNoPart : DOt := fun g Q => Q none g
def dPart (t : Dt) : DOt := fun g Q => t g fun w g' => match w with | .t (.int i) => Q (some i) g' | _ => False
theorem do_none : DO X none tNoPart dNoPart := ⟨po_none, fun al S F H σ g Q QV R q k => k al S H g none R (Grow.refl _ _) q⟩
theorem do_some (ha : DE X a τa ta) : DO X (some a) (tPart τa) (dPart ta) := by
  refine ⟨po_some ha.pe, fun al S F H σ g Q QV R q k => ?_⟩
  refine ha.r al S F H σ g _ _ R q fun al1 S1 H1 g1 v1 w1 R1 gr1 e1 q1 => ?_
  split at q1
  · rename_i i
    unfold DenW Den at e1
    exact ⟨i, e1, k _ _ _ _ _ R1 gr1 q1⟩
  · exact q1.elim
def cut {α : Type} (xs : List α) (lo hi : Option Int) : List α := (xs.drop (HT.sIx xs.length 0 lo)).take (HT.sIx xs.length xs.length hi - HT.sIx xs.length 0 lo)
def dSl (t : Dt) (l u : DOt) : Dt := fun g Q => t g fun x g1 => l g1 fun lo g2 => u g2 fun hi g3 => match g3.seq? x with
  | some ts => (match x with | .t (.tup _) => False | _ => Q (.t (.lst (cut ts lo hi))) g3)
  | none => False
theorem not_tup {K : PySem.W.Frag} {al : List Addr} {S F H : Hp} {σ : L2.St} {g : G} (R : Rep K al S F H σ g) {w : W} {v : V} {ts : List T} (d : DenW K al S w v) (e : g.seq? w = some ts) (h : ∀ us, w ≠ .t (.tup us)) : ∃ a vs, v = .ref a ∧ SqL K H a vs ∧ Paired (Den K S) ts vs := by
  unfold G.seq? at e
  split at e
  · exact absurd rfl (h _)
  · cases e
    unfold DenW Den at d
    obtain ⟨a, vs, rfl, h1, h2⟩ := d
    exact ⟨a, vs, rfl, R.same.seq h1, Dens.iff.mp h2⟩
  · obtain ⟨a, vs, h1, h2, h3⟩ := R.viewL d e
    exact ⟨a, vs, h1, .inl (.inl h2), h3⟩
theorem de_sl {lo hi : Option Expr} {τl τh : TO} {tl th : DOt} {p2 : Pos} (ha : DE X a τa ta) (hl : DO X lo τl tl) (hh : DO X hi τh th) : DE X (.Subscript a (.Slice lo hi none p2) pos) (tSl (rSlL X.K) τa τl τh) (dSl ta tl th) := by
  refine ⟨pe_slice sl_list ha.pe hl.pe hh.pe, fun al S F H σ g Q QV R q k => ?_⟩
  refine ha.r al S F H σ g _ _ R q fun al1 S1 H1 g1 v1 w1 R1 gr1 e1 q1 => ?_
  refine hl.r al1 S1 F H1 σ g1 _ _ R1 q1 fun al2 S2 H2 g2 b2 R2 gr2 q2 => ?_
  refine hh.r al2 S2 F H2 σ g2 _ _ R2 q2 fun al3 S3 H3 g3 b3 R3 gr3 q3 => ?_
  split at q3
  · rename_i ts e
    split at q3
    · exact q3.elim
    · rename_i hne
      obtain ⟨a, vs, rfl, h1, h2⟩ := not_tup R3 (e1.grow (gr2.trans gr3)) e (fun us z => hne us z)
      refine ⟨a, vs, rfl, h1, fun p np => ?_⟩
      have hp : Paired (Den X.K S3) (cut ts b2 b3) (cutV vs b2 b3) := by
        unfold cut cutV
        rw [h2.length]
        exact ptake _ (pdrop _ h2)
      obtain ⟨R4, gr4, d⟩ := R3.layL np hp
      exact k _ _ _ _ _ _ R4 (gr1.trans (gr2.trans (gr3.trans gr4))) d q3
  · exact q3.elim
/-! arguments, displays -/
def treesW : List W → Option (List T)
  | [] => some []
  | .t x :: r => (treesW r).map (x :: ·)
  | _ => none
theorem treesW_den {K : PySem.W.Frag} {al : List Addr} {S : Hp} : ∀ {ws : List W} {ts : List T} {vs : List V}, treesW ws = some ts → Paired (DenW K al S) ws vs → Paired (Den K S) ts vs
  | [], ts, vs, e, h => by cases e; cases h; exact .nil
  | .t x :: r, ts, vs, e, h => by
    unfold treesW at e
    cases q : treesW r with
    | none => rw [q] at e; cases e
    | some us =>
      rw [q] at e
      cases e
      cases h with
      | cons h1 h2 => exact .cons h1 (treesW_den q h2)
  | .h n :: r, ts, vs, e, h => by cases e
theorem treesW_map : ∀ ts : List T, treesW (ts.map W.t) = some ts
  | [] => rfl
  | t :: ts => by rw [List.map_cons]; unfold treesW; rw [treesW_map ts]; rfl
def dNil : DAt := fun g Q => Q [] g
def dCons (t : Dt) (r : DAt) : DAt := fun g Q => t g fun w g1 => r g1 fun ws g2 => Q (w :: ws) g2
theorem da_nil : DA X [] tNil dNil := ⟨pa_nil, fun al S F H σ g Q QV R q k => k al S H g [] [] R (Grow.refl _ _) .nil q⟩
theorem da_cons {es : List Expr} {τr : TA} {tr : DAt} (ha : DE X a τa ta) (hr : DA X es τr tr) (hs : starEach (a :: es) X.env = (false, eval a X.env) :: starEach es X.env := by rfl) : DA X (a :: es) (tCons τa τr) (dCons ta tr) := by
  refine ⟨pa_cons ha.pe hr.pe hs, fun al S F H σ g Q QV R q k => ?_⟩
  refine ha.r al S F H σ g _ _ R q fun al1 S1 H1 g1 v1 w1 R1 gr1 e1 q1 => ?_
  refine hr.r al1 S1 F H1 σ g1 _ _ R1 q1 fun al2 S2 H2 g2 vs2 ws2 R2 gr2 e2 q2 => ?_
  exact k _ _ _ _ _ _ R2 (gr1.trans gr2) (.cons (e1.grow gr2) e2) q2
variable {es : List Expr} {τs : TA} {ts : DAt}
def dTup (t : DAt) : Dt := fun g Q => t g fun ws g1 => match treesW ws with | some us => ws.length ≤ sizeLine ∧ Q (.t (.tup us)) g1 | none => False
def dLst (t : DAt) : Dt := fun g Q => t g fun ws g1 => match treesW ws with | some us => ws.length ≤ sizeLine ∧ Q (.t (.lst us)) g1 | none => False
def dLstH (t : DAt) : Dt := fun g Q => t g fun ws g1 => match treesW ws with | some us => ws.length ≤ sizeLine ∧ Q (.h g1.mem.length) (g1.push (.lt us)) | none => False
def dLstW (t : DAt) : Dt := fun g Q => t g fun ws g1 => ws.length ≤ sizeLine ∧ Q (.h g1.mem.length) (g1.push (.lw ws))
theorem de_tup {x1} (h : DA X es τs ts) : DE X (.Tuple es x1 pos) (tTup τs) (dTup ts) := by
  refine ⟨pe_tup h.pe, fun al S F H σ g Q QV R q k => ?_⟩
  refine h.r al S F H σ g _ _ R q fun al1 S1 H1 g1 vs ws R1 gr1 e1 q1 => ?_
  split at q1
  · rename_i us e
    refine ⟨by rw [← e1.length]; exact q1.1, fun p np => ?_⟩
    obtain ⟨R2, gr2, d⟩ := R1.layTup np (treesW_den e e1)
    exact k _ _ _ _ _ _ R2 (gr1.trans gr2) d q1.2
  · exact q1.elim
theorem de_lst (h : DA X es τs ts) : DE X (.List es pos) (tLst τs) (dLst ts) := by
  refine ⟨pe_lst h.pe, fun al S F H σ g Q QV R q k => ?_⟩
  refine h.r al S F H σ g _ _ R q fun al1 S1 H1 g1 vs ws R1 gr1 e1 q1 => ?_
  split at q1
  · rename_i us e
    refine ⟨by rw [← e1.length]; exact q1.1, fun p np => ?_⟩
    obtain ⟨R2, gr2, d⟩ := R1.layL np (treesW_den e e1)
    exact k _ _ _ _ _ _ R2 (gr1.trans gr2) d q1.2
  · exact q1.elim
theorem de_lstH (h : DA X es τs ts) : DE X (.List es pos) (tLst τs) (dLstH ts) := by
  refine ⟨pe_lst h.pe, fun al S F H σ g Q QV R q k => ?_⟩
  refine h.r al S F H σ g _ _ R q fun al1 S1 H1 g1 vs ws R1 gr1 e1 q1 => ?_
  split at q1
  · rename_i us e
    refine ⟨by rw [← e1.length]; exact q1.1, fun p np => ?_⟩
    obtain ⟨R2, gr2, d⟩ := R1.pushC (c := .lt us) (o := .lst vs) np ⟨vs, rfl, treesW_den e e1⟩
    exact k _ _ _ _ _ _ R2 (gr1.trans gr2) d q1.2
  · exact q1.elim
theorem der_N {K : PySem.W.Frag} {r : List V → Hp → VK → Prop} {f : FN} (h : OpN K r f) (rs : DAr K τs ts) : DEr K (tCB r τs) (dN f ts) := by
  intro al S F H σ g Q QV R q k
  refine rs al S F H σ g _ _ R q fun al1 S1 H1 g1 vs ws R1 gr1 e1 q1 => ?_
  exact h al1 S1 F H1 σ g1 vs ws Q QV R1 e1 q1 (k.grow gr1)
end
end DL

namespace DL
open PySem PySem.Spec L2

section
variable {X : Cx} {a b e : Expr} {τa τb : TE} {ta tb : Dt} {pos : Pos} {es : List Expr} {τs : TA} {ts : DAt}
/-! == of data -/
def T.pd : T → PyData
  | .non => .none
  | .bl b => .bool b
  | .int i => .int i
  | .str s => .str s
  | .lst xs => .list (xs.map T.pd)
  | .sq xs => .list (xs.map T.pd)
  | .tup xs => .tuple (xs.map T.pd)
  | .dk _ _ => .dict []
  | .raw _ => .dict []
  | .exc _ => .dict []
  | .ob _ _ _ => .dict []
  | .exf _ _ _ => .dict []
/-- plain data of depth at most n -/
def T.sh : Nat → T → Bool
  | _, .non => true
  | _, .bl _ => true
  | _, .int _ => true
  | _, .str s => PyData.strOk s
  | n + 1, .lst xs => xs.all (T.sh n)
  | n + 1, .sq xs => xs.all (T.sh n)
  | n + 1, .tup xs => xs.all (T.sh n)
  | _, _ => false
def teq (x y : T) : Bool := PyData.eqv x.pd y.pd
theorem sh_all : ∀ (n : Nat) (xs : List T), (∀ t ∈ xs, t.pd.canLay0 = true ∧ t.pd.depth ≤ n) → PyData.canLayAll0 (xs.map T.pd) = true ∧ PyData.depthAll (xs.map T.pd) ≤ n
  | n, [], _ => ⟨by simp [PyData.canLayAll0], by simp [PyData.depthAll]⟩
  | n, t :: xs, h => by
    obtain ⟨h1, h2⟩ := h t (by simp)
    obtain ⟨h3, h4⟩ := sh_all n xs fun u hu => h u (by simp [hu])
    rw [List.map_cons]
    constructor
    · simp [PyData.canLayAll0, h1, h3]
    · simp only [PyData.depthAll]
      omega
theorem sh_ok : ∀ (n : Nat) (t : T), t.sh n = true → t.pd.canLay0 = true ∧ t.pd.depth ≤ n + 1
  | n, .non, _ => ⟨by simp [T.pd, PyData.canLay0], by simp [T.pd, PyData.depth]⟩
  | n, .bl _, _ => ⟨by simp [T.pd, PyData.canLay0], by simp [T.pd, PyData.depth]⟩
  | n, .int _, _ => ⟨by simp [T.pd, PyData.canLay0], by simp [T.pd, PyData.depth]⟩
  | n, .str s, h => by
    have h' : PyData.strOk s = true := by cases n <;> simpa [T.sh] using h
    exact ⟨by simp [T.pd, PyData.canLay0, h'], by simp [T.pd, PyData.depth]⟩
  | 0, .lst xs, h => by simp [T.sh] at h
  | 0, .sq xs, h => by simp [T.sh] at h
  | 0, .tup xs, h => by simp [T.sh] at h
  | n + 1, .lst xs, h => by
    have h' : ∀ t ∈ xs, t.sh n = true := by simpa [T.sh, List.all_eq_true] using h
    have := sh_all (n + 1) xs fun t ht => let ⟨a, b⟩ := sh_ok n t (h' t ht); ⟨a, b⟩
    exact ⟨by simpa [T.pd, PyData.canLay0] using this.1, by simpa [T.pd, PyData.depth] using this.2⟩
  | n + 1, .sq xs, h => by
    have h' : ∀ t ∈ xs, t.sh n = true := by simpa [T.sh, List.all_eq_true] using h
    have := sh_all (n + 1) xs fun t ht => let ⟨a, b⟩ := sh_ok n t (h' t ht); ⟨a, b⟩
    exact ⟨by simpa [T.pd, PyData.canLay0] using this.1, by simpa [T.pd, PyData.depth] using this.2⟩
  | n + 1, .tup xs, h => by
    have h' : ∀ t ∈ xs, t.sh n = true := by simpa [T.sh, List.all_eq_true] using h
    have := sh_all (n + 1) xs fun t ht => let ⟨a, b⟩ := sh_ok n t (h' t ht); ⟨a, b⟩
    exact ⟨by simpa [T.pd, PyData.canLay0] using this.1, by simpa [T.pd, PyData.depth] using this.2⟩
  | n, .dk _ _, h => by cases n <;> simp [T.sh] at h
  | n, .raw _, h => by cases n <;> simp [T.sh] at h
  | n, .exc _, h => by cases n <;> simp [T.sh] at h
  | n, .ob _ _ _, h => by cases n <;> simp [T.sh] at h
  | n, .exf _ _ _, h => by cases n <;> simp [T.sh] at h
theorem shaped_of {n : Nat} {t : T} (h : t.sh n = true) (hn : n ≤ 60) : SeqAt.shaped t.pd = true := by
  obtain ⟨h1, h2⟩ := sh_ok n t h
  unfold SeqAt.shaped
  rw [h1, decide_eq_true (by omega)]
  rfl
theorem dpAll_of {K : PySem.W.Frag} {H : Hp} : ∀ {xs : List T} {vs : List V}, (∀ t ∈ xs, ∀ v, Den K H t v → Dp K H v t.pd) → Dens K H xs vs → DpAll K H vs (xs.map T.pd)
  | [], vs, _, d => by unfold Dens at d; subst d; exact .nil
  | t :: xs, vs, h, d => by
    unfold Dens at d
    obtain ⟨v, r, rfl, d1, d2⟩ := d
    exact .cons (h t (by simp) v d1) (dpAll_of (fun u hu => h u (by simp [hu])) d2)
theorem dp_of {K : PySem.W.Frag} {H : Hp} : ∀ (n : Nat) (t : T) (v : V), t.sh n = true → Den K H t v → Dp K H v t.pd
  | n, .non, v, _, d => by unfold Den at d; subst d; unfold T.pd; exact .non
  | n, .bl _, v, _, d => by unfold Den at d; subst d; unfold T.pd; exact .bl _
  | n, .int _, v, _, d => by unfold Den at d; subst d; unfold T.pd; exact .int _
  | n, .str _, v, _, d => by unfold Den at d; subst d; unfold T.pd; exact .str _
  | 0, .lst xs, v, h, d => by simp [T.sh] at h
  | 0, .sq xs, v, h, d => by simp [T.sh] at h
  | 0, .tup xs, v, h, d => by simp [T.sh] at h
  | n + 1, .lst xs, v, h, d => by
    have h' : ∀ t ∈ xs, t.sh n = true := by simpa [T.sh, List.all_eq_true] using h
    unfold Den at d
    obtain ⟨a, vs, rfl, h1, h2⟩ := d
    unfold T.pd
    exact .lst (.inl (.inl h1)) (dpAll_of (fun t ht v dv => dp_of n t v (h' t ht) dv) h2)
  | n + 1, .sq xs, v, h, d => by
    have h' : ∀ t ∈ xs, t.sh n = true := by simpa [T.sh, List.all_eq_true] using h
    unfold Den at d
    obtain ⟨a, vs, rfl, h1, h2⟩ := d
    unfold T.pd
    exact .lst h1 (dpAll_of (fun t ht v dv => dp_of n t v (h' t ht) dv) h2)
  | n + 1, .tup xs, v, h, d => by
    have h' : ∀ t ∈ xs, t.sh n = true := by simpa [T.sh, List.all_eq_true] using h
    unfold Den at d
    obtain ⟨a, vs, rfl, h1, h2⟩ := d
    unfold T.pd
    exact .tup h1 (dpAll_of (fun t ht v dv => dp_of n t v (h' t ht) dv) h2)
  | n, .dk _ _, v, h, d => by cases n <;> simp [T.sh] at h
  | n, .raw _, v, h, d => by cases n <;> simp [T.sh] at h
  | n, .exc _, v, h, d => by cases n <;> simp [T.sh] at h
  | n, .ob _ _ _, v, h, d => by cases n <;> simp [T.sh] at h
  | n, .exf _ _ _, v, h, d => by cases n <;> simp [T.sh] at h
def fEq (neg : Bool) : F2 := fun g x y Q => match x, y with
  | .t (.int i), .t (.int j) => Q (.t (.bl (if neg then !(decide (i = j)) else decide (i = j)))) g
  | .t (.str i), .t (.str j) => Q (.t (.bl (if neg then !(decide (i = j)) else decide (i = j)))) g
  | x, y => match g.tree? x, g.tree? y with
    | some tx, some ty => tx.sh 8 = true ∧ ty.sh 8 = true ∧ Q (.t (.bl (if neg then !teq tx ty else teq tx ty))) g
    | _, _ => False
theorem op2_eq (neg : Bool) {K : PySem.W.Frag} : Op2 K (fun x y H Q => (scal x y = true ∧ Q (.bl (if neg then !decide (x = y) else decide (x = y))) H) ∨
    (∃ d e, Dp K H x d ∧ Dp K H y e ∧ SeqAt.shaped d = true ∧ SeqAt.shaped e = true ∧ Q (.bl (if neg then !PyData.eqv d e else PyData.eqv d e)) H)) (fEq neg) := by
  intro al S F H σ g x y wx wy Q QV R dx dy q k
  unfold fEq at q
  split at q
  · rename_i i j
    unfold DenW Den at dx dy
    subst dx dy
    refine .inl ⟨rfl, k.tr R (t := .bl _) (by unfold Den; rfl) ?_⟩
    have e : decide (V.int i = V.int j) = decide (i = j) := by
      by_cases h : i = j
      · subst h; simp
      · rw [decide_eq_false h, decide_eq_false fun z => h (V.int.inj z)]
    rw [e]; exact q
  · rename_i i j
    unfold DenW Den at dx dy
    subst dx dy
    refine .inl ⟨rfl, k.tr R (t := .bl _) (by unfold Den; rfl) ?_⟩
    have e : decide (V.str i = V.str j) = decide (i = j) := by
      by_cases h : i = j
      · subst h; simp
      · rw [decide_eq_false h, decide_eq_false fun z => h (V.str.inj z)]
    rw [e]; exact q
  · split at q
    · rename_i tx ty ex ey
      obtain ⟨h1, h2, q⟩ := q
      exact .inr ⟨tx.pd, ty.pd, dp_of 8 _ _ h1 (R.viewT dx ex), dp_of 8 _ _ h2 (R.viewT dy ey), shaped_of h1 (by decide), shaped_of h2 (by decide), k.tr R (denB _) q⟩
    · exact q.elim
theorem de_eq {kk : Nat} (hr : Room kk X.A) (ha : DE X a τa ta) (hb : DE X b τb tb) : DE X (.Compare a [.Eq] [b] pos) (tOp (fun x y H Q => (scal x y = true ∧ Q (.bl (if false then !decide (x = y) else decide (x = y))) H) ∨
    (∃ d e, Dp X.K H x d ∧ Dp X.K H y e ∧ SeqAt.shaped d = true ∧ SeqAt.shaped e = true ∧ Q (.bl (if false then !PyData.eqv d e else PyData.eqv d e)) H)) τa τb) (d2 (fEq false) ta tb) := de_cmp (op_eq.or (op_eqD hr.units)) (op2_eq false) ha hb
/-! in, not in -/
def T.flat : T → Option V
  | .non => some .non
  | .bl b => some (.bl b)
  | .int i => some (.int i)
  | .str s => some (.str s)
  | _ => none
theorem flat_den {K : PySem.W.Frag} {S : Hp} {t : T} {v u : V} (h : t.flat = some u) (d : Den K S t v) : v = u ∧ flatV v = true := by
  cases t with
  | non => cases h; unfold Den at d; subst d; exact ⟨rfl, rfl⟩
  | bl b => cases h; unfold Den at d; subst d; exact ⟨rfl, rfl⟩
  | int b => cases h; unfold Den at d; subst d; exact ⟨rfl, rfl⟩
  | str b => cases h; unfold Den at d; subst d; exact ⟨rfl, rfl⟩
  | _ => cases h
def inT (x : T) (ts : List T) : Bool := ts.any fun t => match t.flat, x.flat with | some u, some v => eqV u v | _, _ => false
def fIn (neg : Bool) : F2 := fun g x y Q => match x with
  | .t tx => (match g.seq? y with
    | some ts => tx.flat.isSome = true ∧ (∀ t ∈ ts, t.flat.isSome = true) ∧ Q (.t (.bl (if neg then !inT tx ts else inT tx ts))) g
    | none => False)
  | _ => False
theorem in_den {K : PySem.W.Frag} {S : Hp} {tx : T} {x : V} (hx : tx.flat = some x) : ∀ {ts : List T} {vs : List V}, (∀ t ∈ ts, t.flat.isSome = true) → Paired (Den K S) ts vs → inV x vs = inT tx ts ∧ vs.all flatV = true
  | _, _, _, .nil => ⟨rfl, rfl⟩
  | t :: ts, v :: vs, h, .cons d r => by
    obtain ⟨u, hu⟩ := Option.isSome_iff_exists.mp (h t (by simp))
    obtain ⟨rfl, f⟩ := flat_den hu d
    obtain ⟨h1, h2⟩ := in_den hx (fun t ht => h t (by simp [ht])) r
    constructor
    · unfold inV inT at h1 ⊢
      rw [List.any_cons, List.any_cons, h1, hu, hx]
    · rw [List.all_cons, f, h2]; rfl
theorem op2_in (neg : Bool) {K : PySem.W.Frag} : Op2 K (rIn K neg) (fIn neg) := by
  intro al S F H σ g x y wx wy Q QV R dx dy q k
  unfold fIn at q
  split at q
  · rename_i tx
    split at q
    · rename_i ts e
      obtain ⟨h1, h2, q⟩ := q
      obtain ⟨u, hu⟩ := Option.isSome_iff_exists.mp h1
      obtain ⟨rfl, f⟩ := flat_den hu dx
      obtain ⟨p, vs, rfl, h3, h4⟩ := R.viewS dy e
      obtain ⟨h5, h6⟩ := in_den hu h2 h4
      refine ⟨p, vs, rfl, h3, f, h6, k.tr R (t := .bl _) (by unfold Den; rfl) ?_⟩
      rw [h5]; exact q
    · exact q.elim
  · exact q.elim
/-! built-ins -/
theorem OpN.or {K : PySem.W.Frag} {r r' : List V → Hp → VK → Prop} {f f' : FN} (h : OpN K r f) (h' : OpN K r' f') : OpN K (fun x H Q => r x H Q ∨ r' x H Q) (fun g x Q => f g x Q ∨ f' g x Q) := by
  intro al S F H σ g x wx Q QV R dx q k
  rcases q with q | q
  · exact .inl (h al S F H σ g x wx Q QV R dx q k)
  · exact .inr (h' al S F H σ g x wx Q QV R dx q k)
theorem OpN.imp {K : PySem.W.Frag} {r : List V → Hp → VK → Prop} {f f' : FN} (h : OpN K r f) (hi : ∀ g x Q, f' g x Q → f g x Q) : OpN K r f' := by
  intro al S F H σ g x wx Q QV R dx q k
  exact h al S F H σ g x wx Q QV R dx (hi g wx Q q) k
theorem p1 {α β : Type} {F : α → β → Prop} {x : α} {ys : List β} (h : Paired F [x] ys) : ∃ y, ys = [y] ∧ F x y := by
  cases h with
  | cons h1 h2 => cases h2; exact ⟨_, rfl, h1⟩
theorem p2 {α β : Type} {F : α → β → Prop} {x y : α} {ys : List β} (h : Paired F [x, y] ys) : ∃ u v, ys = [u, v] ∧ F x u ∧ F y v := by
  cases h with
  | cons h1 h2 =>
    obtain ⟨v, rfl, h3⟩ := p1 h2
    exact ⟨_, _, rfl, h1, h3⟩
/-- length of what a thing holds -/
def G.len? (g : G) (w : W) : Option Nat := match w with
  | .t (.lst ts) => some ts.length
  | .t (.sq ts) => some ts.length
  | .t (.tup ts) => some ts.length
  | .t (.dk ks _) => some ks.length
  | .h n => (match g.mem[n]? with
    | some (some (.lt ts)) => some ts.length
    | some (some (.lw ts)) => some ts.length
    | some (some (.dt ks _)) => some ks.length
    | some (some (.dw ks _)) => some ks.length
    | _ => none)
  | _ => none
def fLen : FN := fun g ws Q => match ws with
  | [w] => (match g.len? w with | some n => Q (.t (.int n)) g | none => False)
  | _ => False
theorem opN_len {K : PySem.W.Frag} : OpN K (fun xs H Q => (∃ p ys, xs = [V.ref p] ∧ (SqL K H p ys ∨ SqT K H p ys) ∧ Q (.int ys.length) H) ∨ (∃ a kvs, xs = [V.ref a] ∧ H a = some (.dK kvs) ∧ Q (.int kvs.length) H)) fLen := by
  intro al S F H σ g xs ws Q QV R ds q k
  unfold fLen at q
  split at q
  · rename_i w
    obtain ⟨v, rfl, d⟩ := p1 ds
    split at q
    · rename_i n e
      have seq : ∀ ts, g.seq? w = some ts → n = ts.length → (∃ p ys, [v] = [V.ref p] ∧ (SqL K H p ys ∨ SqT K H p ys) ∧ QV (.int ys.length) H) := fun ts h1 h2 => by
        obtain ⟨p, vs, rfl, h3, h4⟩ := R.viewS d h1
        refine ⟨p, vs, rfl, h3, ?_⟩
        rw [← h4.length, ← h2]
        exact k.tr R (denI _) q
      have dic : ∀ (c : Cell) (ks : List Key), g.cell? w = some c → n = ks.length → (∀ o, CellOk K al S c o → ∃ kvs, o = .dK kvs ∧ kvs.length = ks.length) → (∃ a kvs, [v] = [V.ref a] ∧ H a = some (.dK kvs) ∧ QV (.int kvs.length) H) := fun c ks h1 h2 h3 => by
        obtain ⟨a, o, rfl, h4, h5⟩ := R.view d h1
        obtain ⟨kvs, rfl, h6⟩ := h3 o h5
        refine ⟨a, kvs, rfl, h4, ?_⟩
        rw [h6, ← h2]
        exact k.tr R (denI _) q
      unfold G.len? at e
      split at e
      · exact .inl (seq _ rfl (Option.some.inj e).symm)
      · exact .inl (seq _ rfl (Option.some.inj e).symm)
      · exact .inl (seq _ rfl (Option.some.inj e).symm)
      · rename_i ks ts
        exact .inr (dic _ ks rfl (Option.some.inj e).symm fun o ⟨vs, h1, h2, h3⟩ => ⟨_, h1, by rw [List.length_zip, ← h3.length, h2, Nat.min_self]⟩)
      · rename_i m
        split at e
        · rename_i ts em
          have ec : g.cell? (.h m) = some (.lt ts) := by unfold G.cell?; dsimp only; rw [em]
          exact .inl (seq ts (by unfold G.seq? G.seqL?; dsimp only; rw [ec]) (Option.some.inj e).symm)
        · rename_i ts em
          have ec : g.cell? (.h m) = some (.lw ts) := by unfold G.cell?; dsimp only; rw [em]
          obtain ⟨a, o, rfl, h1, vs, rfl, h2⟩ := R.view d ec
          refine .inl ⟨a, vs, rfl, .inl (.inl (.inl h1)), ?_⟩
          rw [← h2.length, Option.some.inj e]
          exact k.tr R (denI _) q
        · rename_i ks ts em
          have ec : g.cell? (.h m) = some (.dt ks ts) := by unfold G.cell?; dsimp only; rw [em]
          exact .inr (dic _ ks ec (Option.some.inj e).symm fun o ⟨vs, h1, h2, h3⟩ => ⟨_, h1, by rw [List.length_zip, ← h3.length, h2, Nat.min_self]⟩)
        · rename_i ks ts em
          have ec : g.cell? (.h m) = some (.dw ks ts) := by unfold G.cell?; dsimp only; rw [em]
          exact .inr (dic _ ks ec (Option.some.inj e).symm fun o ⟨vs, h1, h2, h3⟩ => ⟨_, h1, by rw [List.length_zip, ← h3.length, h2, Nat.min_self]⟩)
        · cases e
      · cases e
    · exact q.elim
  · exact q.elim
section
variable {p : Pos}
theorem de_cB {x : Str} {id : String} {r : List V → Hp → VK → Prop} {f : FN} (hc : CallR X (.builtin id) r) (h : OpN X.K r f) (hm : X.mg x = none) (ha : DA X (e :: es) τs ts) (hv : bootBuiltins x = some (.builtin id)) (hg : Gl X x := by rfl)
    (hn : x ≠ "__name__" := by decide) (hdb : (x == ("__debug__" : Str)) = false := by decide)
    (he : starEach (e :: es) X.env = (false, eval e X.env) :: starEach es X.env := by rfl) (hpl : (backTo pos (starEach es X.env)).any (·.1) = false := by rfl) : DE X (.Call (.Name x p) (e :: es) [] pos) (tCB r τs) (dN f ts) :=
  ⟨pe_callB hc hg hm hv ha.pe hn hdb he hpl, der_N h ha.r⟩
theorem de_cT {x : Str} {id : String} {r : List V → Hp → VK → Prop} {f : FN} (hc : CallR X (.type id) r) (h : OpN X.K r f) (hm : X.mg x = none) (ha : DA X (e :: es) τs ts) (hv : bootBuiltins x = some (.type id)) (hg : Gl X x := by rfl)
    (hn : x ≠ "__name__" := by decide) (hdb : (x == ("__debug__" : Str)) = false := by decide)
    (he : starEach (e :: es) X.env = (false, eval e X.env) :: starEach es X.env := by rfl) (hpl : (backTo pos (starEach es X.env)).any (·.1) = false := by rfl) : DE X (.Call (.Name x p) (e :: es) [] pos) (tCB r τs) (dN f ts) :=
  ⟨pe_callTy hc hg hm hv ha.pe hn hdb he hpl, der_N h ha.r⟩
end
/-- one list of ints -/
theorem vals_of_denI {K : PySem.W.Frag} {S : Hp} : ∀ {ns : List Int} {vs : List V}, Paired (Den K S) (ns.map T.int) vs → vs = ns.map V.int
  | [], _, .nil => rfl
  | n :: ns, _, .cons d r => by
    unfold Den at d
    rw [d, vals_of_denI r, List.map_cons]
theorem vals_of_denB {K : PySem.W.Frag} {S : Hp} : ∀ {ns : List Bool} {vs : List V}, Paired (Den K S) (ns.map T.bl) vs → vs = ns.map V.bl
  | [], _, .nil => rfl
  | n :: ns, _, .cons d r => by
    unfold Den at d
    rw [d, vals_of_denB r, List.map_cons]
def G.lq? (g : G) : W → Option (List T)
  | .t (.sq ts) => some ts
  | w => g.seqL? w
theorem Rep.viewQ {K : PySem.W.Frag} {al : List Addr} {S F H : Hp} {σ : L2.St} {g : G} (R : Rep K al S F H σ g) {w : W} {v : V} {ts : List T} (d : DenW K al S w v) (e : g.lq? w = some ts) : ∃ a vs, v = .ref a ∧ SqL K H a vs ∧ Paired (Den K S) ts vs := by
  unfold G.lq? at e
  split at e
  · cases e
    unfold DenW Den at d
    obtain ⟨a, vs, rfl, h1, h2⟩ := d
    exact ⟨a, vs, rfl, R.same.seq h1, Dens.iff.mp h2⟩
  · obtain ⟨a, vs, h1, h2, h3⟩ := R.viewL d e
    exact ⟨a, vs, h1, .inl (.inl h2), h3⟩
theorem Rep.viewI {K : PySem.W.Frag} {al : List Addr} {S F H : Hp} {σ : L2.St} {g : G} (R : Rep K al S F H σ g) {w : W} {v : V} {ns : List Int} (d : DenW K al S w v) (e : g.lq? w = some (ns.map T.int)) : ∃ a, v = .ref a ∧ SqL K H a (ns.map V.int) := by
  obtain ⟨a, vs, rfl, h1, h2⟩ := R.viewQ d e
  rw [vals_of_denI h2] at h1
  exact ⟨a, rfl, h1⟩
theorem Rep.viewB {K : PySem.W.Frag} {al : List Addr} {S F H : Hp} {σ : L2.St} {g : G} (R : Rep K al S F H σ g) {w : W} {v : V} {ns : List Bool} (d : DenW K al S w v) (e : g.lq? w = some (ns.map T.bl)) : ∃ a, v = .ref a ∧ SqL K H a (ns.map V.bl) := by
  obtain ⟨a, vs, rfl, h1, h2⟩ := R.viewQ d e
  rw [vals_of_denB h2] at h1
  exact ⟨a, rfl, h1⟩
def fSum : FN := fun g ws Q => match ws with
  | [w] => ∃ ns : List Int, g.lq? w = some (ns.map T.int) ∧ Q (.t (.int ns.sum)) g
  | _ => False
theorem opN_sum {K : PySem.W.Frag} : OpN K (rSum K) fSum := by
  intro al S F H σ g xs ws Q QV R ds q k
  unfold fSum at q
  split at q
  · obtain ⟨v, rfl, d⟩ := p1 ds
    obtain ⟨ns, e, q⟩ := q
    obtain ⟨a, rfl, h⟩ := R.viewI d e
    exact ⟨a, ns, rfl, h, k.tr R (denI _) q⟩
  · exact q.elim
/-- min, max: of a list of ints, or of two ints -/
def fMin : FN := fun g ws Q => match ws with
  | [.t (.int i), .t (.int j)] => Q (.t (.int (if j < i then j else i))) g
  | [w] => ∃ ns : List Int, g.lq? w = some (ns.map T.int) ∧ 0 < ns.length ∧ ∀ m, m ∈ ns → (∀ y, y ∈ ns → m ≤ y) → Q (.t (.int m)) g
  | _ => False
def fMax : FN := fun g ws Q => match ws with
  | [.t (.int i), .t (.int j)] => Q (.t (.int (if j > i then j else i))) g
  | [w] => ∃ ns : List Int, g.lq? w = some (ns.map T.int) ∧ 0 < ns.length ∧ ∀ m, m ∈ ns → (∀ y, y ∈ ns → y ≤ m) → Q (.t (.int m)) g
  | _ => False
theorem opN_min {K : PySem.W.Frag} : OpN K (fun xs H Q => rMin K xs H Q ∨ ∃ i j, xs = [.int i, .int j] ∧ Q (.int (if j < i then j else i)) H) fMin := by
  intro al S F H σ g xs ws Q QV R ds q k
  unfold fMin at q
  split at q
  · obtain ⟨u, v, rfl, d1, d2⟩ := p2 ds
    unfold DenW Den at d1 d2
    subst d1 d2
    exact .inr ⟨_, _, rfl, k.tr R (denI _) q⟩
  · obtain ⟨v, rfl, d⟩ := p1 ds
    obtain ⟨ns, e, h0, q⟩ := q
    obtain ⟨a, rfl, h⟩ := R.viewI d e
    exact .inl ⟨a, ns, rfl, h, h0, fun m h1 h2 => k.tr R (denI _) (q m h1 h2)⟩
  · exact q.elim
def fAll : FN := fun g ws Q => match ws with
  | [w] => ∃ ns : List Bool, g.lq? w = some (ns.map T.bl) ∧ Q (.t (.bl (ns.all id))) g
  | _ => False
theorem opN_all {K : PySem.W.Frag} : OpN K (rAll K) fAll := by
  intro al S F H σ g xs ws Q QV R ds q k
  unfold fAll at q
  split at q
  · obtain ⟨v, rfl, d⟩ := p1 ds
    obtain ⟨ns, e, q⟩ := q
    obtain ⟨a, rfl, h⟩ := R.viewB d e
    exact ⟨a, ns, rfl, h, k.tr R (denB _) q⟩
  · exact q.elim
def fInt : FN := fun g ws Q => match ws with
  | [.t (.int i)] => Q (.t (.int i)) g
  | [.t (.bl b)] => Q (.t (.int (if b then 1 else 0))) g
  | _ => False
theorem opN_int {K : PySem.W.Frag} : OpN K (fun xs H Q => (∃ i, xs = [.int i] ∧ Q (.int i) H) ∨ ∃ k, xs = [.bl k] ∧ Q (.int (if k then 1 else 0)) H) fInt := by
  intro al S F H σ g xs ws Q QV R ds q k
  unfold fInt at q
  split at q
  · obtain ⟨v, rfl, d⟩ := p1 ds
    unfold DenW Den at d
    subst d
    exact .inl ⟨_, rfl, k.tr R (denI _) q⟩
  · obtain ⟨v, rfl, d⟩ := p1 ds
    unfold DenW Den at d
    subst d
    exact .inr ⟨_, rfl, k.tr R (denI _) q⟩
  · exact q.elim
/-- list(x): a new list of the things of a list or tuple -/
def fListOf : FN := fun g ws Q => match ws with
  | [w] => (match g.seq? w with | some ts => Q (.t (.lst ts)) g | none => False)
  | _ => False
def fListOfH : FN := fun g ws Q => match ws with
  | [w] => (match g.seq? w with | some ts => Q (.h g.mem.length) (g.push (.lt ts)) | none => False)
  | _ => False
theorem opN_listOf {K : PySem.W.Frag} : OpN K (fun xs H Q => ∃ p ys, xs = [.ref p] ∧ (SqL K H p ys ∨ SqT K H p ys) ∧ ∀ l, H l = none → Q (.ref l) (upd H l (.lst ys))) fListOf := by
  intro al S F H σ g xs ws Q QV R ds q k
  unfold fListOf at q
  split at q
  · obtain ⟨v, rfl, d⟩ := p1 ds
    split at q
    · rename_i ts e
      obtain ⟨a, vs, rfl, h1, h2⟩ := R.viewS d e
      refine ⟨a, vs, rfl, h1, fun p np => ?_⟩
      obtain ⟨R2, gr2, d2⟩ := R.layL np h2
      exact k _ _ _ _ _ _ R2 gr2 d2 q
    · exact q.elim
  · exact q.elim
theorem opN_listOfH {K : PySem.W.Frag} : OpN K (fun xs H Q => ∃ p ys, xs = [.ref p] ∧ (SqL K H p ys ∨ SqT K H p ys) ∧ ∀ l, H l = none → Q (.ref l) (upd H l (.lst ys))) fListOfH := by
  intro al S F H σ g xs ws Q QV R ds q k
  unfold fListOfH at q
  split at q
  · obtain ⟨v, rfl, d⟩ := p1 ds
    split at q
    · rename_i ts e
      obtain ⟨a, vs, rfl, h1, h2⟩ := R.viewS d e
      refine ⟨a, vs, rfl, h1, fun p np => ?_⟩
      obtain ⟨R2, gr2, d2⟩ := R.pushC (c := .lt ts) (o := .lst vs) np ⟨vs, rfl, h2⟩
      exact k _ _ _ _ _ _ R2 gr2 d2 q
    · exact q.elim
  · exact q.elim
/-- isinstance(x, T), T a built-in class -/
def G.tyN (g : G) : W → Option String
  | .t .non => some "NoneType"
  | .t (.bl _) => some "bool"
  | .t (.int _) => some "int"
  | .t (.str _) => some "str"
  | .t (.lst _) => some "list"
  | .t (.tup _) => some "tuple"
  | .t (.dk _ _) => some "dict"
  | .t (.sq _) => none
  | .t (.raw _) => none
  | .t (.exc _) => none
  | .t (.ob _ _ _) => none
  | .t (.exf _ _ _) => none
  | .h n => (match g.mem[n]? with
    | some (some (.lt _)) => some "list"
    | some (some (.lw _)) => some "list"
    | some (some (.dt _ _)) => some "dict"
    | some (some (.dw _ _)) => some "dict"
    | some (some (.tw _)) => some "tuple"
    | _ => none)
def fIsi : FN := fun g ws Q => match ws with
  | [w, .t (.raw (.ty c))] => (match g.tyN w with | some a => (match kitB a c with | some b => Q (.t (.bl b)) g | none => False) | none => False)
  | _ => False
theorem tyX_of {K : PySem.W.Frag} {al : List Addr} {S F H : Hp} {σ : L2.St} {g : G} (R : Rep K al S F H σ g) {w : W} {v : V} {a : String} (d : DenW K al S w v) (e : g.tyN w = some a) : TyX K H v (.type a) := by
  unfold G.tyN at e
  split at e
  · cases e; unfold DenW Den at d; subst d; exact .base .non
  · cases e; unfold DenW Den at d; subst d; exact .base (.bl _)
  · cases e; unfold DenW Den at d; subst d; exact .base (.int _)
  · cases e; unfold DenW Den at d; subst d; exact .base (.str _)
  · cases e; unfold DenW Den at d; obtain ⟨p, vs, rfl, h1, _⟩ := d; exact .base (.lst (R.same _ _ h1))
  · cases e
    unfold DenW Den at d
    obtain ⟨p, vs, rfl, h1, _⟩ := d
    rcases seqT R.same h1 with (h2 | ⟨o, h2⟩) | ⟨o, its, n, h2, h3, _⟩
    · exact .base (.tup h2)
    · exact .fTuple h2
    · exact .kTuple h2 h3
  · cases e; unfold DenW Den at d; obtain ⟨p, vs, rfl, h1, _⟩ := d; exact .base (.dK (R.same _ _ h1))
  · cases e
  · cases e
  · cases e
  · cases e
  · cases e
  · rename_i m
    split at e
    · rename_i ts em
      cases e
      obtain ⟨p, o, rfl, h1, vs, rfl, _⟩ := R.view d (c := .lt ts) (by unfold G.cell?; dsimp only; rw [em])
      exact .base (.lst h1)
    · rename_i ts em
      cases e
      obtain ⟨p, o, rfl, h1, vs, rfl, _⟩ := R.view d (c := .lw ts) (by unfold G.cell?; dsimp only; rw [em])
      exact .base (.lst h1)
    · rename_i ks ts em
      cases e
      obtain ⟨p, o, rfl, h1, vs, rfl, _⟩ := R.view d (c := .dt ks ts) (by unfold G.cell?; dsimp only; rw [em])
      exact .base (.dK h1)
    · rename_i ks ts em
      cases e
      obtain ⟨p, o, rfl, h1, vs, rfl, _⟩ := R.view d (c := .dw ks ts) (by unfold G.cell?; dsimp only; rw [em])
      exact .base (.dK h1)
    · rename_i ts em
      cases e
      obtain ⟨p, o, rfl, h1, vs, rfl, _⟩ := R.view d (c := .tw ts) (by unfold G.cell?; dsimp only; rw [em])
      exact .base (.tup h1)
    · cases e
theorem opN_isi {K : PySem.W.Frag} : OpN K (rIsi K) fIsi := by
  intro al S F H σ g xs ws Q QV R ds q k
  unfold fIsi at q
  split at q
  · rename_i w c
    obtain ⟨u, v, rfl, d1, d2⟩ := p2 ds
    split at q
    · rename_i a ea
      split at q
      · rename_i b eb
        unfold DenW Den at d2
        subst d2
        exact ⟨u, .ty c, _, _, b, rfl, .ty c, tyX_of R d1 ea, kit_ty eb, k.tr R (denB _) q⟩
      · exact q.elim
    · exact q.elim
  · exact q.elim
section
variable {p : Pos}
theorem de_len (hm : X.mg "len" = none) (ha : DA X (e :: es) τs ts) (hg : Gl X "len" := by rfl) (he : starEach (e :: es) X.env = (false, eval e X.env) :: starEach es X.env := by rfl) (hpl : (backTo pos (starEach es X.env)).any (·.1) = false := by rfl) :
    DE X (.Call (.Name "len" p) (e :: es) [] pos) (tCB (fun xs H Q => (∃ p ys, xs = [V.ref p] ∧ (SqL X.K H p ys ∨ SqT X.K H p ys) ∧ Q (.int ys.length) H) ∨ (∃ a kvs, xs = [V.ref a] ∧ H a = some (.dK kvs) ∧ Q (.int kvs.length) H)) τs) (dN fLen ts) :=
  de_cB (call_len_seq.or call_lenD) opN_len hm ha PySem.boot_len hg (by decide) (by decide) he hpl
theorem de_sum (hc : X.calm = true) (hm : X.mg "sum" = none) (ha : DA X (e :: es) τs ts) (hg : Gl X "sum" := by rfl) (he : starEach (e :: es) X.env = (false, eval e X.env) :: starEach es X.env := by rfl) (hpl : (backTo pos (starEach es X.env)).any (·.1) = false := by rfl) :
    DE X (.Call (.Name "sum" p) (e :: es) [] pos) (tCB (rSum X.K) τs) (dN fSum ts) := de_cB (cr_sum hc) opN_sum hm ha (by decide +kernel) hg (by decide) (by decide) he hpl
theorem de_min (hc : X.calm = true) (hm : X.mg "min" = none) (ha : DA X (e :: es) τs ts) (hg : Gl X "min" := by rfl) (he : starEach (e :: es) X.env = (false, eval e X.env) :: starEach es X.env := by rfl) (hpl : (backTo pos (starEach es X.env)).any (·.1) = false := by rfl) :
    DE X (.Call (.Name "min" p) (e :: es) [] pos) (tCB (fun xs H Q => rMin X.K xs H Q ∨ ∃ i j, xs = [.int i, .int j] ∧ Q (.int (if j < i then j else i)) H) τs) (dN fMin ts) := de_cB ((cr_min hc).or (call_min2 hc)) opN_min hm ha (by decide +kernel) hg (by decide) (by decide) he hpl
theorem de_all (hc : X.calm = true) (hm : X.mg "all" = none) (ha : DA X (e :: es) τs ts) (hg : Gl X "all" := by rfl) (he : starEach (e :: es) X.env = (false, eval e X.env) :: starEach es X.env := by rfl) (hpl : (backTo pos (starEach es X.env)).any (·.1) = false := by rfl) :
    DE X (.Call (.Name "all" p) (e :: es) [] pos) (tCB (rAll X.K) τs) (dN fAll ts) := de_cB (cr_all hc) opN_all hm ha (by decide +kernel) hg (by decide) (by decide) he hpl
theorem de_isi (hm : X.mg "isinstance" = none) (ha : DA X (e :: es) τs ts) (hg : Gl X "isinstance" := by rfl) (he : starEach (e :: es) X.env = (false, eval e X.env) :: starEach es X.env := by rfl) (hpl : (backTo pos (starEach es X.env)).any (·.1) = false := by rfl) :
    DE X (.Call (.Name "isinstance" p) (e :: es) [] pos) (tCB (rIsi X.K) τs) (dN fIsi ts) := de_cB call_isi opN_isi hm ha (by decide +kernel) hg (by decide) (by decide) he hpl
theorem de_intOf (hm : X.mg "int" = none) (ha : DA X (e :: es) τs ts) (hg : Gl X "int" := by rfl) (he : starEach (e :: es) X.env = (false, eval e X.env) :: starEach es X.env := by rfl) (hpl : (backTo pos (starEach es X.env)).any (·.1) = false := by rfl) :
    DE X (.Call (.Name "int" p) (e :: es) [] pos) (tCB (fun xs H Q => (∃ i, xs = [.int i] ∧ Q (.int i) H) ∨ ∃ k, xs = [.bl k] ∧ Q (.int (if k then 1 else 0)) H) τs) (dN fInt ts) := de_cT call_int1 opN_int hm ha (by decide +kernel) hg (by decide) (by decide) he hpl
theorem de_listOf (hm : X.mg "list" = none) (ha : DA X (e :: es) τs ts) (hg : Gl X "list" := by rfl) (he : starEach (e :: es) X.env = (false, eval e X.env) :: starEach es X.env := by rfl) (hpl : (backTo pos (starEach es X.env)).any (·.1) = false := by rfl) :
    DE X (.Call (.Name "list" p) (e :: es) [] pos) (tCB (fun xs H Q => ∃ p ys, xs = [.ref p] ∧ (SqL X.K H p ys ∨ SqT X.K H p ys) ∧ ∀ l, H l = none → Q (.ref l) (upd H l (.lst ys))) τs) (dN fListOf ts) := de_cT call_list_of opN_listOf hm ha (by decide +kernel) hg (by decide) (by decide) he hpl
theorem de_listOfH (hm : X.mg "list" = none) (ha : DA X (e :: es) τs ts) (hg : Gl X "list" := by rfl) (he : starEach (e :: es) X.env = (false, eval e X.env) :: starEach es X.env := by rfl) (hpl : (backTo pos (starEach es X.env)).any (·.1) = false := by rfl) :
    DE X (.Call (.Name "list" p) (e :: es) [] pos) (tCB (fun xs H Q => ∃ p ys, xs = [.ref p] ∧ (SqL X.K H p ys ∨ SqT X.K H p ys) ∧ ∀ l, H l = none → Q (.ref l) (upd H l (.lst ys))) τs) (dN fListOfH ts) := de_cT call_list_of opN_listOfH hm ha (by decide +kernel) hg (by decide) (by decide) he hpl
/-- list(range(..)) -/
def DRr (K : PySem.W.Frag) (τ : L2.St → Hp → (Int → Int → Hp → Prop) → Prop) (t : G → (Int → Int → G → Prop) → Prop) : Prop := ∀ (al : List Addr) (S F H : Hp) (σ : L2.St) (g : G) (Q : Int → Int → G → Prop) (QV : Int → Int → Hp → Prop), Rep K al S F H σ g → t g Q →
  (∀ al' S' H' g' i j, Rep K al' S' F H' σ g' → Grow al S al' S' → Q i j g' → QV i j H') → τ σ H QV
structure DR (X : Cx) (e : Expr) (τ : L2.St → Hp → (Int → Int → Hp → Prop) → Prop) (t : G → (Int → Int → G → Prop) → Prop) : Prop where
  pe : PRg X e τ
  r : DRr X.K τ t
def dR1 (t : Dt) : G → (Int → Int → G → Prop) → Prop := fun g Q => t g fun w g' => match w with | .t (.int n) => Q 0 n g' | _ => False
def rgT (i j : Int) : List T := (List.range (j - i).toNat).map fun k => T.int (i + (k : Nat))
def dLstRg (t : G → (Int → Int → G → Prop) → Prop) : Dt := fun g Q => t g fun i j g' => RgOk i j ∧ Q (.t (.lst (rgT i j))) g'
def dLstRgH (t : G → (Int → Int → G → Prop) → Prop) : Dt := fun g Q => t g fun i j g' => RgOk i j ∧ Q (.h g'.mem.length) (g'.push (.lt (rgT i j)))
variable {τr : L2.St → Hp → (Int → Int → Hp → Prop) → Prop} {tr : G → (Int → Int → G → Prop) → Prop}
end
end
end DL

namespace DL
open PySem PySem.Spec L2

/-! dicts with int and text keys -/
section
variable {α β : Type}
def look : List Key → List α → Key → Option α
  | k :: ks, x :: xs, j => if k = j then some x else look ks xs j
  | _, _, _ => none
def putAll (k : Key) (x : α) : List Key → List α → List α
  | j :: ks, y :: ys => (if j = k then x else y) :: putAll k x ks ys
  | _, _ => []
def hasK (ks : List Key) (k : Key) : Bool := ks.any fun j => decide (j = k)
def putKs (ks : List Key) (k : Key) : List Key := if hasK ks k then ks else ks ++ [k]
def putXs (ks : List Key) (xs : List α) (k : Key) (x : α) : List α := if hasK ks k then putAll k x ks xs else xs ++ [x]
theorem look_zip {F : α → V → Prop} : ∀ {ks : List Key} {xs : List α} {vs : List V} (k : Key), Paired F xs vs → match look ks xs k, valV (ks.zip vs) k with | some x, some v => F x v | none, none => True | _, _ => False
  | [], xs, vs, k, p => by cases xs <;> simp [look, valV]
  | j :: ks, _, _, k, .nil => by simp [look, valV]
  | j :: ks, x :: xs, v :: vs, k, .cons h t => by
    by_cases e : j = k
    · subst e
      rw [List.zip_cons_cons, valV_pos rfl]
      simp only [look, if_true]
      exact h
    · have ih := look_zip (ks := ks) k t
      rw [List.zip_cons_cons, valV_neg (show ¬ (j, v).1 = k from e)]
      simp only [look, if_neg e]
      exact ih
theorem has_zip : ∀ {ks : List Key} {vs : List V} (k : Key), ks.length = vs.length → ((ks.zip vs).any fun kv => decide (kv.1 = k)) = hasK ks k
  | [], vs, k, _ => by simp [hasK]
  | j :: ks, [], k, h => by simp at h
  | j :: ks, v :: vs, k, h => by
    rw [List.zip_cons_cons]
    unfold hasK
    rw [List.any_cons, List.any_cons, has_zip (ks := ks) k (by simpa using h)]
    rfl
theorem putAll_zip {k : Key} {v : V} : ∀ {ks : List Key} {vs : List V}, ks.length = vs.length → ((ks.zip vs).map fun kv => if kv.1 = k then (kv.1, v) else kv) = ks.zip (putAll k v ks vs)
  | [], vs, _ => by simp
  | j :: ks, [], h => by simp at h
  | j :: ks, u :: vs, h => by
    rw [List.zip_cons_cons, List.map_cons, putAll_zip (by simpa using h)]
    simp only [putAll, List.zip_cons_cons]
    by_cases e : j = k
    · simp [e]
    · simp [e]
theorem putAll_len {k : Key} {v : α} : ∀ {ks : List Key} {vs : List α}, ks.length = vs.length → (putAll k v ks vs).length = ks.length
  | [], vs, _ => by simp [putAll]
  | j :: ks, [], h => by simp at h
  | j :: ks, u :: vs, h => by simp [putAll, putAll_len (ks := ks) (vs := vs) (by simpa using h)]
theorem putAll_pair {F : α → V → Prop} {k : Key} {x : α} {v : V} (f : F x v) : ∀ {ks : List Key} {xs : List α} {vs : List V}, Paired F xs vs → Paired F (putAll k x ks xs) (putAll k v ks vs)
  | [], _, _, _ => by simp [putAll]; exact .nil
  | j :: ks, _, _, .nil => by simp [putAll]; exact .nil
  | j :: ks, y :: xs, u :: vs, .cons h t => by
    simp only [putAll]
    by_cases e : j = k
    · rw [if_pos e, if_pos e]; exact .cons f (putAll_pair f t)
    · rw [if_neg e, if_neg e]; exact .cons h (putAll_pair f t)
theorem putK_zip {ks : List Key} {vs : List V} {k : Key} {v : V} (h : ks.length = vs.length) : putK (ks.zip vs) k v = (putKs ks k).zip (putXs ks vs k v) := by
  unfold putK putKs putXs
  rw [has_zip k h]
  by_cases e : hasK ks k = true
  · rw [if_pos e, if_pos e, if_pos e, putAll_zip h]
  · rw [if_neg e, if_neg e, if_neg e, List.zip_append h]
    rfl
theorem putX_len {ks : List Key} {xs : List α} {k : Key} {x : α} (h : ks.length = xs.length) : (putKs ks k).length = (putXs ks xs k x).length := by
  unfold putKs putXs
  by_cases e : hasK ks k = true
  · rw [if_pos e, if_pos e, putAll_len h]
  · rw [if_neg e, if_neg e]; simp [h]
theorem putX_pair {F : α → V → Prop} {k : Key} {x : α} {v : V} (f : F x v) {ks : List Key} {xs : List α} {vs : List V} (p : Paired F xs vs) : Paired F (putXs ks xs k x) (putXs ks vs k v) := by
  unfold putXs
  by_cases e : hasK ks k = true
  · rw [if_pos e, if_pos e]; exact putAll_pair f p
  · rw [if_neg e, if_neg e]; exact papp p (.cons f .nil)
end
def keyT : T → Option Key
  | .int i => some (.inl i)
  | .str s => some (.inr s)
  | _ => none
theorem key_den {K : PySem.W.Frag} {S : Hp} {t : T} {k : Key} {v : V} (h : keyT t = some k) (d : Den K S t v) : v = kV k := by
  cases t with
  | int i => cases h; unfold Den at d; exact d
  | str i => cases h; unfold Den at d; exact d
  | _ => cases h
def G.dct? (g : G) (w : W) : Option (List Key × List T) := match g.cell? w with | some (.dt ks ts) => some (ks, ts) | _ => none
section
variable {X : Cx} {a b e : Expr} {τa τb : TE} {ta tb : Dt} {pos : Pos} {es : List Expr} {τs : TA} {ts : DAt}
theorem Rep.viewD {K : PySem.W.Frag} {al : List Addr} {S F H : Hp} {σ : L2.St} {g : G} (R : Rep K al S F H σ g) {w : W} {v : V} {ks : List Key} {ts : List T} (d : DenW K al S w v) (e : g.dct? w = some (ks, ts)) : ∃ a vs, v = .ref a ∧ H a = some (.dK (ks.zip vs)) ∧ ks.length = ts.length ∧ Paired (Den K S) ts vs := by
  unfold G.dct? at e
  split at e
  · rename_i ks' ts' q
    cases e
    obtain ⟨a, o, h1, h2, vs, rfl, h3, h4⟩ := R.view d q
    exact ⟨a, vs, h1, h2, h3, h4⟩
  · cases e
/-- k in d -/
def fDin (neg : Bool) : F2 := fun g y x Q => match y with
  | .t t => (match keyT t with
    | some k => (match g.dct? x with
      | some (ks, ts) => Q (.t (.bl (if neg then !(look ks ts k).isSome else (look ks ts k).isSome))) g
      | none => False)
    | none => False)
  | _ => False
/-- {} as a cell of trees -/
def dNewD : Dt := fun g Q => Q (.h g.mem.length) (g.push (.dt [] []))
/-! methods of built-in types -/
abbrev FM := G → W → List W → (W → G → Prop) → Prop
def OpM (K : PySem.W.Frag) (r : V → List V → Hp → VK → Prop) (f : FM) : Prop := ∀ (al : List Addr) (S F H : Hp) (σ : L2.St) (g : G) (x : V) (xs : List V) (wx : W) (ws : List W) (Q : W → G → Prop) (QV : VK), Rep K al S F H σ g → DenW K al S wx x → Paired (DenW K al S) ws xs → f g wx ws Q → Ct K al S F σ Q QV → r x xs H QV
def isL (g : G) (w : W) : Prop := match g.lq? w, g.wseq? w with | some _, _ => True | _, some _ => True | _, _ => False
theorem tyL {K : PySem.W.Frag} {al : List Addr} {S F H : Hp} {σ : L2.St} {g : G} (R : Rep K al S F H σ g) {w : W} {v : V} (d : DenW K al S w v) (h : isL g w) : tyV K "list" v H := by
  unfold isL at h
  split at h
  · rename_i ts e
    obtain ⟨a, vs, rfl, h1, _⟩ := R.viewQ d e
    exact .inl ⟨rfl, _, h1⟩
  · rename_i ts e _h0
    obtain ⟨a, vs, rfl, h1, _⟩ := R.viewW d e
    exact .inl ⟨rfl, _, .inl (.inl h1)⟩
  · exact h.elim
def dM0 (f : FM) (to : Dt) : Dt := fun g Q => to g fun x g1 => isL g1 x ∧ f g1 x [] Q
def dM (f : FM) (to : Dt) (t : DAt) : Dt := fun g Q => to g fun x g1 => isL g1 x ∧ t g1 fun ws g2 => f g2 x ws Q
variable {o : Expr} {τo : TE} {to : Dt} {name : Str} {apos cpos : Pos} {id : String} {r : V → List V → Hp → VK → Prop} {f : FM}
theorem de_m0 (slot : Slot "list" name id) (hty : typeOf (.builtin id) = pure (.type "method_descriptor")) (hm : MtR X id r) (h : OpM X.K r f) (ho : DE X o τo to)
    (hbase : attributeBase o name X.env (eval o X.env) = eval o X.env := by rfl) (hline : (apos.endLine == cpos.line) = true := by rfl) : DE X (.Call (.Attribute o name apos) [] [] cpos) (tBM0 X.K "list" r τo) (dM0 f to) := by
  refine ⟨pe_bm0 PySem.F.plainAttrs_list slot hty hm ho.pe hbase hline, fun al S F H σ g Q QV R q k => ?_⟩
  refine ho.r al S F H σ g _ _ R q fun al1 S1 H1 g1 v1 w1 R1 gr1 e1 q1 => ⟨tyL R1 e1 q1.1, ?_⟩
  exact h al1 S1 F H1 σ g1 v1 [] w1 [] Q QV R1 e1 .nil q1.2 (k.grow gr1)
theorem de_m (slot : Slot "list" name id) (hty : typeOf (.builtin id) = pure (.type "method_descriptor")) (hm : MtR X id r) (h : OpM X.K r f) (ho : DE X o τo to) (ha : DA X (e :: es) τs ts)
    (hbase : attributeBase o name X.env (eval o X.env) = eval o X.env := by rfl)
    (hfew : ((backTo cpos (starEach (e :: es) X.env)).all (fun x => !x.1) && (backToKw cpos (keywordEach [] X.env)).all (fun x => x.1.isSome)
      && decide ((e :: es).length + ([] : List Keyword).length + (if ([] : List Keyword).isEmpty then 0 else 1) < 30)) = true := by rfl)
    (hline : (apos.endLine == cpos.line) = true := by rfl) (hs : starEach (e :: es) X.env = (false, eval e X.env) :: starEach es X.env := by rfl) (hplain : (backTo cpos (starEach es X.env)).any (·.1) = false := by rfl) :
    DE X (.Call (.Attribute o name apos) (e :: es) [] cpos) (tBM X.K "list" r τo τs) (dM f to ts) := by
  refine ⟨pe_bm PySem.F.plainAttrs_list slot hty hm ho.pe ha.pe hbase hfew hline hs hplain, fun al S F H σ g Q QV R q k => ?_⟩
  refine ho.r al S F H σ g _ _ R q fun al1 S1 H1 g1 v1 w1 R1 gr1 e1 q1 => ⟨tyL R1 e1 q1.1, ?_⟩
  refine ha.r al1 S1 F H1 σ g1 _ _ R1 q1.2 fun al2 S2 H2 g2 vs2 ws2 R2 gr2 e2 q2 => ?_
  exact h al2 S2 F H2 σ g2 v1 vs2 w1 ws2 Q QV R2 (e1.grow gr2) e2 q2 (k.grow (gr1.trans gr2))
/-- a list's cell at a handle -/
theorem Rep.cellH {K : PySem.W.Frag} {al : List Addr} {S F H : Hp} {σ : L2.St} {g : G} (R : Rep K al S F H σ g) {n : Nat} {v : V} {c : Cell} (d : DenW K al S (.h n) v) (e : g.mem[n]? = some (some c)) : ∃ a o, v = .ref a ∧ al[n]? = some a ∧ H a = some o ∧ CellOk K al S c o := by
  obtain ⟨a, ea, rfl⟩ := d
  obtain ⟨a', o, h1, h2, h3, h4, h5⟩ := R.cell n c e
  rw [ea] at h1; cases h1
  exact ⟨a, o, rfl, ea, h4, h5⟩
theorem Rep.putC {K : PySem.W.Frag} {al : List Addr} {S F H : Hp} {σ : L2.St} {g : G} (R : Rep K al S F H σ g) {n : Nat} {c0 c : Cell} {a : Addr} {o : HO} (e : g.mem[n]? = some (some c0)) (ea : al[n]? = some a) (ok : CellOk K al S c o) : Rep K al S F (upd H a o) σ (g.put n c) :=
  R.withM (Grow.refl _ _) (R.toRepM.put e ea ok)
def fAppend : FM := fun g x ws Q => match x, ws with
  | .h n, [w] => (match g.mem[n]? with
    | some (some (.lt ts)) => (match w with | .t t => ts.length < sizeLine ∧ Q (.t .non) (g.put n (.lt (ts ++ [t]))) | _ => False)
    | some (some (.lw us)) => us.length < sizeLine ∧ Q (.t .non) (g.put n (.lw (us ++ [w])))
    | _ => False)
  | _, _ => False
theorem opM_append {K : PySem.W.Frag} : OpM K rAppend fAppend := by
  intro al S F H σ g x xs wx ws Q QV R d ds q k
  unfold fAppend at q
  split at q
  · rename_i n w
    obtain ⟨v, rfl, dw⟩ := p1 ds
    split at q
    · rename_i ts e
      split at q
      · rename_i t
        obtain ⟨a, o, rfl, ea, h1, vs, rfl, h2⟩ := R.cellH d e
        refine ⟨a, vs, v, rfl, rfl, h1, by rw [← h2.length]; exact q.1, ?_⟩
        have R2 := R.putC (c := .lt (ts ++ [t])) (o := .lst (vs ++ [v])) e ea ⟨_, rfl, papp h2 (.cons dw .nil)⟩
        exact k _ _ _ _ _ (.t .non) R2 (Grow.refl _ _) (by unfold DenW Den; rfl) q.2
      · exact q.elim
    · rename_i ts e
      obtain ⟨a, o, rfl, ea, h1, vs, rfl, h2⟩ := R.cellH d e
      refine ⟨a, vs, v, rfl, rfl, h1, by rw [← h2.length]; exact q.1, ?_⟩
      have R2 := R.putC (c := .lw (ts ++ [w])) (o := .lst (vs ++ [v])) e ea ⟨_, rfl, papp h2 (.cons dw .nil)⟩
      exact k _ _ _ _ _ (.t .non) R2 (Grow.refl _ _) (by unfold DenW Den; rfl) q.2
    · exact q.elim
  · exact q.elim
theorem de_append (ho : DE X o τo to) (ha : DA X (e :: es) τs ts)
    (hbase : attributeBase o "append" X.env (eval o X.env) = eval o X.env := by rfl)
    (hfew : ((backTo cpos (starEach (e :: es) X.env)).all (fun x => !x.1) && (backToKw cpos (keywordEach [] X.env)).all (fun x => x.1.isSome)
      && decide ((e :: es).length + ([] : List Keyword).length + (if ([] : List Keyword).isEmpty then 0 else 1) < 30)) = true := by rfl)
    (hline : (apos.endLine == cpos.line) = true := by rfl) (hs : starEach (e :: es) X.env = (false, eval e X.env) :: starEach es X.env := by rfl) (hplain : (backTo cpos (starEach es X.env)).any (·.1) = false := by rfl) :
    DE X (.Call (.Attribute o "append" apos) (e :: es) [] cpos) (tBM X.K "list" rAppend τo τs) (dM fAppend to ts) := de_m PySem.F.slot_list_append PySem.F.type_list_append mt_append opM_append ho ha hbase hfew hline hs hplain
/-- xs.pop() -/
def fPop : FM := fun g x ws Q => match x, ws with
  | .h n, [] => (match g.mem[n]? with
    | some (some (.lt ts)) => ∃ t, ts[ts.length - 1]? = some t ∧ Q (.t t) (g.put n (.lt ts.dropLast))
    | some (some (.lw us)) => ∃ u, us[us.length - 1]? = some u ∧ Q u (g.put n (.lw us.dropLast))
    | _ => False)
  | _, _ => False
theorem pdl {α β : Type} {F : α → β → Prop} {xs : List α} {ys : List β} (h : Paired F xs ys) : Paired F xs.dropLast ys.dropLast := by
  rw [List.dropLast_eq_take, List.dropLast_eq_take, h.length]
  exact ptake _ h
theorem opM_pop {K : PySem.W.Frag} : OpM K rPop fPop := by
  intro al S F H σ g x xs wx ws Q QV R d ds q k
  unfold fPop at q
  split at q
  · rename_i n
    cases ds
    split at q
    · rename_i ts e
      obtain ⟨t, et, q⟩ := q
      obtain ⟨a, o, rfl, ea, h1, vs, rfl, h2⟩ := R.cellH d e
      obtain ⟨v, ev, dv⟩ := pget h2 et
      refine ⟨a, vs, v, rfl, rfl, h1, by rw [← h2.length]; exact ev, ?_⟩
      have R2 := R.putC (c := .lt ts.dropLast) (o := .lst vs.dropLast) e ea ⟨_, rfl, pdl h2⟩
      exact k _ _ _ _ _ (.t t) R2 (Grow.refl _ _) dv q
    · rename_i ts e
      obtain ⟨t, et, q⟩ := q
      obtain ⟨a, o, rfl, ea, h1, vs, rfl, h2⟩ := R.cellH d e
      obtain ⟨v, ev, dv⟩ := pget h2 et
      refine ⟨a, vs, v, rfl, rfl, h1, by rw [← h2.length]; exact ev, ?_⟩
      have R2 := R.putC (c := .lw ts.dropLast) (o := .lst vs.dropLast) e ea ⟨_, rfl, pdl h2⟩
      exact k _ _ _ _ _ t R2 (Grow.refl _ _) dv q
    · exact q.elim
  · exact q.elim
theorem de_pop (ho : DE X o τo to) (hbase : attributeBase o "pop" X.env (eval o X.env) = eval o X.env := by rfl) (hline : (apos.endLine == cpos.line) = true := by rfl) : DE X (.Call (.Attribute o "pop" apos) [] [] cpos) (tBM0 X.K "list" rPop τo) (dM0 fPop to) :=
  de_m0 PySem.F.slot_list_pop PySem.F.type_list_pop mt_pop opM_pop ho hbase hline
theorem den_ints {K : PySem.W.Frag} {S : Hp} : ∀ ns : List Int, Paired (Den K S) (ns.map T.int) (ns.map V.int)
  | [] => .nil
  | n :: ns => .cons (denI n) (den_ints ns)
end
end DL

namespace DL
open PySem PySem.Spec L2

section
variable {X : Cx} {a b c e : Expr} {τa τb : TE} {ta tb : Dt} {pos : Pos} {es rest : List Expr} {τs : TA} {ts : DAt} {τt τu : TT} {tt tu : DTt}
/-! tests -/
def dB (t : Dt) : DTt := fun g Q => t g fun w g' => match w with | .t (.bl b) => Q b g' | _ => False
theorem dt_val (h : DE X e τa ta) (he : ∀ whole, isTrue e X.env whole = (do let v ← whole; standAt e.pos; holding [v] (truthy v)) := by intro _; rfl) : DT X e (L2.tB τa) (dB ta) := by
  refine ⟨pt_val h.pe he, fun al S F H σ g Q QV R q k => ?_⟩
  refine h.r al S F H σ g _ _ R q fun al1 S1 H1 g1 v1 w1 R1 gr1 e1 q1 => ?_
  split at q1
  · rename_i bb
    unfold DenW Den at e1
    exact ⟨bb, e1, k _ _ _ _ _ R1 gr1 q1⟩
  · exact q1.elim
def dNot (t : DTt) : DTt := fun g Q => t g fun c g' => Q (!c) g'
theorem dt_not (h : DT X a τt tt) : DT X (.UnaryOp .Not a pos) (tNot τt) (dNot tt) :=
  ⟨pt_not h.pe, fun al S F H σ g Q QV R q k => h.r al S F H σ g _ _ R q fun al1 S1 H1 g1 b1 R1 gr1 q1 => k _ _ _ _ _ R1 gr1 q1⟩
theorem dt_w (h : DW X a τt tt) : DT X a τt tt := ⟨h.pe.pt, h.r⟩
theorem dw_and1 (h : DT X a τt tt) : DW X (.BoolOp .And [a] pos) τt tt := ⟨pw_and1 h.pe, h.r⟩
theorem dw_or1 (h : DT X a τt tt) : DW X (.BoolOp .Or [a] pos) τt tt := ⟨pw_or1 h.pe, h.r⟩
def dAnd (t u : DTt) : DTt := fun g Q => t g fun c g1 => if c = true then u g1 Q else Q false g1
def dOr (t u : DTt) : DTt := fun g Q => t g fun c g1 => if c = true then Q true g1 else u g1 Q
theorem dw_and (ha : DT X a τt tt) (hb : DW X (.BoolOp .And (b :: rest) pos) τu tu) : DW X (.BoolOp .And (a :: b :: rest) pos) (tAnd τt τu) (dAnd tt tu) := by
  refine ⟨pw_and ha.pe hb.pe, fun al S F H σ g Q QV R q k => ?_⟩
  refine ha.r al S F H σ g _ _ R q fun al1 S1 H1 g1 b1 R1 gr1 q1 => ?_
  cases b1 with
  | true =>
    simp only [if_true] at q1 ⊢
    exact hb.r al1 S1 F H1 σ g1 _ _ R1 q1 fun al2 S2 H2 g2 b2 R2 gr2 q2 => k _ _ _ _ _ R2 (gr1.trans gr2) q2
  | false =>
    simp only [Bool.false_eq_true, if_false] at q1 ⊢
    exact k _ _ _ _ _ R1 gr1 q1
theorem dw_or (ha : DT X a τt tt) (hb : DW X (.BoolOp .Or (b :: rest) pos) τu tu) : DW X (.BoolOp .Or (a :: b :: rest) pos) (tOr τt τu) (dOr tt tu) := by
  refine ⟨pw_or ha.pe hb.pe, fun al S F H σ g Q QV R q k => ?_⟩
  refine ha.r al S F H σ g _ _ R q fun al1 S1 H1 g1 b1 R1 gr1 q1 => ?_
  cases b1 with
  | true =>
    simp only [if_true] at q1 ⊢
    exact k _ _ _ _ _ R1 gr1 q1
  | false =>
    simp only [Bool.false_eq_true, if_false] at q1 ⊢
    exact hb.r al1 S1 F H1 σ g1 _ _ R1 q1 fun al2 S2 H2 g2 b2 R2 gr2 q2 => k _ _ _ _ _ R2 (gr1.trans gr2) q2
def dAndV (ta tb : Dt) : Dt := fun g Q => ta g fun w g1 => match w with | .t (.bl c) => if c = true then tb g1 Q else Q (.t (.bl false)) g1 | _ => False
def dOrV (ta tb : Dt) : Dt := fun g Q => ta g fun w g1 => match w with | .t (.bl c) => if c = true then Q (.t (.bl true)) g1 else tb g1 Q | _ => False
def dNotV (ta : Dt) : Dt := fun g Q => ta g fun w g1 => match w with | .t (.bl c) => Q (.t (.bl (!c))) g1 | _ => False
theorem de_one {op} (h : DE X a τa ta) : DE X (.BoolOp op [a] pos) τa ta := ⟨pe_one h.pe, h.r⟩
theorem de_and (ha : DE X a τa ta) (hb : DE X (.BoolOp .And (b :: rest) pos) τb tb) : DE X (.BoolOp .And (a :: b :: rest) pos) (tAndV τa τb) (dAndV ta tb) := by
  refine ⟨pe_and ha.pe hb.pe, fun al S F H σ g Q QV R q k => ?_⟩
  refine ha.r al S F H σ g _ _ R q fun al1 S1 H1 g1 v1 w1 R1 gr1 e1 q1 => ?_
  split at q1
  · rename_i c
    unfold DenW Den at e1
    refine ⟨c, e1, ?_⟩
    cases c with
    | true =>
      simp only [if_true] at q1 ⊢
      exact hb.r al1 S1 F H1 σ g1 _ _ R1 q1 (k.grow gr1)
    | false =>
      simp only [Bool.false_eq_true, if_false] at q1 ⊢
      exact k _ _ _ _ _ (.t (.bl false)) R1 gr1 (by unfold DenW Den; rfl) q1
  · exact q1.elim
theorem de_or (ha : DE X a τa ta) (hb : DE X (.BoolOp .Or (b :: rest) pos) τb tb) : DE X (.BoolOp .Or (a :: b :: rest) pos) (tOrV τa τb) (dOrV ta tb) := by
  refine ⟨pe_or ha.pe hb.pe, fun al S F H σ g Q QV R q k => ?_⟩
  refine ha.r al S F H σ g _ _ R q fun al1 S1 H1 g1 v1 w1 R1 gr1 e1 q1 => ?_
  split at q1
  · rename_i c
    unfold DenW Den at e1
    refine ⟨c, e1, ?_⟩
    cases c with
    | true =>
      simp only [if_true] at q1 ⊢
      exact k _ _ _ _ _ (.t (.bl true)) R1 gr1 (by unfold DenW Den; rfl) q1
    | false =>
      simp only [Bool.false_eq_true, if_false] at q1 ⊢
      exact hb.r al1 S1 F H1 σ g1 _ _ R1 q1 (k.grow gr1)
  · exact q1.elim
theorem de_not (ha : DE X a τa ta) : DE X (.UnaryOp .Not a pos) (tNotV τa) (dNotV ta) := by
  refine ⟨pe_not ha.pe, fun al S F H σ g Q QV R q k => ?_⟩
  refine ha.r al S F H σ g _ _ R q fun al1 S1 H1 g1 v1 w1 R1 gr1 e1 q1 => ?_
  split at q1
  · rename_i c
    unfold DenW Den at e1
    exact ⟨c, e1, k _ _ _ _ _ (.t (.bl _)) R1 gr1 (by unfold DenW Den; rfl) q1⟩
  · exact q1.elim
def dIf (t : DTt) (ta tb : Dt) : Dt := fun g Q => t g fun c g1 => if c = true then ta g1 Q else tb g1 Q
theorem de_ifExp (hc : DT X c τt tt) (ha : DE X a τa ta) (hb : DE X b τb tb) : DE X (.IfExp c a b pos) (tIf τt τa τb) (dIf tt ta tb) := by
  refine ⟨pe_ifExp hc.pe ha.pe hb.pe, fun al S F H σ g Q QV R q k => ?_⟩
  refine hc.r al S F H σ g _ _ R q fun al1 S1 H1 g1 b1 R1 gr1 q1 => ?_
  cases b1 with
  | true =>
    simp only [if_true] at q1 ⊢
    exact ha.r al1 S1 F H1 σ g1 _ _ R1 q1 (k.grow gr1)
  | false =>
    simp only [Bool.false_eq_true, if_false] at q1 ⊢
    exact hb.r al1 S1 F H1 σ g1 _ _ R1 q1 (k.grow gr1)

/-! calls of defs -/
end

/-! statements -/
structure De where
  nx : G → Prop
  rt : W → G → Prop
  bk : G → Prop
  ct : G → Prop
abbrev DSt := De → G → Prop
structure Lk (K : PySem.W.Frag) (al : List Addr) (S F : Hp) (D : De) (DV : Ends) : Prop where
  nx : ∀ al' S' H' σ' g', Rep K al' S' F H' σ' g' → Grow al S al' S' → D.nx g' → DV.nx σ' H'
  rt : ∀ al' S' H' σ' g' v w, Rep K al' S' F H' σ' g' → Grow al S al' S' → DenW K al' S' w v → D.rt w g' → DV.rt v H'
  bk : ∀ al' S' H' σ' g', Rep K al' S' F H' σ' g' → Grow al S al' S' → D.bk g' → DV.bk σ' H'
  ct : ∀ al' S' H' σ' g', Rep K al' S' F H' σ' g' → Grow al S al' S' → D.ct g' → DV.ct σ' H'
theorem Lk.grow {K : PySem.W.Frag} {al al1 : List Addr} {S S1 F : Hp} {D : De} {DV : Ends} (k : Lk K al S F D DV) (gr : Grow al S al1 S1) : Lk K al1 S1 F D DV :=
  ⟨fun a s h σ g R g2 q => k.nx a s h σ g R (gr.trans g2) q, fun a s h σ g v w R g2 d q => k.rt a s h σ g v w R (gr.trans g2) d q, fun a s h σ g R g2 q => k.bk a s h σ g R (gr.trans g2) q, fun a s h σ g R g2 q => k.ct a s h σ g R (gr.trans g2) q⟩
def DSr (K : PySem.W.Frag) (τ : TS) (t : DSt) : Prop := ∀ (al : List Addr) (S F H : Hp) (σ : L2.St) (g : G) (D : De) (DV : Ends), Rep K al S F H σ g → t D g → Lk K al S F D DV → τ DV σ H
structure DS (X : Cx) (st : Stmt) (τ : TS) (t : DSt) : Prop where
  pe : PS X st τ
  r : DSr X.K τ t
structure DSs (X : Cx) (st : List Stmt) (τ : TS) (t : DSt) : Prop where
  pe : PSs X st τ
  r : DSr X.K τ t
section
variable {X : Cx} {st : Stmt} {rest : List Stmt} {τ τ' : TS} {t u : DSt} {e : Expr} {τe : TE} {te : Dt} {pos : Pos}
def dNext : DSt := fun D g => D.nx g
theorem r_next {K : PySem.W.Frag} : DSr K tNext dNext := fun al S F H σ g D DV R q k => k.nx _ _ _ _ _ R (Grow.refl _ _) q
theorem dss_nil : DSs X [] tNext dNext := ⟨pss_nil, r_next⟩
def dSeq (t u : DSt) : DSt := fun D g => t { D with nx := u D } g
theorem dss_cons (h1 : DS X st τ t) (h2 : DSs X rest τ' u) : DSs X (st :: rest) (tSeq τ τ') (dSeq t u) := by
  refine ⟨pss_cons h1.pe h2.pe, fun al S F H σ g D DV R q k => ?_⟩
  refine h1.r al S F H σ g { D with nx := u D } { DV with nx := τ' DV } R q ⟨fun al1 S1 H1 σ1 g1 R1 gr1 q1 => ?_, k.rt, k.bk, k.ct⟩
  exact h2.r al1 S1 F H1 σ1 g1 D DV R1 q1 (k.grow gr1)
theorem dss_one (h : DS X st τ t) : DSs X [st] τ t := ⟨pss_one h.pe, h.r⟩
def dBreak : DSt := fun D g => D.bk g
def dCont : DSt := fun D g => D.ct g
def dNever : DSt := fun _ _ => False
theorem ds_never : DS X st tNever dNever := ⟨ps_never, fun al S F H σ g D DV R q k => q⟩
def dDrop (t : Dt) : DSt := fun D g => t g fun _ g1 => D.nx g1
theorem ds_expr (h : DE X e τe te) (hs : swapsWith e none pos.line X.env = pure false := by rfl) : DS X (.Expr e pos) (tDrop τe) (dDrop te) :=
  ⟨ps_expr h.pe hs, fun al S F H σ g D DV R q k => h.r al S F H σ g _ _ R q fun al1 S1 H1 g1 v1 w1 R1 gr1 e1 q1 => k.nx _ _ _ _ _ R1 gr1 q1⟩
def dRet (t : Dt) : DSt := fun D g => t g D.rt
theorem ds_ret (h : DE X e τe te) : DS X (.Return (some e) pos) (tRet τe) (dRet te) :=
  ⟨ps_ret h.pe, fun al S F H σ g D DV R q k => h.r al S F H σ g _ _ R q fun al1 S1 H1 g1 v1 w1 R1 gr1 e1 q1 => k.rt _ _ _ _ _ _ _ R1 gr1 e1 q1⟩
def dRetN : DSt := fun D g => D.rt (.t .non) g
def dIfS (c : DTt) (t u : DSt) : DSt := fun D g => c g fun b g1 => if b = true then t D g1 else u D g1
theorem ds_if {c : Expr} {A B : List Stmt} {τc : TT} {tc : DTt} (hc : DT X c τc tc) (ha : DSs X A τ t) (hb : DSs X B τ' u) : DS X (.If c A B pos) (tIfS τc τ τ') (dIfS tc t u) := by
  refine ⟨ps_if hc.pe ha.pe hb.pe, fun al S F H σ g D DV R q k => ?_⟩
  refine hc.r al S F H σ g _ _ R q fun al1 S1 H1 g1 b1 R1 gr1 q1 => ?_
  cases b1 with
  | true =>
    simp only [if_true] at q1 ⊢
    exact ha.r al1 S1 F H1 σ g1 _ _ R1 q1 (k.grow gr1)
  | false =>
    simp only [Bool.false_eq_true, if_false] at q1 ⊢
    exact hb.r al1 S1 F H1 σ g1 _ _ R1 q1 (k.grow gr1)
/-! targets -/
abbrev DGt := W → G → (G → Prop) → Prop
def DGr (K : PySem.W.Frag) (τ : TG) (t : DGt) : Prop := ∀ (al : List Addr) (S F H : Hp) (σ : L2.St) (g : G) (v : V) (w : W) (Q : G → Prop) (QV : L2.St → Hp → Prop), Rep K al S F H σ g → DenW K al S w v → t w g Q →
  (∀ al' S' H' σ' g', Rep K al' S' F H' σ' g' → Grow al S al' S' → Q g' → QV σ' H') → τ v σ H QV
structure DG (X : Cx) (tg : Expr) (τ : TG) (t : DGt) : Prop where
  pe : PG X tg τ
  r : DGr X.K τ t
abbrev DGst := List T → G → (G → Prop) → Prop
structure DGs (X : Cx) (tg : List Expr) (τ : TGs) (t : DGst) : Prop where
  pe : PGs X tg τ
  r : ∀ (al : List Addr) (S F H : Hp) (σ : L2.St) (g : G) (vs : List V) (ws : List T) (Q : G → Prop) (QV : L2.St → Hp → Prop), Rep X.K al S F H σ g → Paired (Den X.K S) ws vs → t ws g Q →
    (∀ al' S' H' σ' g', Rep X.K al' S' F H' σ' g' → Grow al S al' S' → Q g' → QV σ' H') → τ vs σ H QV
def dgN (i : Nat) : DGt := fun w g Q => Q (g.set i w)
theorem dg_name (i : Nat) {x : Str} {ps : Pos} (hN : X.N.Nodup) (hi : X.N[i]? = some x := by rfl) (hx : Loc X.env.scope x := by first | exact Or.inl rfl | exact Or.inr rfl) (hf : X.fn x = true ∨ X.env.scope.names.lookup x = some .local := by first | exact .inl rfl | exact .inr rfl | assumption) : DG X (.Name x ps) (gName i) (dgN i) :=
  ⟨pg_name hN hi hx hf, fun al S F H σ g v w Q QV R d q k => k _ _ _ _ _ (R.setSlot d) (Grow.refl _ _) q⟩
def dgNil : DGst := fun ws g Q => match ws with | [] => Q g | _ => False
def dgCons (t : DGt) (u : DGst) : DGst := fun ws g Q => match ws with | w :: r => t (.t w) g fun g1 => u r g1 Q | _ => False
theorem dgs_nil : DGs X [] gNil dgNil := by
  refine ⟨pgs_nil, fun al S F H σ g vs ws Q QV R d q k => ?_⟩
  cases d with
  | nil => exact ⟨rfl, k _ _ _ _ _ R (Grow.refl _ _) q⟩
  | cons _ _ => exact q.elim
theorem dgs_cons {e : Expr} {es : List Expr} {τ1 : TG} {t1 : DGt} {τ2 : TGs} {t2 : DGst} (h1 : DG X e τ1 t1) (h2 : DGs X es τ2 t2)
    (hs : (assignEach (e :: es) X.env).map (·.2) = assign e X.env :: (assignEach es X.env).map (·.2) := by rfl) : DGs X (e :: es) (gCons τ1 τ2) (dgCons t1 t2) := by
  refine ⟨pgs_cons h1.pe h2.pe hs, fun al S F H σ g vs ws Q QV R d q k => ?_⟩
  cases d with
  | nil => exact q.elim
  | cons d1 d2 =>
    refine ⟨_, _, rfl, ?_⟩
    refine h1.r al S F H σ g _ (.t _) _ _ R d1 q fun al1 S1 H1 σ1 g1 R1 gr1 q1 => ?_
    exact h2.r al1 S1 F H1 σ1 g1 _ _ Q QV R1 (Denp.grow gr1.s d2) q1 fun al2 S2 H2 σ2 g2 R2 gr2 q2 => k _ _ _ _ _ R2 (gr1.trans gr2) q2
def dgTup (n : Nat) (t : DGst) : DGt := fun w g Q => match w with | .t (.tup ts) => ts.length = n ∧ t ts g Q | _ => False
theorem dg_tup {es : List Expr} {kk : Nat} {ps : Pos} {τ1 : TGs} {t1 : DGst} {n : Nat} (hc : X.calm = true) (h : DGs X es τ1 t1)
    (hn : (assignEach es X.env).length = n := by rfl) (hst : (assignEach es X.env).findIdx? (·.1) = none := by rfl) : DG X (.Tuple es kk ps) (gTup X.K n τ1) (dgTup n t1) := by
  refine ⟨pg_tup hc h.pe hn hst, fun al S F H σ g v w Q QV R d q k => ?_⟩
  unfold dgTup at q
  split at q
  · rename_i ts
    unfold DenW Den at d
    obtain ⟨p, vs, rfl, h1, h2⟩ := d
    have h2' := Dens.iff.mp h2
    exact ⟨p, vs, rfl, seqT R.same h1, by rw [← h2'.length]; exact q.1, h.r al S F H σ g vs ts Q QV R h2' q.2 k⟩
  · exact q.elim
/-- x[i] = v, x a list's cell -/
def dgSub (to ti : Dt) : DGt := fun w g Q => to g fun o g1 => ti g1 fun i g2 => match o, i with
  | .h n, .t (.int z) => (match g2.mem[n]? with
    | some (some (.lt ts)) => (match w with | .t tw => ∃ j, ixN ts.length z = some j ∧ Q (g2.put n (.lt (ts.set j tw))) | _ => False)
    | some (some (.lw us)) => ∃ j, ixN us.length z = some j ∧ Q (g2.put n (.lw (us.set j w)))
    | _ => False)
  | _, _ => False
theorem dg_sub {o i : Expr} {τo τi : TE} {to ti : Dt} {ps : Pos} (ho : DE X o τo to) (hi : DE X i τi ti)
    (ha : ∀ v, assign (.Subscript o i ps) X.env v = (do
      let ov ← holding [v] (eval o X.env)
      let iv ← holding [v, ov] (eval i X.env)
      standAt ps
      holding [v, ov, iv] (setItem ov iv v)
      release [v, ov, iv] []) := by intro _; rfl) : DG X (.Subscript o i ps) (gSub τo τi rSetL) (dgSub to ti) := by
  refine ⟨pg_sub ho.pe hi.pe set_list ha, fun al S F H σ g v w Q QV R d q k => ?_⟩
  refine ho.r al S F H σ g _ _ R q fun al1 S1 H1 g1 v1 w1 R1 gr1 e1 q1 => ?_
  refine hi.r al1 S1 F H1 σ g1 _ _ R1 q1 fun al2 S2 H2 g2 v2 w2 R2 gr2 e2 q2 => ?_
  have gr := gr1.trans gr2
  split at q2
  · rename_i n z
    unfold DenW Den at e2
    subst e2
    split at q2
    · rename_i ts em
      split at q2
      · rename_i tw
        obtain ⟨j, hj, q2⟩ := q2
        obtain ⟨p, o, rfl, ea, h1, vs, rfl, h2⟩ := R2.cellH (e1.grow gr2) em
        refine ⟨p, vs, z, j, rfl, rfl, h1, by rw [← h2.length]; exact hj, ?_⟩
        have dt : Den X.K S2 tw v := d.grow gr
        exact k _ _ _ _ _ (R2.putC (c := .lt (ts.set j tw)) (o := .lst (vs.set j v)) em ea ⟨_, rfl, pset dt j h2⟩) gr q2
      · exact q2.elim
    · rename_i us em
      obtain ⟨j, hj, q2⟩ := q2
      obtain ⟨p, o, rfl, ea, h1, vs, rfl, h2⟩ := R2.cellH (e1.grow gr2) em
      refine ⟨p, vs, z, j, rfl, rfl, h1, by rw [← h2.length]; exact hj, ?_⟩
      exact k _ _ _ _ _ (R2.putC (c := .lw (us.set j w)) (o := .lst (vs.set j v)) em ea ⟨_, rfl, pset (d.grow gr) j h2⟩) gr q2
    · exact q2.elim
  · exact q2.elim
def dAsg (te : Dt) (t : DGt) : DSt := fun D g => te g fun w g1 => t w g1 D.nx
theorem ds_asg {tg : Expr} {τg : TG} {tg' : DGt} (he : DE X e τe te) (hg : DG X tg τg tg') (hs : swapsWithSole [tg] e pos.line X.env = pure false := by rfl) (hw : swappedStores [tg] e X.env = pure none := by rfl)
    (h1 : (assignEach [tg] X.env).map (·.2) = [assign tg X.env] := by rfl) : DS X (.Assign [tg] e pos) (tAsg τe τg) (dAsg te tg') := by
  refine ⟨ps_asg he.pe hg.pe hs hw h1, fun al S F H σ g D DV R q k => ?_⟩
  refine he.r al S F H σ g _ _ R q fun al1 S1 H1 g1 v1 w1 R1 gr1 e1 q1 => ?_
  exact hg.r al1 S1 F H1 σ g1 v1 w1 _ _ R1 e1 q1 fun al2 S2 H2 σ2 g2 R2 gr2 q2 => k.nx _ _ _ _ _ R2 (gr1.trans gr2) q2
theorem ds_set (i : Nat) {x : Str} {ps : Pos} (hN : X.N.Nodup) (he : DE X e τe te) (hi : X.N[i]? = some x := by rfl) (hx : Loc X.env.scope x := by first | exact Or.inl rfl | exact Or.inr rfl) (hs : swapsWith e (some (.Name x ps)) pos.line X.env = pure false := by rfl) (hf : X.fn x = true ∨ X.env.scope.names.lookup x = some .local := by first | exact .inl rfl | exact .inr rfl | assumption) :
    DS X (.Assign [.Name x ps] e pos) (tAsg τe (gName i)) (dAsg te (dgN i)) := by
  refine ⟨ps_set hN hi hx he.pe hs hf, fun al S F H σ g D DV R q k => ?_⟩
  refine he.r al S F H σ g _ _ R q fun al1 S1 H1 g1 v1 w1 R1 gr1 e1 q1 => ?_
  exact k.nx _ _ _ _ _ (R1.setSlot e1) gr1 q1
/-- x += e, x -= e: ints -/
def dAug (i : Nat) (f : Int → Int → Int) (te : Dt) : DSt := fun D g => match g.sl[i]? with
  | some (some (.t (.int a))) => te g fun w g1 => (match w with | .t (.int b) => D.nx (g1.set i (.t (.int (f a b)))) | _ => False)
  | _ => False
/-- d[k] = v, d a dict's cell -/
def dDput (td ty tv : Dt) : DSt := fun D g => tv g fun w g1 => td g1 fun o g2 => ty g2 fun y g3 => match o, y with
  | .h n, .t ky => (match keyT ky with
    | some k => (match g3.mem[n]? with
      | some (some (.dt ks ts)) => (match w with | .t tw => ks.length < sizeLine ∧ D.nx (g3.put n (.dt (putKs ks k) (putXs ks ts k tw))) | _ => False)
      | some (some (.dw ks us)) => ks.length < sizeLine ∧ D.nx (g3.put n (.dw (putKs ks k) (putXs ks us k w)))
      | _ => False)
    | none => False)
  | _, _ => False
theorem ds_dput {o i : Expr} {τd τy : TE} {td ty : Dt} {ps : Pos} {kk : Nat} (hr : Room kk X.A) (ho : DE X o τd td) (hi : DE X i τy ty) (hv : DE X e τe te) (hs : swapsWith e (some (.Subscript o i ps)) pos.line X.env = pure false := by rfl) :
    DS X (.Assign [.Subscript o i ps] e pos) (sDPut τd τy τe) (dDput td ty te) := by
  refine ⟨ps_dput (hu_of hr) ho.pe hi.pe hv.pe hs, fun al S F H σ g D DV R q k => ?_⟩
  refine hv.r al S F H σ g _ _ R q fun al1 S1 H1 g1 v1 w1 R1 gr1 e1 q1 => ?_
  refine ho.r al1 S1 F H1 σ g1 _ _ R1 q1 fun al2 S2 H2 g2 v2 w2 R2 gr2 e2 q2 => ?_
  refine hi.r al2 S2 F H2 σ g2 _ _ R2 q2 fun al3 S3 H3 g3 v3 w3 R3 gr3 e3 q3 => ?_
  have gr := gr1.trans (gr2.trans gr3)
  split at q3
  · rename_i n ky
    split at q3
    · rename_i key ek
      have ev := key_den ek e3
      subst ev
      split at q3
      · rename_i ks ts em
        split at q3
        · rename_i tw
          obtain ⟨p, o, rfl, ea, h1, vs, rfl, h2, h3⟩ := R3.cellH (e2.grow gr3) em
          have hl : ks.length = vs.length := by rw [h2, h3.length]
          have dt : Den X.K S3 tw v1 := e1.grow (gr2.trans gr3)
          have hz : (ks.zip vs).length < sizeLine := by rw [List.length_zip, ← hl, Nat.min_self]; exact q3.1
          refine ⟨p, _, rfl, DPut.k h1 hz, ?_⟩
          rw [putK_zip hl]
          refine k.nx _ _ _ _ _ (R3.putC (c := .dt (putKs ks key) (putXs ks ts key tw)) em ea ⟨_, rfl, putX_len h2, putX_pair dt h3⟩) gr q3.2
        · exact q3.elim
      · rename_i ks ts em
        obtain ⟨p, o, rfl, ea, h1, vs, rfl, h2, h3⟩ := R3.cellH (e2.grow gr3) em
        have hl : ks.length = vs.length := by rw [h2, h3.length]
        have dt := e1.grow (gr2.trans gr3)
        have hz : (ks.zip vs).length < sizeLine := by rw [List.length_zip, ← hl, Nat.min_self]; exact q3.1
        refine ⟨p, _, rfl, DPut.k h1 hz, ?_⟩
        rw [putK_zip hl]
        refine k.nx _ _ _ _ _ (R3.putC (c := .dw (putKs ks key) (putXs ks ts key w1)) em ea ⟨_, rfl, putX_len h2, putX_pair dt h3⟩) gr q3.2
      · exact q3.elim
    · exact q3.elim
  · exact q3.elim
/-! while -/
def dWhile (c : DTt) (tb : DSt) : DSt := fun D g => ∃ I : Nat → G → Prop, (∃ m, I m g) ∧ ∀ m g', I m g' → c g' fun b g1 => if b = true then tb { D with nx := fun g2 => ∃ m', m' < m ∧ I m' g2, ct := fun g2 => ∃ m', m' < m ∧ I m' g2, bk := D.nx } g1 else D.nx g1
theorem ds_while {c : Expr} {body : List Stmt} {τc : TT} {tc : DTt} (hc : DT X c τc tc) (hb : DSs X body τ t) (hp : PassesOwn (model X.prog X.w) X.A X.env X.xe := by exact PassesOwn.never) : DS X (.While c body [] pos) (tWhile τc τ) (dWhile tc t) := by
  refine ⟨ps_while hp hc.pe hb.pe, fun al S F H σ g D DV R q k => ?_⟩
  obtain ⟨I, ⟨m0, i0⟩, turn⟩ := q
  refine ⟨fun m σ' H' => ∃ al' S' g', Rep X.K al' S' F H' σ' g' ∧ Grow al S al' S' ∧ I m g', ⟨m0, al, S, g, R, Grow.refl _ _, i0⟩, ?_⟩
  rintro m σ1 H1 ⟨al1, S1, g1, R1, gr1, i1⟩
  refine hc.r al1 S1 F H1 σ1 g1 _ _ R1 (turn m g1 i1) fun al2 S2 H2 g2 b2 R2 gr2 q2 => ?_
  have gr := gr1.trans gr2
  cases b2 with
  | true =>
    simp only [if_true] at q2 ⊢
    refine ⟨fun σ' H' => ∃ m' al' S' g', m' < m ∧ Rep X.K al' S' F H' σ' g' ∧ Grow al S al' S' ∧ I m' g', fun σ' H' ⟨m', al', S', g', hm, R', gr', i'⟩ => ⟨m', hm, al', S', g', R', gr', i'⟩, ?_⟩
    refine hb.r al2 S2 F H2 σ1 g2 _ _ R2 q2 ⟨fun al' S' H' σ' g' R' gr' ⟨m', hm, i'⟩ => ⟨m', al', S', g', hm, R', gr.trans gr', i'⟩, fun al' S' H' σ' g' v w R' gr' d' q' => k.rt _ _ _ _ _ _ _ R' (gr.trans gr') d' q', fun al' S' H' σ' g' R' gr' q' => k.nx _ _ _ _ _ R' (gr.trans gr') q', fun al' S' H' σ' g' R' gr' ⟨m', hm, i'⟩ => ⟨m', al', S', g', hm, R', gr.trans gr', i'⟩⟩
  | false =>
    simp only [Bool.false_eq_true, if_false] at q2 ⊢
    exact k.nx _ _ _ _ _ R2 gr q2
/-! what is walked -/
def IterOk (K : PySem.W.Frag) (J : It) (ws : List W) (St : G → Prop) (al : List Addr) (S : Hp) : Prop := ∀ (al' : List Addr) (S' F' H' : Hp) (σ' : L2.St) (g' : G) (i : Nat), Rep K al' S' F' H' σ' g' → Grow al S al' S' → St g' →
  (∀ w, ws[i]? = some w → J.go i H' ∧ ∀ x H'', J.yld i H' x H'' → ∃ al'' S'', Rep K al'' S'' F' H'' σ' g' ∧ Grow al' S' al'' S'' ∧ DenW K al'' S'' w x) ∧ (ws.length ≤ i → J.stop i H')
abbrev DIt := G → (List W → (G → Prop) → G → Prop) → Prop
structure DI (X : Cx) (tg iter : Expr) (wi : TI) (t : DIt) : Prop where
  pe : PI X tg iter wi
  r : ∀ (al : List Addr) (S F H : Hp) (σ : L2.St) (g : G) (Q : List W → (G → Prop) → G → Prop) (QV : It → Hp → Prop), Rep X.K al S F H σ g → t g Q →
    (∀ al' S' H' g' J ws St, Rep X.K al' S' F H' σ g' → Grow al S al' S' → IterOk X.K J ws St al' S' → Q ws St g' → QV J H') → wi σ H QV
def diL (t : Dt) : DIt := fun g Q => t g fun w g1 => match g1.lq? w with
  | some ts => Q (ts.map W.t) (fun g' => g'.lq? w = some ts) g1
  | none => (match g1.wseq? w with | some ws => Q ws (fun g' => g'.wseq? w = some ws) g1 | none => False)
variable {tg iter : Expr}
theorem di_list (h : DE X iter τe te) : DI X tg iter (iList X.K τe) (diL te) := by
  refine ⟨pi_list h.pe, fun al S F H σ g Q QV R q k => ?_⟩
  refine h.r al S F H σ g _ _ R q fun al1 S1 H1 g1 v1 w1 R1 gr1 e1 q1 => ?_
  split at q1
  · rename_i ts e
    obtain ⟨a, vs, rfl, h1, h2⟩ := R1.viewQ e1 e
    refine ⟨a, rfl, ⟨vs, h1⟩, k _ _ _ _ _ _ _ R1 gr1 ?_ q1⟩
    intro al' S' F' H' σ' g' i R' gr' st
    obtain ⟨a', vs', ea, h3, h4⟩ := R'.viewQ (e1.grow gr') st
    cases ea
    refine ⟨fun w hw => ?_, fun hi => ?_⟩
    · rw [List.getElem?_map] at hw
      cases et : ts[i]? with
      | none => rw [et] at hw; cases hw
      | some t =>
        rw [et] at hw; cases hw
        obtain ⟨v, ev, dv⟩ := pget h4 et
        refine ⟨⟨vs', v, h3, ev⟩, fun x H'' ⟨eH, hx⟩ => ?_⟩
        subst eH
        have := hx vs' h3
        rw [ev] at this; cases this
        exact ⟨al', S', R', Grow.refl _ _, dv⟩
    · refine ⟨vs', h3, ?_⟩
      rw [List.length_map, h4.length] at hi
      exact hi
  · split at q1
    · rename_i ws e
      obtain ⟨a, vs, rfl, h1, h2⟩ := R1.viewW e1 e
      refine ⟨a, rfl, ⟨vs, .inl (.inl h1)⟩, k _ _ _ _ _ _ _ R1 gr1 ?_ q1⟩
      intro al' S' F' H' σ' g' i R' gr' st
      obtain ⟨a', vs', ea, h3, h4⟩ := R'.viewW (e1.grow gr') st
      cases ea
      refine ⟨fun w hw => ?_, fun hi => ?_⟩
      · obtain ⟨v, ev, dv⟩ := pget h4 hw
        refine ⟨⟨vs', v, .inl (.inl h3), ev⟩, fun x H'' ⟨eH, hx⟩ => ?_⟩
        subst eH
        have := hx vs' (.inl (.inl h3))
        rw [ev] at this; cases this
        exact ⟨al', S', R', Grow.refl _ _, dv⟩
      · refine ⟨vs', .inl (.inl h3), ?_⟩
        rw [h4.length] at hi
        exact hi
    · exact q1.elim
def diT (t : Dt) : DIt := fun g Q => t g fun w g1 => match w with | .t (.tup ts) => Q (ts.map W.t) (fun _ => True) g1 | _ => False
theorem di_tup (h : DE X iter τe te) : DI X tg iter (iTup X.K τe) (diT te) := by
  refine ⟨pi_tup h.pe, fun al S F H σ g Q QV R q k => ?_⟩
  refine h.r al S F H σ g _ _ R q fun al1 S1 H1 g1 v1 w1 R1 gr1 e1 q1 => ?_
  split at q1
  · rename_i ts
    have e0 := e1
    unfold DenW Den at e1
    obtain ⟨a, vs, rfl, h1, h2⟩ := e1
    refine ⟨a, rfl, ⟨vs, seqT R1.same h1⟩, k _ _ _ _ _ _ _ R1 gr1 ?_ q1⟩
    intro al' S' F' H' σ' g' i R' gr' _
    have h3 := seqT R'.same (seqT gr'.s h1)
    have h4 := Denp.grow gr'.s (Dens.iff.mp h2)
    refine ⟨fun w hw => ?_, fun hi => ?_⟩
    · rw [List.getElem?_map] at hw
      cases et : ts[i]? with
      | none => rw [et] at hw; cases hw
      | some t =>
        rw [et] at hw; cases hw
        obtain ⟨v, ev, dv⟩ := pget h4 et
        refine ⟨⟨vs, v, h3, ev⟩, fun x H'' ⟨eH, hx⟩ => ?_⟩
        subst eH
        have := hx vs h3
        rw [ev] at this; cases this
        exact ⟨al', S', R', Grow.refl _ _, dv⟩
    · refine ⟨vs, h3, ?_⟩
      rw [List.length_map, h4.length] at hi
      exact hi
  · exact q1.elim
def rgW (lo : Int) (n : Nat) : List W := (List.range n).map fun k => W.t (.int (lo + (k : Nat)))
theorem iter_range {K : PySem.W.Frag} {al : List Addr} {S : Hp} (lo : Int) (n : Nat) : IterOk K (Itr lo n) (rgW lo n) (fun _ => True) al S := by
  intro al' S' F' H' σ' g' i R' gr' _
  unfold rgW
  refine ⟨fun w hw => ?_, fun hi => ?_⟩
  · rw [List.getElem?_map] at hw
    by_cases hi : i < n
    · rw [List.getElem?_range hi] at hw
      cases hw
      refine ⟨hi, fun x H'' ⟨eH, ex⟩ => ?_⟩
      subst eH ex
      exact ⟨al', S', R', Grow.refl _ _, by unfold DenW Den; rfl⟩
    · rw [List.getElem?_eq_none (by simpa using hi)] at hw; cases hw
  · rw [List.length_map, List.length_range] at hi
    exact hi
def diR1 (t : DAt) : DIt := fun g Q => t g fun ws g1 => match ws with | [.t (.int j)] => (-(2 ^ 62) ≤ j ∧ j < 2 ^ 62) ∧ Q (rgW 0 j.toNat) (fun _ => True) g1 | _ => False
def diR2 (t : DAt) : DIt := fun g Q => t g fun ws g1 => match ws with | [.t (.int i), .t (.int j)] => (-(2 ^ 62) ≤ i ∧ i < 2 ^ 62 ∧ -(2 ^ 62) ≤ j ∧ j < 2 ^ 62) ∧ Q (rgW i (j - i).toNat) (fun _ => True) g1 | _ => False
theorem di_range1 {a : Expr} {τs : TA} {ts : DAt} {p : Pos} (hm : X.mg "range" = none) (ha : DA X [a] τs ts) (hg : Gl X "range" := by rfl) (hs : starEach [a] X.env = [(false, eval a X.env)] := by rfl) : DI X tg (.Call (.Name "range" p) [a] [] pos) (iRng1 τs) (diR1 ts) := by
  refine ⟨pi_range1 hg hm ha.pe hs, fun al S F H σ g Q QV R q k => ?_⟩
  refine ha.r al S F H σ g _ _ R q fun al1 S1 H1 g1 vs ws R1 gr1 e1 q1 => ?_
  split at q1
  · obtain ⟨v, rfl, d⟩ := p1 e1
    unfold DenW Den at d
    subst d
    exact ⟨_, rfl, q1.1.1, q1.1.2, k _ _ _ _ _ _ _ R1 gr1 (iter_range _ _) q1.2⟩
  · exact q1.elim
/-! for -/
def dFor (it : DIt) (gt : DGt) (tb : DSt) : DSt := fun D g => it g fun ws St g1 => ∃ I : Nat → G → Prop, I 0 g1 ∧ (∀ i g', I i g' → St g') ∧
  (∀ i w g', ws[i]? = some w → I i g' → gt w g' fun g2 => tb { D with nx := I (i + 1), ct := I (i + 1), bk := D.nx } g2) ∧ (∀ g', I ws.length g' → D.nx g')
theorem ds_for {body : List Stmt} {wi : TI} {it : DIt} {τg : TG} {gt : DGt} (hc : X.calm = true) (hi : DI X tg iter wi it) (hg : DG X tg τg gt) (hb : DSs X body τ t) (hp : PassesOwn (model X.prog X.w) X.A X.env X.xe := by exact PassesOwn.never)
    (hs : ∀ x, foldedSetIterable iter X.env x = pure x := by intro _; rfl) : DS X (.For tg iter body [] pos) (tFor wi τg τ) (dFor it gt t) := by
  refine ⟨ps_for hp hc hi.pe hg.pe hb.pe hs, fun al S F H σ g D DV R q k => ?_⟩
  refine hi.r al S F H σ g _ _ R q fun al1 S1 H1 g1 J ws St R1 gr1 ok q1 => ?_
  obtain ⟨I, i0, hst, turn, done⟩ := q1
  refine ⟨fun i m σ' H' => ∃ al' S' g', Rep X.K al' S' F H' σ' g' ∧ Grow al1 S1 al' S' ∧ I i g' ∧ i + m = ws.length, ⟨ws.length, al1, S1, g1, R1, Grow.refl _ _, i0, by omega⟩, ?_⟩
  rintro i m σ2 H2 ⟨al2, S2, g2, R2, gr2, i2, em⟩
  obtain ⟨hgo, hstop⟩ := ok al2 S2 F H2 σ2 g2 i R2 gr2 (hst i g2 i2)
  by_cases hi : i < ws.length
  · have hw : ws[i]? = some ws[i] := List.getElem?_eq_getElem hi
    obtain ⟨go, hy⟩ := hgo _ hw
    refine .inr ⟨go, fun σ' H' => ∃ al' S' g', Rep X.K al' S' F H' σ' g' ∧ Grow al1 S1 al' S' ∧ I (i + 1) g', fun σ' H' ⟨al', S', g', R', gr', i'⟩ => ⟨m - 1, by omega, al', S', g', R', gr', i', by omega⟩, fun x H' y => ?_⟩
    obtain ⟨al3, S3, R3, gr3, d3⟩ := hy x H' y
    refine hg.r al3 S3 F H' σ2 g2 x _ _ _ R3 d3 (turn i _ g2 hw i2) fun al4 S4 H4 σ4 g4 R4 gr4 q4 => ?_
    have gr := gr2.trans (gr3.trans gr4)
    exact hb.r al4 S4 F H4 σ4 g4 _ _ R4 q4 ⟨fun al' S' H' σ' g' R' gr' i' => ⟨al', S', g', R', gr.trans gr', i'⟩, fun al' S' H' σ' g' v w R' gr' d' q' => k.rt _ _ _ _ _ _ _ R' (gr1.trans (gr.trans gr')) d' q', fun al' S' H' σ' g' R' gr' q' => k.nx _ _ _ _ _ R' (gr1.trans (gr.trans gr')) q', fun al' S' H' σ' g' R' gr' i' => ⟨al', S', g', R', gr.trans gr', i'⟩⟩
  · refine .inl ⟨hstop (by omega), ?_⟩
    have e : i = ws.length := by omega
    subst e
    exact k.nx _ _ _ _ _ R2 (gr1.trans gr2) (done g2 i2)
end
end DL

namespace DL
open PySem PySem.Spec L2

/-! the frame: cells that nobody here touches -/
section
variable {K : PySem.W.Frag} {al : List Addr} {S F H : Hp} {m : Sto} {σ : L2.St} {g : G}
theorem RepM.frNew (R : RepM K al S F H m) {D : Addr} {o : HO} (nD : H D = none) : RepM K al S (upd F D o) (upd H D o) m := by
  refine ⟨fun b u e => ?_, fun b u e => ?_, fun b u e => ?_, R.len, fun n c e => ?_, R.inj⟩
  · rw [upd_ne (ne_of_none (R.same _ _ e) nD)]; exact R.same b u e
  · by_cases hb : b = D
    · subst hb; rw [upd_same] at e ⊢; exact e
    · rw [upd_ne hb] at e ⊢; exact R.fr b u e
  · rw [upd_ne (ne_of_none (R.same _ _ e) nD)]; exact R.dis b u e
  · obtain ⟨a, o', h1, h2, h3, h4, h5⟩ := R.cell n c e
    have na : a ≠ D := ne_of_none h4 nD
    exact ⟨a, o', h1, h2, by rw [upd_ne na]; exact h3, by rw [upd_ne na]; exact h4, h5⟩
theorem RepM.frPut {D : Addr} {o o' : HO} (R : RepM K al S (upd F D o) H m) : RepM K al S (upd F D o') (upd H D o') m := by
  have hS : ∀ b u, S b = some u → b ≠ D := fun b u e z => by subst z; have := R.dis b u e; rw [upd_same] at this; cases this
  refine ⟨fun b u e => ?_, fun b u e => ?_, fun b u e => ?_, R.len, fun n c e => ?_, R.inj⟩
  · rw [upd_ne (hS b u e)]; exact R.same b u e
  · by_cases hb : b = D
    · subst hb; rw [upd_same] at e ⊢; exact e
    · rw [upd_ne hb] at e ⊢; exact R.fr b u (by rw [upd_ne hb]; exact e)
  · have := R.dis b u e
    rw [upd_ne (hS b u e)] at this ⊢; exact this
  · obtain ⟨a, o2, h1, h2, h3, h4, h5⟩ := R.cell n c e
    have na : a ≠ D := fun z => by subst z; rw [upd_same] at h3; cases h3
    exact ⟨a, o2, h1, h2, by rw [upd_ne na] at h3 ⊢; exact h3, by rw [upd_ne na]; exact h4, h5⟩
/-- the framed thing becomes stable -/
theorem RepM.frS {D : Addr} {o : HO} (R : RepM K al S (upd F D o) H m) (nF : F D = none) : RepM K al (upd S D o) F H m ∧ Grow al S al (upd S D o) := by
  have hS : ∀ b u, S b = some u → b ≠ D := fun b u e z => by subst z; have := R.dis b u e; rw [upd_same] at this; cases this
  have gr : Grow al S al (upd S D o) := ⟨⟨[], by simp⟩, fun b u e => by rw [upd_ne (hS b u e)]; exact e⟩
  refine ⟨⟨fun b u e => ?_, fun b u e => ?_, fun b u e => ?_, R.len, fun n c e => ?_, R.inj⟩, gr⟩
  · by_cases hb : b = D
    · subst hb; rw [upd_same] at e; cases e; exact R.fr _ _ upd_same
    · rw [upd_ne hb] at e; exact R.same b u e
  · exact R.fr b u (by rw [upd_ne (ne_of_none e nF)]; exact e)
  · by_cases hb : b = D
    · subst hb; exact nF
    · rw [upd_ne hb] at e
      have := R.dis b u e
      rw [upd_ne hb] at this; exact this
  · obtain ⟨a, o2, h1, h2, h3, h4, h5⟩ := R.cell n c e
    have na : a ≠ D := fun z => by subst z; rw [upd_same] at h3; cases h3
    exact ⟨a, o2, h1, by rw [upd_ne na]; exact h2, by rw [upd_ne na] at h3; exact h3, h4, h5.grow gr⟩
/-- the framed thing becomes a cell -/
theorem RepM.frC {D : Addr} {o : HO} {c : Cell} (R : RepM K al S (upd F D o) H m) (nF : F D = none) (ok : CellOk K (al ++ [D]) S c o) : RepM K (al ++ [D]) S F H (m ++ [some c]) ∧ Grow al S (al ++ [D]) S := by
  have hS : ∀ b u, S b = some u → b ≠ D := fun b u e z => by subst z; have := R.dis b u e; rw [upd_same] at this; cases this
  have nS : S D = none := by
    cases e : S D with
    | none => rfl
    | some u => exact absurd rfl (hS D u e)
  have gr : Grow al S (al ++ [D]) S := ⟨⟨[D], rfl⟩, Same.refl S⟩
  have hold : ∀ (n : Nat) (c' : Cell), (m ++ [some c])[n]? = some (some c') → (n < m.length ∧ m[n]? = some (some c')) ∨ (n = m.length ∧ c' = c) := fun n c' e => by
    rcases Nat.lt_or_ge n m.length with q | q
    · rw [List.getElem?_append_left q] at e; exact .inl ⟨q, e⟩
    · rw [List.getElem?_append_right q] at e
      rcases Nat.eq_or_lt_of_le q with q' | q'
      · subst q'; simp at e; exact .inr ⟨rfl, e.symm⟩
      · rw [List.getElem?_eq_none (by simp; omega)] at e; cases e
  have atE : (al ++ [D])[m.length]? = some D := by rw [List.getElem?_append_right (by rw [R.len]; exact Nat.le_refl _), R.len]; simp
  have atN : ∀ (n : Nat), n < m.length → (al ++ [D])[n]? = al[n]? := fun n hn => List.getElem?_append_left (by rw [R.len]; exact hn)
  have notD : ∀ (n : Nat) (c' : Cell), m[n]? = some (some c') → al[n]? ≠ some D := fun n c' e z => by
    obtain ⟨a, o2, h1, h2, h3, h4, h5⟩ := R.cell n c' e
    rw [z] at h1; cases h1; rw [upd_same] at h3; cases h3
  refine ⟨⟨R.same, fun b u e => R.fr b u (by rw [upd_ne (ne_of_none e nF)]; exact e), fun b u e => ?_, by simp [R.len], fun n c' e => ?_, fun n k c1 c2 a e1 e2 e3 e4 => ?_⟩, gr⟩
  · have := R.dis b u e
    rw [upd_ne (hS b u e)] at this; exact this
  · rcases hold n c' e with ⟨hn, e'⟩ | ⟨rfl, rfl⟩
    · obtain ⟨a, o2, h1, h2, h3, h4, h5⟩ := R.cell n c' e'
      have na : a ≠ D := fun z => by subst z; rw [upd_same] at h3; cases h3
      exact ⟨a, o2, by rw [atN n hn]; exact h1, h2, by rw [upd_ne na] at h3; exact h3, h4, h5.grow gr⟩
    · exact ⟨D, o, atE, nS, nF, R.fr _ _ upd_same, ok⟩
  · rcases hold n c1 e1 with ⟨hn, e1'⟩ | ⟨rfl, rfl⟩
    · rcases hold k c2 e2 with ⟨hk, e2'⟩ | ⟨rfl, rfl⟩
      · rw [atN n hn] at e3; rw [atN k hk] at e4
        exact R.inj n k c1 c2 a e1' e2' e3 e4
      · rw [atN n hn] at e3; rw [atE] at e4; cases e4
        exact absurd e3 (notD n c1 e1')
    · rcases hold k c2 e2 with ⟨hk, e2'⟩ | ⟨rfl, rfl⟩
      · rw [atN k hk] at e4; rw [atE] at e3; cases e3
        exact absurd e4 (notD k c2 e2')
      · rfl
end
/-! slots of a block -/
theorem wipe_get {σ : L2.St} {j : Nat} : ∀ {vs : List Nat}, j < σ.length → (wipe σ vs)[j]? = if j ∈ vs then some none else σ[j]?
  | [], _ => by simp [wipe]
  | v :: vs, h => by
    have ih := wipe_get (vs := vs) h
    unfold wipe
    by_cases e : v = j
    · subst e
      rw [List.getElem?_set_self (by rw [wipe_length]; exact h)]
      simp
    · rw [List.getElem?_set_ne e, ih]
      by_cases m : j ∈ vs
      · simp [m]
      · have : j ∉ v :: vs := by simp [m, Ne.symm e]
        simp only [m, this, if_false]
theorem wipe_eq {σ σ' : L2.St} {vs : List Nat} (hl : σ'.length = σ.length) (h : ∀ j, j ∉ vs → σ'[j]? = σ[j]?) : wipe σ' vs = wipe σ vs := by
  refine List.ext_getElem? fun j => ?_
  by_cases hj : j < σ.length
  · rw [wipe_get hj, wipe_get (by omega)]
    by_cases m : j ∈ vs
    · simp [m]
    · simp [m, h j m]
  · rw [List.getElem?_eq_none (by rw [wipe_length]; omega), List.getElem?_eq_none (by rw [wipe_length]; omega)]
theorem wipeW_len (sl : List (Option W)) : ∀ vs : List Nat, (wipeW sl vs).length = sl.length
  | [] => rfl
  | v :: vs => by unfold wipeW; rw [List.length_set, wipeW_len sl vs]
theorem wipeW_some {sl : List (Option W)} {i : Nat} {x : W} : ∀ {vs : List Nat}, (wipeW sl vs)[i]? = some (some x) → sl[i]? = some (some x) ∧ i ∉ vs
  | [], h => ⟨h, by simp⟩
  | v :: vs, h => by
    unfold wipeW at h
    by_cases hi : v = i
    · subst hi
      by_cases hv : v < (wipeW sl vs).length
      · rw [List.getElem?_set_self hv] at h; cases h
      · rw [List.getElem?_eq_none (by simpa using hv)] at h; cases h
    · rw [List.getElem?_set_ne hi] at h
      obtain ⟨h1, h2⟩ := wipeW_some h
      exact ⟨h1, by simp only [List.mem_cons, not_or]; exact ⟨fun e => hi e.symm, h2⟩⟩
/-- the block's names get back what they held -/
def rsW (orig cur : List (Option W)) : List Nat → List (Option W)
  | [] => cur
  | v :: vs => (rsW orig cur vs).set v (orig.getD v none)
theorem rsW_len (orig cur : List (Option W)) : ∀ vs : List Nat, (rsW orig cur vs).length = cur.length
  | [] => rfl
  | v :: vs => by unfold rsW; rw [List.length_set, rsW_len orig cur vs]
theorem rsW_some {orig cur : List (Option W)} {i : Nat} {x : W} : ∀ {vs : List Nat}, (rsW orig cur vs)[i]? = some (some x) → (i ∈ vs ∧ orig[i]? = some (some x)) ∨ (i ∉ vs ∧ cur[i]? = some (some x))
  | [], h => .inr ⟨by simp, h⟩
  | v :: vs, h => by
    unfold rsW at h
    by_cases hi : v = i
    · subst hi
      by_cases hv : v < (rsW orig cur vs).length
      · rw [List.getElem?_set_self hv] at h
        refine .inl ⟨by simp, ?_⟩
        rw [List.getD_eq_getElem?_getD] at h
        cases e : orig[v]? with
        | none => rw [e] at h; cases h
        | some o => rw [e] at h; exact h
      · rw [List.getElem?_eq_none (by simpa using hv)] at h; cases h
    · rw [List.getElem?_set_ne hi] at h
      rcases rsW_some h with ⟨h1, h2⟩ | ⟨h1, h2⟩
      · exact .inl ⟨by simp [h1], h2⟩
      · exact .inr ⟨by simp only [List.mem_cons, not_or]; exact ⟨fun e => hi e.symm, h1⟩, h2⟩
def G.rs (g g0 : G) (vs : List Nat) : G := ⟨rsW g0.sl g.sl vs, g.mem⟩
section
variable {K : PySem.W.Frag} {al al' : List Addr} {S S' F H H' : Hp} {σ : L2.St} {g g' : G} {vs : List Nat}
theorem Rep.wiped (R : Rep K al S F H σ g) : Rep K al S F H (wipe σ vs) (g.wipe vs) := by
  refine ⟨R.toRepM, by rw [wipe_length]; show (wipeW g.sl vs).length = _; rw [wipeW_len]; exact R.slen, fun i w e => ?_⟩
  obtain ⟨h1, h2⟩ := wipeW_some e
  obtain ⟨v, hv, d⟩ := R.slot i w h1
  refine ⟨v, ?_, d⟩
  rw [wipe_get (by
    rcases Nat.lt_or_ge i σ.length with q | q
    · exact q
    · rw [List.getElem?_eq_none q] at hv; cases hv), if_neg h2]
  exact hv
theorem Rep.restored {F' : Hp} (R : Rep K al S F H σ g) (gr : Grow al S al' S') (R' : Rep K al' S' F' H' (wipe σ vs) g') : Rep K al' S' F' H' σ (g'.rs g vs) := by
  refine ⟨R'.toRepM, by show (rsW g.sl g'.sl vs).length = _; rw [rsW_len, R'.slen, wipe_length], fun i w e => ?_⟩
  rcases rsW_some e with ⟨h1, h2⟩ | ⟨h1, h2⟩
  · obtain ⟨v, hv, d⟩ := R.slot i w h2
    exact ⟨v, hv, d.grow gr⟩
  · obtain ⟨v, hv, d⟩ := R'.slot i w h2
    exact ⟨v, (wipe_some hv).1, d⟩
end
/-! list comprehensions -/
structure CG (X : Cx) (tg : Expr) (τ : TG) (t : DGt) (vs : List Nat) : Prop where
  pe : PG X tg τ
  r : ∀ (al : List Addr) (S F H : Hp) (σ : L2.St) (g : G) (v : V) (w : W) (Q : G → Prop) (QV : L2.St → Hp → Prop), Rep X.K al S F H σ g → DenW X.K al S w v → t w g Q →
    (∀ al' S' H' σ' g', Rep X.K al' S' F H' σ' g' → Grow al S al' S' → (σ'.length = σ.length ∧ ∀ j, j ∉ vs → σ'[j]? = σ[j]?) → Q g' → QV σ' H') → τ v σ H QV
structure CGs (X : Cx) (tg : List Expr) (τ : TGs) (t : DGst) (vs : List Nat) : Prop where
  pe : PGs X tg τ
  r : ∀ (al : List Addr) (S F H : Hp) (σ : L2.St) (g : G) (vs' : List V) (ws : List T) (Q : G → Prop) (QV : L2.St → Hp → Prop), Rep X.K al S F H σ g → Paired (Den X.K S) ws vs' → t ws g Q →
    (∀ al' S' H' σ' g', Rep X.K al' S' F H' σ' g' → Grow al S al' S' → (σ'.length = σ.length ∧ ∀ j, j ∉ vs → σ'[j]? = σ[j]?) → Q g' → QV σ' H') → τ vs' σ H QV
structure DTs (X : Cx) (ifs : List Expr) (τ : TT) (t : DTt) : Prop where
  pe : PTs X ifs τ
  r : DTr X.K τ t
section
variable {X : Cx} {e : Expr} {τe : TE} {te : Dt} {pos : Pos} {tg iter : Expr} {vs : List Nat}
theorem cg_name (i : Nat) {x : Str} {ps : Pos} (hN : X.N.Nodup) (hi : X.N[i]? = some x := by rfl) (hv : i ∈ vs := by decide) (hx : Loc X.env.scope x := by first | exact Or.inl rfl | exact Or.inr rfl) (hf : X.fn x = true ∨ X.env.scope.names.lookup x = some .local := by first | exact .inl rfl | exact .inr rfl | assumption) : CG X (.Name x ps) (gName i) (dgN i) vs :=
  ⟨pg_name hN hi hx hf, fun al S F H σ g v w Q QV R d q k => k _ _ _ _ _ (R.setSlot d) (Grow.refl _ _) ⟨by simp, fun j hj => List.getElem?_set_ne (fun z => hj (by subst z; exact hv))⟩ q⟩
theorem cgs_nil : CGs X [] gNil dgNil vs := by
  refine ⟨pgs_nil, fun al S F H σ g vs ws Q QV R d q k => ?_⟩
  cases d with
  | nil => exact ⟨rfl, k _ _ _ _ _ R (Grow.refl _ _) ⟨rfl, fun _ _ => rfl⟩ q⟩
  | cons _ _ => exact q.elim
theorem cgs_cons {e : Expr} {es : List Expr} {τ1 : TG} {t1 : DGt} {τ2 : TGs} {t2 : DGst} (h1 : CG X e τ1 t1 vs) (h2 : CGs X es τ2 t2 vs)
    (hs : (assignEach (e :: es) X.env).map (·.2) = assign e X.env :: (assignEach es X.env).map (·.2) := by rfl) : CGs X (e :: es) (gCons τ1 τ2) (dgCons t1 t2) vs := by
  refine ⟨pgs_cons h1.pe h2.pe hs, fun al S F H σ g vs ws Q QV R d q k => ?_⟩
  cases d with
  | nil => exact q.elim
  | cons d1 d2 =>
    refine ⟨_, _, rfl, ?_⟩
    refine h1.r al S F H σ g _ (.t _) _ _ R d1 q fun al1 S1 H1 σ1 g1 R1 gr1 s1 q1 => ?_
    exact h2.r al1 S1 F H1 σ1 g1 _ _ Q QV R1 (Denp.grow gr1.s d2) q1 fun al2 S2 H2 σ2 g2 R2 gr2 s2 q2 => k _ _ _ _ _ R2 (gr1.trans gr2) ⟨s2.1.trans s1.1, fun j hj => (s2.2 j hj).trans (s1.2 j hj)⟩ q2
theorem cg_tup {es : List Expr} {kk : Nat} {ps : Pos} {τ1 : TGs} {t1 : DGst} {n : Nat} (hc : X.calm = true) (h : CGs X es τ1 t1 vs)
    (hn : (assignEach es X.env).length = n := by rfl) (hst : (assignEach es X.env).findIdx? (·.1) = none := by rfl) : CG X (.Tuple es kk ps) (gTup X.K n τ1) (dgTup n t1) vs := by
  refine ⟨pg_tup hc h.pe hn hst, fun al S F H σ g v w Q QV R d q k => ?_⟩
  unfold dgTup at q
  split at q
  · rename_i ts
    unfold DenW Den at d
    obtain ⟨p, vs, rfl, h1, h2⟩ := d
    have h2' := Dens.iff.mp h2
    exact ⟨p, vs, rfl, seqT R.same h1, by rw [← h2'.length]; exact q.1, h.r al S F H σ g vs ts Q QV R h2' q.2 k⟩
  · exact q.elim
def dYes : DTt := fun g Q => Q true g
theorem dts_nil : DTs X [] tYes dYes := ⟨pts_nil, fun al S F H σ g Q QV R q k => k _ _ _ _ _ R (Grow.refl _ _) q⟩
theorem dts_one {c : Expr} {τ : TT} {t : DTt} (h : DT X c τ t) : DTs X [c] τ t := ⟨pts_one h.pe, h.r⟩
theorem Rep.withM2 {K : PySem.W.Frag} {al al' : List Addr} {S S' F F' H H' : Hp} {σ : L2.St} {g : G} (R : Rep K al S F H σ g) {m' : Sto} (gr : Grow al S al' S') (M : RepM K al' S' F' H' m') : Rep K al' S' F' H' σ ⟨g.sl, m'⟩ :=
  ⟨M, R.slen, fun i w e => let ⟨v, h1, h2⟩ := R.slot i w e; ⟨v, h1, h2.grow gr⟩⟩
abbrev Fin3 := List W → G → (W → G → Prop) → Prop
def FinOk (K : PySem.W.Frag) (fin : Fin3) : Prop := ∀ (al : List Addr) (S F H : Hp) (σ : L2.St) (g : G) (acc : List W) (accV : List V) (D : Addr) (Q : W → G → Prop), Rep K al S (upd F D (.lst accV)) H σ g → F D = none → Paired (DenW K al S) acc accV → fin acc g Q →
  ∃ al' S' w g', Rep K al' S' F H σ g' ∧ Grow al S al' S' ∧ DenW K al' S' w (.ref D) ∧ Q w g'
def finT : Fin3 := fun acc g Q => ∃ ts : List T, acc = ts.map W.t ∧ Q (.t (.lst ts)) g
def finH : Fin3 := fun acc g Q => ∃ ts : List T, acc = ts.map W.t ∧ Q (.h g.mem.length) (g.push (.lt ts))
def finW : Fin3 := fun acc g Q => Q (.h g.mem.length) (g.push (.lw acc))
theorem denT_map {K : PySem.W.Frag} {al : List Addr} {S : Hp} {ts : List T} {vs : List V} (h : Paired (DenW K al S) (ts.map W.t) vs) : Paired (Den K S) ts vs := (pmapL W.t).mp h
theorem fin_T {K : PySem.W.Frag} : FinOk K finT := by
  intro al S F H σ g acc accV D Q R nF d q
  obtain ⟨ts, rfl, q⟩ := q
  obtain ⟨M, gr⟩ := R.toRepM.frS nF
  refine ⟨al, _, .t (.lst ts), g, R.withM2 gr M, gr, ?_, q⟩
  unfold DenW Den
  exact ⟨D, accV, rfl, upd_same, Dens.iff.mpr (Denp.grow gr.s (denT_map d))⟩
theorem fin_W {K : PySem.W.Frag} : FinOk K finW := by
  intro al S F H σ g acc accV D Q R nF d q
  obtain ⟨M, gr⟩ := R.toRepM.frC (c := .lw acc) nF ⟨accV, rfl, DenWs.grow ⟨⟨[D], rfl⟩, Same.refl _⟩ d⟩
  refine ⟨_, S, .h g.mem.length, _, R.withM2 gr M, gr, ⟨D, ?_, rfl⟩, q⟩
  rw [List.getElem?_append_right (by rw [R.len]; exact Nat.le_refl _), R.len]; simp
def dLc (fin : Fin3) (it : DIt) (gt : DGt) (tt : DTt) (te : Dt) (vs : List Nat) : Dt := fun g Q => it g fun ws St g1 => ∃ I : Nat → List W → G → Prop, I 0 [] (g1.wipe vs) ∧ (∀ i acc g', I i acc g' → St g' ∧ acc.length ≤ i) ∧
  (∀ i acc w g', ws[i]? = some w → I i acc g' → gt w g' fun g2 => tt g2 fun b g3 => if b = true then te g3 fun y g4 => I (i + 1) (acc ++ [y]) (g4.wipe vs) else I (i + 1) acc (g3.wipe vs)) ∧
  ws.length ≤ sizeLine ∧ (∀ acc g', I ws.length acc g' → fin acc (g'.rs g1 vs) Q)
theorem der_lc {K : PySem.W.Frag} {fin : Fin3} {wi : TI} {it : DIt} {τg : TG} {gt : DGt} {τt : TT} {tt : DTt} {τe : TE} {te : Dt} {vs : List Nat} (hf : FinOk K fin)
    (hi : ∀ (al : List Addr) (S F H : Hp) (σ : L2.St) (g : G) (Q : List W → (G → Prop) → G → Prop) (QV : It → Hp → Prop), Rep K al S F H σ g → it g Q →
      (∀ al' S' H' g' J ws St, Rep K al' S' F H' σ g' → Grow al S al' S' → IterOk K J ws St al' S' → Q ws St g' → QV J H') → wi σ H QV)
    (hg : ∀ (al : List Addr) (S F H : Hp) (σ : L2.St) (g : G) (v : V) (w : W) (Q : G → Prop) (QV : L2.St → Hp → Prop), Rep K al S F H σ g → DenW K al S w v → gt w g Q →
      (∀ al' S' H' σ' g', Rep K al' S' F H' σ' g' → Grow al S al' S' → (σ'.length = σ.length ∧ ∀ j, j ∉ vs → σ'[j]? = σ[j]?) → Q g' → QV σ' H') → τg v σ H QV)
    (ht : DTr K τt tt) (he : DEr K τe te) : DEr K (tLc wi τg τt τe vs) (dLc fin it gt tt te vs) := by
  intro al S F H σ g Q QV R q k
  refine hi al S F H σ g _ _ R q fun al1 S1 H1 g1 J ws St R1 gr1 ok q1 => fun D nD => ?_
  obtain ⟨I, i0, hst, turn, hz, done⟩ := q1
  have nF : F D = none := R1.fr.free nD
  have R1w : Rep K al1 S1 (upd F D (.lst [])) (upd H1 D (.lst [])) (wipe σ vs) (g1.wipe vs) :=
    let R2 := R1.wiped (vs := vs)
    ⟨R2.toRepM.frNew nD, R2.slen, R2.slot⟩
  refine ⟨fun i m H' => ∃ al' S' g' acc accV, Rep K al' S' (upd F D (.lst accV)) H' (wipe σ vs) g' ∧ Grow al1 S1 al' S' ∧ Paired (DenW K al' S') acc accV ∧ I i acc g' ∧ i + m = ws.length,
    ⟨ws.length, al1, S1, _, [], [], R1w, Grow.refl _ _, .nil, i0, by omega⟩, ?_⟩
  rintro i m H2 ⟨al2, S2, g2, acc, accV, R2, gr2, d2, i2, em⟩
  obtain ⟨st2, hl2⟩ := hst i acc g2 i2
  obtain ⟨hgo, hstop⟩ := ok al2 S2 _ H2 _ g2 i R2 gr2 st2
  by_cases hi : i < ws.length
  · have hw : ws[i]? = some ws[i] := List.getElem?_eq_getElem hi
    obtain ⟨go, hy⟩ := hgo _ hw
    refine .inr ⟨go, fun H' => ∃ al' S' g' acc accV, Rep K al' S' (upd F D (.lst accV)) H' (wipe σ vs) g' ∧ Grow al1 S1 al' S' ∧ Paired (DenW K al' S') acc accV ∧ I (i + 1) acc g', fun H' ⟨al', S', g', acc, accV, R', gr', d', i'⟩ => ⟨m - 1, by omega, al', S', g', acc, accV, R', gr', d', i', by omega⟩, fun x H' y => ?_⟩
    obtain ⟨al3, S3, R3, gr3, d3⟩ := hy x H' y
    refine hg al3 S3 _ H' _ g2 x _ _ _ R3 d3 (turn i acc _ g2 hw i2) fun al4 S4 H4 σ4 g4 R4 gr4 s4 q4 => ?_
    have hwp : wipe σ4 vs = wipe σ vs := by
      have h1 : wipe σ4 vs = wipe (wipe σ vs) vs := wipe_eq s4.1 s4.2
      rw [h1]
      refine wipe_eq (wipe_length _ _) fun j hj => ?_
      by_cases hl : j < σ.length
      · rw [wipe_get hl, if_neg hj]
      · rw [List.getElem?_eq_none (by rw [wipe_length]; omega), List.getElem?_eq_none (by omega)]
    refine ⟨hwp, ?_⟩
    refine ht al4 S4 _ H4 σ4 g4 _ _ R4 q4 fun al5 S5 H5 g5 b R5 gr5 q5 => ?_
    have gr := gr2.trans (gr3.trans (gr4.trans gr5))
    have grd := gr3.trans (gr4.trans gr5)
    cases b with
    | false =>
      simp only [Bool.false_eq_true, if_false] at q5 ⊢
      have R5' := R5.wiped (vs := vs)
      rw [hwp] at R5'
      exact ⟨al5, S5, _, acc, accV, R5', gr, DenWs.grow grd d2, q5⟩
    | true =>
      simp only [if_true] at q5 ⊢
      refine he al5 S5 _ H5 σ4 g5 _ _ R5 q5 fun al6 S6 H6 g6 v w R6 gr6 d6 q6 => ?_
      have eD : H6 D = some (.lst accV) := R6.fr _ _ upd_same
      refine ⟨accV, eD, ?_, ?_⟩
      · rw [← d2.length]; omega
      · have R6' := R6.wiped (vs := vs)
        rw [hwp] at R6'
        exact ⟨al6, S6, _, acc ++ [w], accV ++ [v], ⟨R6'.toRepM.frPut, R6'.slen, R6'.slot⟩, gr.trans gr6, papp (DenWs.grow (grd.trans gr6) d2) (.cons d6 .nil), q6⟩
  · refine .inl ⟨hstop (by omega), ?_⟩
    have e : i = ws.length := by omega
    subst e
    have R3 := R1.restored gr2 R2
    obtain ⟨al4, S4, w, g4, R4, gr4, d4, q4⟩ := hf al2 S2 F H2 σ _ acc accV D Q R3 nF d2 (done acc g2 i2)
    exact k _ _ _ _ _ _ R4 (gr1.trans (gr2.trans gr4)) d4 q4
variable {elt : Expr} {ifs : List Expr} {scope : Scope} {own : List (Str × Nat)} {wi : TI} {it : DIt} {τg : TG} {gt : DGt} {τt : TT} {tt : DTt} {fin : Fin3}
theorem de_lc (hf : FinOk X.K fin) (hc : X.calm = true) (hN : X.N.Nodup) (hi : DI X tg iter wi it) (ok : BlkOk X.N X.env.scope scope own)
    (hg : ∀ (s : Shared) (H : Hp) (C : Addr) (cl : List (Str × Addr)) (fp : List Addr), CG (X.blk s H scope (compEnvC scope cl C X.env) fp) tg τg gt (own.map (·.2))) (ht : ∀ (s : Shared) (H : Hp) (C : Addr) (cl : List (Str × Addr)) (fp : List Addr), DTs (X.blk s H scope (compEnvC scope cl C X.env) fp) ifs τt tt)
    (he : ∀ (s : Shared) (H : Hp) (C : Addr) (cl : List (Str × Addr)) (fp : List Addr), DE (X.blk s H scope (compEnvC scope cl C X.env) fp) elt τe te) (s0 : Shared) (hs : ∀ x, foldedSetIterable iter X.env x = pure x := by intro _; rfl) :
    DE X (.ListComp elt [⟨tg, iter, ifs, 0⟩] scope pos) (tLc wi τg τt τe (own.map (·.2))) (dLc fin it gt tt te (own.map (·.2))) :=
  ⟨pe_lc hc hN hi.pe ok (fun s H C cl fp => (hg s H C cl fp).pe) (fun s H C cl fp => (ht s H C cl fp).pe) (fun s H C cl fp => (he s H C cl fp).pe) hs,
    der_lc hf hi.r (hg s0 (fun _ => none) 0 [] []).r (ht s0 (fun _ => none) 0 [] []).r (he s0 (fun _ => none) 0 [] []).r⟩
theorem ds_setLc (i : Nat) {y : Str} {py spos : Pos} (hf : FinOk X.K fin) (hc : X.calm = true) (hN : X.N.Nodup) (hi : DI X tg iter wi it) (ok : BlkOk X.N X.env.scope scope own)
    (hg : ∀ (s : Shared) (H : Hp) (C : Addr) (cl : List (Str × Addr)) (fp : List Addr), CG (X.blk s H scope (compEnvC scope cl C X.env) fp) tg τg gt (own.map (·.2))) (ht : ∀ (s : Shared) (H : Hp) (C : Addr) (cl : List (Str × Addr)) (fp : List Addr), DTs (X.blk s H scope (compEnvC scope cl C X.env) fp) ifs τt tt)
    (he : ∀ (s : Shared) (H : Hp) (C : Addr) (cl : List (Str × Addr)) (fp : List Addr), DE (X.blk s H scope (compEnvC scope cl C X.env) fp) elt τe te) (s0 : Shared) (hy : X.N[i]? = some y := by rfl) (hyl : X.env.scope.names.lookup y = some .local := by rfl)
    (hsw : swapsWith (.ListComp elt [⟨tg, iter, ifs, 0⟩] scope pos) (some (.Name y py)) spos.line X.env = pure true := by exact sw_true rfl rfl rfl (by decide +kernel)) (hs : ∀ x, foldedSetIterable iter X.env x = pure x := by intro _; rfl) :
    DS X (.Assign [.Name y py] (.ListComp elt [⟨tg, iter, ifs, 0⟩] scope pos) spos) (tAsg (tLc wi τg τt τe (own.map (·.2))) (gName i)) (dAsg (dLc fin it gt tt te (own.map (·.2))) (dgN i)) := by
  refine ⟨ps_setLc hc hN hy hyl hsw hi.pe ok (fun s H C cl fp => (hg s H C cl fp).pe) (fun s H C cl fp => (ht s H C cl fp).pe) (fun s H C cl fp => (he s H C cl fp).pe) hs, fun al S F H σ g D DV R q k => ?_⟩
  refine der_lc hf hi.r (hg s0 (fun _ => none) 0 [] []).r (ht s0 (fun _ => none) 0 [] []).r (he s0 (fun _ => none) 0 [] []).r al S F H σ g _ _ R q fun al1 S1 H1 g1 v1 w1 R1 gr1 e1 q1 => ?_
  exact k.nx _ _ _ _ _ (R1.setSlot e1) gr1 q1
end
end DL

namespace DL
open PySem PySem.Spec L2

/-! renaming of handles -/
def W.up (r : List Nat) : W → Option W
  | .t x => some (.t x)
  | .h n => match r[n]? with | some j => some (.h j) | none => none
def ups (r : List Nat) : List W → Option (List W)
  | [] => some []
  | w :: ws => match w.up r, ups r ws with | some w', some ws' => some (w' :: ws') | _, _ => none
def Cell.up (r : List Nat) : Cell → Option Cell
  | .lt ts => some (.lt ts)
  | .dt ks ts => some (.dt ks ts)
  | .lw ws => match ups r ws with | some ws' => some (.lw ws') | none => none
  | .dw ks ws => match ups r ws with | some ws' => some (.dw ks ws') | none => none
  | .tw ws => match ups r ws with | some ws' => some (.tw ws') | none => none
  | .ob n fs ws => match ups r ws with | some ws' => some (.ob n fs ws') | none => none
  | .dp ks ts => some (.dp ks ts)
def cups (r : List Nat) : List Cell → Option (List Cell)
  | [] => some []
  | w :: ws => match w.up r, cups r ws with | some w', some ws' => some (w' :: ws') | _, _ => none
theorem cups_get {r : List Nat} : ∀ {cs cs' : List Cell} {i : Nat} {c : Cell}, cups r cs = some cs' → cs[i]? = some c → ∃ c', cs'[i]? = some c' ∧ c.up r = some c'
  | [], _, _, _, _, h => by simp at h
  | d :: cs, cs', i, c, e, h => by
    unfold cups at e
    split at e
    · rename_i d' ds' e1 e2
      cases e
      cases i with
      | zero => simp at h; subst h; exact ⟨d', by simp, e1⟩
      | succ i =>
        obtain ⟨c', h1, h2⟩ := cups_get e2 (by simpa using h)
        exact ⟨c', by simpa using h1, h2⟩
    · cases e
theorem cups_len {r : List Nat} : ∀ {cs cs' : List Cell}, cups r cs = some cs' → cs'.length = cs.length
  | [], _, e => by cases e; rfl
  | d :: cs, cs', e => by
    unfold cups at e
    split at e
    · rename_i d' ds' e1 e2
      cases e
      simp [cups_len e2]
    · cases e
def alOf (al : List Addr) (r : List Nat) : List Addr := r.map fun j => al.getD j 0
section
variable {K : PySem.W.Frag} {al al' : List Addr} {S S' F H H' : Hp} {m : Sto} {r : List Nat}
/-- al1 at i is al at r i -/
def Emb (al1 al : List Addr) (r : List Nat) : Prop := ∀ (i j : Nat), r[i]? = some j → al1[i]? = al[j]?
theorem emb_of (hr : ∀ j ∈ r, j < al.length) : Emb (alOf al r) al r := by
  intro i j e
  have hj := hr j (List.mem_of_getElem? e)
  unfold alOf
  rw [List.getElem?_map, e, Option.map_some, List.getD_eq_getElem?_getD, List.getElem?_eq_getElem hj]
  rfl
theorem denW_dn {al1 : List Addr} (em : Emb al1 al r) : ∀ {w' w : W} {v : V}, w'.up r = some w → (DenW K al1 S w' v ↔ DenW K al S w v)
  | .t x, w, v, e => by cases e; exact Iff.rfl
  | .h n, w, v, e => by
    unfold W.up at e
    dsimp only at e
    split at e
    · rename_i j ej
      cases e
      unfold DenW
      dsimp only
      rw [em n j ej]
    · cases e
theorem denWs_dn {al1 : List Addr} (em : Emb al1 al r) : ∀ {ws' ws : List W} {vs : List V}, ups r ws' = some ws → (Paired (DenW K al1 S) ws' vs ↔ Paired (DenW K al S) ws vs)
  | [], ws, vs, e => by
    cases e
    constructor
    · intro h; cases h; exact .nil
    · intro h; cases h; exact .nil
  | w' :: ws', ws, vs, e => by
    unfold ups at e
    split at e
    · rename_i w ws2 e1 e2
      cases e
      constructor
      · intro h
        cases h with
        | cons h1 h2 => exact .cons ((denW_dn em e1).mp h1) ((denWs_dn em e2).mp h2)
      · intro h
        cases h with
        | cons h1 h2 => exact .cons ((denW_dn em e1).mpr h1) ((denWs_dn em e2).mpr h2)
    · cases e
theorem cell_dn {al1 : List Addr} (em : Emb al1 al r) {c' c : Cell} {o : HO} (e : c'.up r = some c) : CellOk K al1 S c' o ↔ CellOk K al S c o := by
  cases c' with
  | lt ts => cases e; exact Iff.rfl
  | dt ks ts => cases e; exact Iff.rfl
  | dp ks ts => cases e; exact Iff.rfl
  | lw ws =>
    unfold Cell.up at e
    dsimp only at e
    split at e
    · rename_i ws2 e2
      cases e
      exact ⟨fun ⟨vs, h, p⟩ => ⟨vs, h, (denWs_dn em e2).mp p⟩, fun ⟨vs, h, p⟩ => ⟨vs, h, (denWs_dn em e2).mpr p⟩⟩
    · cases e
  | tw ws =>
    unfold Cell.up at e
    dsimp only at e
    split at e
    · rename_i ws2 e2
      cases e
      exact ⟨fun ⟨vs, h, p⟩ => ⟨vs, h, (denWs_dn em e2).mp p⟩, fun ⟨vs, h, p⟩ => ⟨vs, h, (denWs_dn em e2).mpr p⟩⟩
    · cases e
  | ob n fs ws =>
    unfold Cell.up at e
    dsimp only at e
    split at e
    · rename_i ws2 e2
      cases e
      have hl : ∀ {ws' ws : List W}, ups r ws' = some ws → ws'.length = ws.length := by
        intro ws'
        induction ws' with
        | nil => intro ws e; cases e; rfl
        | cons w' ws' ih =>
          intro ws e
          unfold ups at e
          split at e
          · rename_i w ws2 e1 e2
            cases e
            simp [ih e2]
          · cases e
      exact ⟨fun ⟨C, dx, vs, n, h, l, p⟩ => ⟨C, dx, vs, n, h, by rw [l, hl e2], (denWs_dn em e2).mp p⟩, fun ⟨C, dx, vs, n, h, l, p⟩ => ⟨C, dx, vs, n, h, by rw [l, hl e2], (denWs_dn em e2).mpr p⟩⟩
    · cases e
  | dw ks ws =>
    unfold Cell.up at e
    dsimp only at e
    split at e
    · rename_i ws2 e2
      cases e
      have hl : ∀ {ws' ws : List W}, ups r ws' = some ws → ws'.length = ws.length := by
        intro ws'
        induction ws' with
        | nil => intro ws e; cases e; rfl
        | cons w' ws' ih =>
          intro ws e
          unfold ups at e
          split at e
          · rename_i w ws2 e1 e2
            cases e
            simp [ih e2]
          · cases e
      exact ⟨fun ⟨vs, h, l, p⟩ => ⟨vs, h, by rw [l, hl e2], (denWs_dn em e2).mp p⟩, fun ⟨vs, h, l, p⟩ => ⟨vs, h, by rw [l, hl e2], (denWs_dn em e2).mpr p⟩⟩
    · cases e
theorem nodup_get {r : List Nat} (h : r.Nodup) {i k j : Nat} (a : r[i]? = some j) (b : r[k]? = some j) : i = k := by
  obtain ⟨h1, e1⟩ := List.getElem?_eq_some_iff.mp a
  obtain ⟨h2, e2⟩ := List.getElem?_eq_some_iff.mp b
  exact (List.getElem_inj h).mp (e1.trans e2.symm)
/-- a part of the store by itself -/
theorem RepM.sub (R : RepM K al S F H m) {m2 : List Cell} (nd : r.Nodup) (hr : ∀ j ∈ r, j < m.length) (hl : r.length = m2.length)
    (hc : ∀ (i : Nat) (c' : Cell), m2[i]? = some c' → ∃ j c, r[i]? = some j ∧ c'.up r = some c ∧ m[j]? = some (some c)) : RepM K (alOf al r) S F H (m2.map some) := by
  have em : Emb (alOf al r) al r := emb_of fun j hj => by rw [R.len]; exact hr j hj
  have at2 : ∀ (n : Nat) (c : Cell), (m2.map some)[n]? = some (some c) → m2[n]? = some c := fun n c e => by
    rw [List.getElem?_map] at e
    cases q : m2[n]? with
    | none => rw [q] at e; cases e
    | some d => rw [q] at e; cases e; rfl
  refine ⟨R.same, R.fr, R.dis, by unfold alOf; simp [hl], fun n c e => ?_, fun n k c d a e1 e2 e3 e4 => ?_⟩
  · obtain ⟨j, c2, h1, h2, h3⟩ := hc n c (at2 n c e)
    obtain ⟨a, o, g1, g2, g3, g4, g5⟩ := R.cell j c2 h3
    exact ⟨a, o, by rw [em n j h1]; exact g1, g2, g3, g4, (cell_dn em h2).mpr g5⟩
  · obtain ⟨j, c2, h1, h2, h3⟩ := hc n c (at2 n c e1)
    obtain ⟨j', c3, h4, h5, h6⟩ := hc k d (at2 k d e2)
    rw [em n j h1] at e3
    rw [em k j' h4] at e4
    have := R.inj j j' c2 c3 a h3 h6 e3 e4
    subst this
    exact nodup_get nd h1 h4
end
/-! a def's contract: what is handed in (trees, and handles of the cells handed in), the cells; what is handed back, the cells behind, new cells -/
abbrev SC := List W → List Cell → (W → List Cell → List Cell → Prop) → Prop
def sps (K : PySem.W.Frag) (C : SC) : Sp := fun vs H Q _ => ∃ (al : List Addr) (S F : Hp) (m0 : List Cell) (ws : List W) (QC : W → List Cell → List Cell → Prop), RepM K al S F H (m0.map some) ∧ Paired (DenW K al S) ws vs ∧ C ws m0 QC ∧
  ∀ al2 S' H' m1 cs v w, RepM K (al ++ al2) S' F H' ((m1 ++ cs).map some) → m1.length = m0.length → Same S S' → DenW K (al ++ al2) S' w v → QC w m1 cs → Q v H'
/-- what the body hands back, as the contract tells it -/
def FinS (n0 : Nat) (QC : W → List Cell → List Cell → Prop) (w : W) (g : G) : Prop := ∃ (ks : List Nat) (m1 cs : List Cell) (w' : W), (List.range n0 ++ ks).Nodup ∧ (∀ j ∈ List.range n0 ++ ks, j < g.mem.length) ∧ w'.up (List.range n0 ++ ks) = some w ∧ m1.length = n0 ∧ cs.length = ks.length ∧
  (∀ (i : Nat) (c' : Cell), (m1 ++ cs)[i]? = some c' → ∃ j c, (List.range n0 ++ ks)[i]? = some j ∧ c'.up (List.range n0 ++ ks) = some c ∧ g.mem[j]? = some (some c)) ∧ QC w' m1 cs
theorem alOf_range {al al1 more : List Addr} {n0 : Nat} (h : al1 = al ++ more) (hl : al.length = n0) (ks : List Nat) : alOf al1 (List.range n0 ++ ks) = al ++ alOf al1 ks := by
  unfold alOf
  rw [List.map_append]
  congr 1
  refine List.ext_getElem? fun i => ?_
  rw [List.getElem?_map]
  by_cases hi : i < n0
  · rw [List.getElem?_range hi, Option.map_some, List.getD_eq_getElem?_getD, h, List.getElem?_append_left (by omega), List.getElem?_eq_getElem (by omega)]
    rfl
  · rw [List.getElem?_eq_none (by simpa using hi), List.getElem?_eq_none (by omega)]
    rfl
section
variable {P : Program} {w : World} {K : PySem.W.Frag} {mg : Str → Option Value} {base : Heap}
theorem sps_fin {al alF : List Addr} {S S' F H' : Hp} {g : G} {m0 : List Cell} {QC : W → List Cell → List Cell → Prop} {σ : L2.St} {u : W} {v : V} {Q : VK} (R : Rep K alF S' F H' σ g) (gr : Grow al S alF S') (hl : al.length = m0.length) (d : DenW K alF S' u v) (q : FinS m0.length QC u g)
    (k : ∀ al2 S' H' m1 cs v w, RepM K (al ++ al2) S' F H' ((m1 ++ cs).map some) → m1.length = m0.length → Same S S' → DenW K (al ++ al2) S' w v → QC w m1 cs → Q v H') : Q v H' := by
  obtain ⟨ks, m1, cs, u', nd, lt, hu, l1, l2, hc, q⟩ := q
  obtain ⟨⟨more, ea⟩, sS⟩ := gr
  have M := R.toRepM.sub (m2 := m1 ++ cs) nd lt (by simp [l1, l2]) hc
  have em : Emb (alOf alF (List.range m0.length ++ ks)) alF (List.range m0.length ++ ks) := emb_of fun j hj => by rw [R.len]; exact lt j hj
  have d' := (denW_dn (K := K) (S := S') (v := v) em hu).mpr d
  rw [alOf_range ea hl ks] at M d'
  exact k _ _ _ m1 cs v u' M l1 sS d' q
theorem start_rep {al : List Addr} {S F H : Hp} {m0 : Sto} {ws : List W} {vs : List V} {N : List Str} (M : RepM K al S F H m0) (d : Paired (DenW K al S) ws vs) : Rep K al S F H (L2.start N vs) ⟨ws.map some ++ List.replicate (N.length - ws.length) none, m0⟩ := by
  refine ⟨M, by unfold L2.start; simp [d.length], fun i u e => ?_⟩
  dsimp only at e
  rcases Nat.lt_or_ge i ws.length with hi | hi
  · rw [List.getElem?_append_left (by simpa using hi), List.getElem?_map] at e
    cases eu : ws[i]? with
    | none => rw [eu] at e; cases e
    | some u' =>
      rw [eu] at e; cases e
      obtain ⟨v, hv, dv⟩ := pget d eu
      refine ⟨v, ?_, dv⟩
      unfold L2.start
      rw [List.getElem?_append_left (by rw [List.length_map, ← d.length]; exact hi), List.getElem?_map, hv]
      rfl
  · rw [List.getElem?_append_right (by simpa using hi), List.getElem?_replicate] at e
    split at e <;> cases e
/-- THE RULE for a def's body -/
theorem dfn_ok {x qual : Str} {st : Stmt} {f : Addr} {fd : FuncData} {N ps : List Str} {k : Nat} {C : SC} (Fn : Fun K x qual st f fd) (Sc : FnScope N ps (defScope st)) (hlen : ∀ ws m Q, C ws m Q → ws.length = ps.length)
    (hb : ∀ (cdv : Value) (A : Around) (outer : List Env) (s : Shared) (H : Hp) (E : XK), Room k (A.deeper (PyProof.Rows.envOfC qual (defScope st) s.heap.objs.size f cdv)) →
      ∃ τ t, DSs (cxOf CX0 P w K mg base N qual (defScope st) f cdv A outer s H E).nox (defBody st) τ t ∧ ∀ ws m QC, C ws m QC → t ⟨FinS m.length QC (.t .non), FinS m.length QC, fun _ => False, fun _ => False⟩ ⟨ws.map some ++ List.replicate (N.length - ws.length) none, m.map some⟩) :
    FnOk P w K mg base CX0 (k + 1) f fd ps (sps K C) := by
  refine Fn.ok Sc (fun vs H Q E h => ?_) fun cdv A outer s H vs Q E hr h => ?_
  · obtain ⟨al, S, F, m0, ws, QC, _, d, c, _⟩ := h
    rw [← d.length]; exact hlen _ _ _ c
  · obtain ⟨al, S, F, m0, ws, QC, M, d, c, q⟩ := h
    obtain ⟨τ, t, D, ht⟩ := hb cdv A outer s H E hr
    refine ⟨τ, D.pe, ?_⟩
    have hl : al.length = m0.length := by rw [M.len, List.length_map]
    have R := start_rep (N := N) M d
    refine D.r al S F H _ _ _ _ R (ht ws m0 QC c) ⟨fun al' S' H' σ' g' R' gr' q' => ?_, fun al' S' H' σ' g' v u R' gr' d' q' => ?_, fun _ _ _ _ _ _ _ z => z.elim, fun _ _ _ _ _ _ _ z => z.elim⟩
    · exact sps_fin R' gr' hl (by unfold DenW Den; rfl) q' q
    · exact sps_fin R' gr' hl d' q' q
end
/-! the caller -/
def setAll (m : Sto) : List Nat → List Cell → Sto
  | j :: r, c :: cs => (setAll m r cs).set j (some c)
  | _, _ => m
theorem setAll_len (m : Sto) : ∀ (r : List Nat) (cs : List Cell), (setAll m r cs).length = m.length
  | [], _ => by unfold setAll; rfl
  | _ :: _, [] => by unfold setAll; rfl
  | j :: r, c :: cs => by unfold setAll; rw [List.length_set, setAll_len m r cs]
theorem setAll_out (m : Sto) {n : Nat} : ∀ (r : List Nat) (cs : List Cell), n ∉ r → (setAll m r cs)[n]? = m[n]?
  | [], _, _ => by unfold setAll; rfl
  | _ :: _, [], _ => by unfold setAll; rfl
  | j :: r, c :: cs, h => by
    unfold setAll
    rw [List.getElem?_set_ne (fun z => h (by subst z; simp)), setAll_out m r cs fun z => h (by simp [z])]
theorem setAll_in (m : Sto) : ∀ (r : List Nat) (cs : List Cell) {i j : Nat}, r.Nodup → (∀ j ∈ r, j < m.length) → r.length = cs.length → r[i]? = some j → ∃ c, cs[i]? = some c ∧ (setAll m r cs)[j]? = some (some c)
  | [], cs, i, j, _, _, _, h => by simp at h
  | _ :: _, [], i, j, _, _, hl, h => by simp at hl
  | j0 :: r, c :: cs, i, j, nd, lt, hl, h => by
    unfold setAll
    obtain ⟨n1, n2⟩ := List.nodup_cons.mp nd
    cases i with
    | zero =>
      simp at h
      subst h
      exact ⟨c, by simp, List.getElem?_set_self (by rw [setAll_len]; exact lt j0 (by simp))⟩
    | succ i =>
      obtain ⟨c', h1, h2⟩ := setAll_in m r cs (i := i) (j := j) n2 (fun j hj => lt j (by simp [hj])) (by simpa using hl) (by simpa using h)
      refine ⟨c', by simpa using h1, ?_⟩
      rw [List.getElem?_set_ne]
      · exact h2
      · intro z
        subst z
        exact n1 (List.mem_of_getElem? (by simpa using h))
/-- the general call: r tells which cells are handed in -/
def dCallS (C : SC) (t : DAt) : Dt := fun g Q => t g fun ws g1 => ∃ (r : List Nat) (m0 : List Cell) (ws0 : List W), r.Nodup ∧ r.length = m0.length ∧ ups r ws0 = some ws ∧
  (∀ (i : Nat) (c : Cell), m0[i]? = some c → ∃ j c', r[i]? = some j ∧ c.up r = some c' ∧ g1.mem[j]? = some (some c')) ∧
  C ws0 m0 fun w m1 cs => ∃ w' m1' cs', w.up (r ++ (List.range cs.length).map (g1.mem.length + ·)) = some w' ∧ cups (r ++ (List.range cs.length).map (g1.mem.length + ·)) m1 = some m1' ∧ cups (r ++ (List.range cs.length).map (g1.mem.length + ·)) cs = some cs' ∧
    Q w' ⟨g1.sl, setAll g1.mem r m1' ++ cs'.map some⟩
section
variable {K : PySem.W.Frag} {τs : TA} {ts : DAt}
open Classical in
/-- the cells that are not handed in lie still -/
noncomputable def frOf (al : List Addr) (F H : Hp) (m : Sto) (r : List Nat) : Hp := fun a => if (F a).isSome = true ∨ ∃ (n : Nat) (c : Cell), m[n]? = some (some c) ∧ n ∉ r ∧ al[n]? = some a then H a else none
theorem callS_at {C : SC} {E : XK} {al1 : List Addr} {S1 F H1 : Hp} {σ : L2.St} {g1 : G} {vs : List V} {ws : List W} {Q : W → G → Prop} {QV : VK} (R1 : Rep K al1 S1 F H1 σ g1) (e1 : Paired (DenW K al1 S1) ws vs)
    (q1 : ∃ (r : List Nat) (m0 : List Cell) (ws0 : List W), r.Nodup ∧ r.length = m0.length ∧ ups r ws0 = some ws ∧
  (∀ (i : Nat) (c : Cell), m0[i]? = some c → ∃ j c', r[i]? = some j ∧ c.up r = some c' ∧ g1.mem[j]? = some (some c')) ∧
  C ws0 m0 fun w m1 cs => ∃ w' m1' cs', w.up (r ++ (List.range cs.length).map (g1.mem.length + ·)) = some w' ∧ cups (r ++ (List.range cs.length).map (g1.mem.length + ·)) m1 = some m1' ∧ cups (r ++ (List.range cs.length).map (g1.mem.length + ·)) cs = some cs' ∧
    Q w' ⟨g1.sl, setAll g1.mem r m1' ++ cs'.map some⟩)
    (k : Ct K al1 S1 F σ Q QV) : sps K C vs H1 QV E := by
  have gr1 := Grow.refl al1 S1
  obtain ⟨r, m0, ws0, nd, hl, hu, hc, q1⟩ := q1
  have lt : ∀ j ∈ r, j < g1.mem.length := fun j hj => by
    obtain ⟨i, hi⟩ := List.getElem?_of_mem hj
    have him : i < m0.length := by
      rw [← hl]
      exact (List.getElem?_eq_some_iff.mp hi).1
    obtain ⟨j', c', h1, h2, h3⟩ := hc i _ (List.getElem?_eq_getElem him)
    rw [hi] at h1; cases h1
    exact (List.getElem?_eq_some_iff.mp h3).1
  have em : Emb (alOf al1 r) al1 r := emb_of fun j hj => by rw [R1.len]; exact lt j hj
  have M0 := R1.toRepM.sub (m2 := m0) nd lt hl hc
  have hF : ∀ a u, F a = some u → frOf al1 F H1 g1.mem r a = some u := fun a u e => by
    unfold frOf
    rw [if_pos (.inl (by rw [e]; rfl))]
    exact R1.fr a u e
  have hN : ∀ a, frOf al1 F H1 g1.mem r a = none → F a = none := fun a e => by
    cases q : F a with
    | none => rfl
    | some u => rw [hF a u q] at e; cases e
  have M1 : RepM K (alOf al1 r) S1 (frOf al1 F H1 g1.mem r) H1 (m0.map some) := by
    refine ⟨M0.same, fun a u e => ?_, fun a u e => ?_, M0.len, fun n c e => ?_, M0.inj⟩
    · unfold frOf at e
      split at e
      · exact e
      · cases e
    · unfold frOf
      rw [if_neg]
      rintro (z | ⟨n, c, z1, z2, z3⟩)
      · rw [R1.dis a u e] at z; cases z
      · obtain ⟨a', o, g1', g2, g3, g4, g5⟩ := R1.cell n c z1
        rw [z3] at g1'; cases g1'
        rw [e] at g2; cases g2
    · obtain ⟨a, o, h1, h2, h3, h4, h5⟩ := M0.cell n c e
      refine ⟨a, o, h1, h2, ?_, h4, h5⟩
      unfold frOf
      rw [if_neg]
      rintro (z | ⟨n', c', z1, z2, z3⟩)
      · rw [h3] at z; cases z
      · have e' : m0[n]? = some c := by
          rw [List.getElem?_map] at e
          cases q : m0[n]? with
          | none => rw [q] at e; cases e
          | some d => rw [q] at e; cases e; rfl
        obtain ⟨j, c2, y1, y2, y3⟩ := hc n c e'
        rw [em n j y1] at h1
        have := R1.inj n' j c' c2 a z1 y3 z3 h1
        subst this
        exact z2 (List.mem_of_getElem? y1)
  refine ⟨alOf al1 r, S1, frOf al1 F H1 g1.mem r, m0, ws0, _, M1, (denWs_dn em hu).mpr e1, q1, fun al2 S2 H2 m1 cs v w M2 l2 sS d2 q2 => ?_⟩
  obtain ⟨w', m1', cs', hw, hm1, hcs, q2⟩ := q2
  have lA : (alOf al1 r).length = r.length := by unfold alOf; simp
  have l3 : al2.length = cs.length := by
    have := M2.len
    rw [List.length_append, lA, List.length_map, List.length_append, l2, hl] at this
    omega
  have em2 : Emb (alOf al1 r ++ al2) (al1 ++ al2) (r ++ (List.range cs.length).map (g1.mem.length + ·)) := by
    intro i j e
    rcases Nat.lt_or_ge i r.length with hi | hi
    · rw [List.getElem?_append_left hi] at e
      rw [List.getElem?_append_left (by rw [lA]; exact hi), em i j e, List.getElem?_append_left (by rw [R1.len]; exact lt j (List.mem_of_getElem? e))]
    · rw [List.getElem?_append_right hi, List.getElem?_map] at e
      cases q : (List.range cs.length)[i - r.length]? with
      | none => rw [q] at e; cases e
      | some z =>
        rw [q] at e
        have hz : i - r.length < cs.length := by
          have := (List.getElem?_eq_some_iff.mp q).1
          simpa using this
        rw [List.getElem?_range hz] at q
        cases q
        have e : g1.mem.length + (i - r.length) = j := Option.some.inj e
        subst e
        rw [List.getElem?_append_right (by rw [lA]; exact hi), List.getElem?_append_right (by rw [R1.len]; omega), lA, R1.len]
        congr 1
        omega
  have gr2 : Grow al1 S1 (al1 ++ al2) S2 := ⟨⟨al2, rfl⟩, sS⟩
  have lm : (setAll g1.mem r m1').length = g1.mem.length := setAll_len _ _ _
  have lm1 : r.length = m1'.length := by rw [cups_len hm1, l2, hl]
  have lcs : cs'.length = cs.length := cups_len hcs
  -- where a cell of the new store stands
  have whr : ∀ (n : Nat) (c : Cell), (setAll g1.mem r m1' ++ cs'.map some)[n]? = some (some c) → (n < g1.mem.length ∧ n ∉ r ∧ g1.mem[n]? = some (some c)) ∨ ∃ (i : Nat) (c0 : Cell), (m1 ++ cs)[i]? = some c0 ∧ c0.up (r ++ (List.range cs.length).map (g1.mem.length + ·)) = some c ∧ (r ++ (List.range cs.length).map (g1.mem.length + ·))[i]? = some n := fun n c e => by
    rcases Nat.lt_or_ge n g1.mem.length with hn | hn
    · rw [List.getElem?_append_left (by rw [lm]; exact hn)] at e
      by_cases hr : n ∈ r
      · obtain ⟨i, hi⟩ := List.getElem?_of_mem hr
        obtain ⟨c2, h1, h2⟩ := setAll_in g1.mem r m1' nd lt lm1 hi
        rw [e] at h2; cases h2
        have him : i < m1.length := by
          rw [l2, ← hl]
          exact (List.getElem?_eq_some_iff.mp hi).1
        obtain ⟨c3, h3, h4⟩ := cups_get hm1 (List.getElem?_eq_getElem him)
        rw [h1] at h3; cases h3
        refine .inr ⟨i, _, by rw [List.getElem?_append_left him]; exact List.getElem?_eq_getElem him, h4, ?_⟩
        rw [List.getElem?_append_left (List.getElem?_eq_some_iff.mp hi).1]
        exact hi
      · rw [setAll_out _ _ _ hr] at e
        exact .inl ⟨hn, hr, e⟩
    · rw [List.getElem?_append_right (by rw [lm]; exact hn), lm, List.getElem?_map] at e
      cases q : cs'[n - g1.mem.length]? with
      | none => rw [q] at e; cases e
      | some d =>
        rw [q] at e; cases e
        have hi : n - g1.mem.length < cs.length := by
          rw [← lcs]
          exact (List.getElem?_eq_some_iff.mp q).1
        obtain ⟨c3, h3, h4⟩ := cups_get hcs (List.getElem?_eq_getElem hi)
        rw [q] at h3; cases h3
        refine .inr ⟨r.length + (n - g1.mem.length), _, ?_, h4, ?_⟩
        · rw [List.getElem?_append_right (by rw [l2, ← hl]; omega), show r.length + (n - g1.mem.length) - m1.length = n - g1.mem.length by rw [l2, ← hl]; omega]
          exact List.getElem?_eq_getElem hi
        · rw [List.getElem?_append_right (by omega), show r.length + (n - g1.mem.length) - r.length = n - g1.mem.length by omega, List.getElem?_map, List.getElem?_range hi, Option.map_some]
          congr 1
          omega
  have at2 : ∀ (i : Nat) (c0 : Cell), (m1 ++ cs)[i]? = some c0 → ((m1 ++ cs).map some)[i]? = some (some c0) := fun i c0 e => by rw [List.getElem?_map, e]; rfl
  have frz : ∀ (n : Nat) (c : Cell) (a : Addr) , n ∉ r → g1.mem[n]? = some (some c) → al1[n]? = some a → ∃ o, H1 a = some o ∧ frOf al1 F H1 g1.mem r a = some o ∧ S1 a = none ∧ F a = none ∧ CellOk K al1 S1 c o := fun n c a hn e ea => by
    obtain ⟨a', o, g1', g2, g3, g4, g5⟩ := R1.cell n c e
    rw [ea] at g1'; cases g1'
    refine ⟨o, g4, ?_, g2, g3, g5⟩
    unfold frOf
    rw [if_pos (.inr ⟨n, c, e, hn, ea⟩)]
    exact g4
  have M3 : RepM K (al1 ++ al2) S2 F H2 (setAll g1.mem r m1' ++ cs'.map some) := by
    refine ⟨M2.same, fun a u e => M2.fr a u (hF a u e), fun a u e => hN a (M2.dis a u e), ?_, fun n c e => ?_, fun n n' c c' a e1 e2 e3 e4 => ?_⟩
    · rw [List.length_append, List.length_append, lm, List.length_map, lcs, R1.len, l3]
    · rcases whr n c e with ⟨hn, hr, e'⟩ | ⟨i, c0, h1, h2, h3⟩
      · have ha : ∃ a, al1[n]? = some a := ⟨_, List.getElem?_eq_getElem (by rw [R1.len]; exact hn)⟩
        obtain ⟨a, ea⟩ := ha
        obtain ⟨o, y1, y2, y3, y4, y5⟩ := frz n c a hr e' ea
        refine ⟨a, o, gr2.get ea, ?_, y4, M2.fr a o y2, y5.grow gr2⟩
        cases q : S2 a with
        | none => rfl
        | some u => have := M2.dis a u q; rw [y2] at this; cases this
      · obtain ⟨a, o, y1, y2, y3, y4, y5⟩ := M2.cell i c0 (at2 i c0 h1)
        exact ⟨a, o, by rw [← em2 i n h3]; exact y1, y2, hN a y3, y4, (cell_dn em2 h2).mp y5⟩
    · rcases whr n c e1 with ⟨hn, hr, e'⟩ | ⟨i, c0, h1, h2, h3⟩
      · have ea1 : al1[n]? = some a := by rw [List.getElem?_append_left (by rw [R1.len]; exact hn)] at e3; exact e3
        rcases whr n' c' e2 with ⟨hn', hr', e''⟩ | ⟨i, c0, h1, h2, h3⟩
        · have ea2 : al1[n']? = some a := by rw [List.getElem?_append_left (by rw [R1.len]; exact hn')] at e4; exact e4
          exact R1.inj n n' c c' a e' e'' ea1 ea2
        · obtain ⟨o, y1, y2, y3, y4, y5⟩ := frz n c a hr e' ea1
          obtain ⟨a', o', z1, z2, z3, z4, z5⟩ := M2.cell i c0 (at2 i c0 h1)
          rw [em2 i n' h3, e4] at z1; cases z1
          rw [y2] at z3; cases z3
      · rcases whr n' c' e2 with ⟨hn', hr', e''⟩ | ⟨i', c0', h1', h2', h3'⟩
        · have ea2 : al1[n']? = some a := by rw [List.getElem?_append_left (by rw [R1.len]; exact hn')] at e4; exact e4
          obtain ⟨o, y1, y2, y3, y4, y5⟩ := frz n' c' a hr' e'' ea2
          obtain ⟨a', o', z1, z2, z3, z4, z5⟩ := M2.cell i c0 (at2 i c0 h1)
          rw [em2 i n h3, e3] at z1; cases z1
          rw [y2] at z3; cases z3
        · have := M2.inj i i' c0 c0' a (at2 i c0 h1) (at2 i' c0' h1') (by rw [em2 i n h3]; exact e3) (by rw [em2 i' n' h3']; exact e4)
          subst this
          rw [h3] at h3'
          exact Option.some.inj h3'
  exact k _ _ _ _ _ w' (R1.withM2 gr2 M3) (gr1.trans gr2) ((denW_dn em2 hw).mp d2) q2
theorem der_callS {C : SC} {E : XK} (h : DAr K τs ts) : DEr K (tCall (sps K C) [] E τs) (dCallS C ts) := by
  intro al S F H σ g Q QV R q k
  refine h al S F H σ g _ _ R q fun al1 S1 H1 g1 vs ws R1 gr1 e1 q1 => ?_
  rw [List.append_nil]
  exact callS_at R1 e1 q1 (k.grow gr1)
/-! pure defs: trees in, a tree or a fresh cell out -/
inductive R0 where
  | t (x : T) | f (c : Cell)
abbrev PC := List T → (R0 → Prop) → Prop
def PC.s (C : PC) : SC := fun ws m QC => ∃ ts, treesW ws = some ts ∧ m = [] ∧ C ts fun r => match r with
  | .t t => QC (.t t) [] []
  | .f c => QC (.h 0) [] [c]
def Cell.plain : Cell → Bool
  | .lt _ => true
  | .dt _ _ => true
  | _ => false
theorem up_plain {c : Cell} (h : c.plain = true) (r : List Nat) : c.up r = some c := by
  cases c <;> first | rfl | cases h
/-- a fresh cell handed back is taken as a tree -/
def dCallT (C : PC) (t : DAt) : Dt := fun g Q => t g fun ws g1 => match treesW ws with
  | some ts => C ts fun r => match r with
    | .t t => Q (.t t) g1
    | .f c => (match c.tree with | some t => Q (.t t) g1 | none => False)
  | none => False
/-- .. as a cell -/
def dCallH (C : PC) (t : DAt) : Dt := fun g Q => t g fun ws g1 => match treesW ws with
  | some ts => C ts fun r => match r with
    | .t t => Q (.t t) g1
    | .f c => c.plain = true ∧ Q (.h g1.mem.length) (g1.push c)
  | none => False
/-- the caller's own part behind a call that was handed no cell -/
theorem RepM.back {al : List Addr} {S S' F H H' : Hp} {m : Sto} (R : RepM K al S F H m) (sS : Same S S') (h1 : Same S' H') (h2 : Same (frOf al F H m []) H') (h3 : ∀ a o, S' a = some o → frOf al F H m [] a = none) : RepM K al S' F H' m := by
  have hF : ∀ a u, F a = some u → frOf al F H m [] a = some u := fun a u e => by
    unfold frOf
    rw [if_pos (.inl (by rw [e]; rfl))]
    exact R.fr a u e
  refine ⟨h1, fun a u e => h2 a u (hF a u e), fun a u e => ?_, R.len, fun n c e => ?_, R.inj⟩
  · cases q : F a with
    | none => rfl
    | some v => have := h3 a u e; rw [hF a v q] at this; cases this
  · obtain ⟨a, o, g1, g2, g3, g4, g5⟩ := R.cell n c e
    have q : frOf al F H m [] a = some o := by
      unfold frOf
      rw [if_pos (.inr ⟨n, c, e, by simp, g1⟩)]
      exact g4
    refine ⟨a, o, g1, ?_, g3, h2 a o q, g5.grow ⟨⟨[], by simp⟩, sS⟩⟩
    cases q2 : S' a with
    | none => rfl
    | some u => have := h3 a u q2; rw [q] at this; cases this
theorem RepM.none0 {al : List Addr} {S F H : Hp} {m : Sto} (R : RepM K al S F H m) : RepM K [] S (frOf al F H m []) H (([] : List Cell).map some) := by
  refine ⟨R.same, fun a u e => ?_, fun a u e => ?_, rfl, fun n c e => by simp at e, fun n k c d a e => by simp at e⟩
  · unfold frOf at e
    split at e
    · exact e
    · cases e
  · unfold frOf
    rw [if_neg]
    rintro (z | ⟨n, c, z1, z2, z3⟩)
    · rw [R.dis a u e] at z; cases z
    · obtain ⟨a', o, g1', g2, g3, g4, g5⟩ := R.cell n c z1
      rw [z3] at g1'; cases g1'
      rw [e] at g2; cases g2
theorem treesW_eq : ∀ {ws : List W} {ts : List T}, treesW ws = some ts → ws = ts.map W.t
  | [], _, e => by cases e; rfl
  | .h n :: ws, _, e => by cases e
  | .t x :: ws, ts, e => by
    unfold treesW at e
    cases q : treesW ws with
    | none => rw [q] at e; cases e
    | some us =>
      rw [q] at e
      cases e
      rw [treesW_eq q]
      rfl
theorem denW_trees {al al' : List Addr} {S : Hp} : ∀ {ws : List W} {ts : List T} {vs : List V}, treesW ws = some ts → Paired (DenW K al S) ws vs → Paired (DenW K al' S) ws vs
  | [], _, _, _, h => by cases h; exact .nil
  | .t x :: ws, ts, vs, e, h => by
    unfold treesW at e
    cases q : treesW ws with
    | none => rw [q] at e; cases e
    | some us =>
      cases h with
      | cons h1 h2 => exact .cons h1 (denW_trees q h2)
  | .h n :: ws, ts, vs, e, h => by cases e
theorem der_callT {C : PC} {E : XK} (h : DAr K τs ts) : DEr K (tCall (sps K C.s) [] E τs) (dCallT C ts) := by
  intro al S F H σ g Q QV R q k
  refine h al S F H σ g _ _ R q fun al1 S1 H1 g1 vs ws R1 gr1 e1 q1 => ?_
  rw [List.append_nil]
  split at q1
  · rename_i us eu
    refine ⟨[], S1, frOf al1 F H1 g1.mem [], [], ws, fun w m1 cs => match w, cs with | .t t, [] => Q (.t t) g1 | .h 0, [c] => (match c.tree with | some t => Q (.t t) g1 | none => False) | _, _ => False, R1.toRepM.none0, denW_trees eu e1, ⟨us, eu, rfl, ?_⟩, fun al2 S2 H2 m1 cs v w M2 l2 sS d2 q2 => ?_⟩
    · have e : (fun r : R0 => match r with | .t t => Q (.t t) g1 | .f c => (match c.tree with | some t => Q (.t t) g1 | none => False)) = (fun r : R0 => match r with | .t t => (fun (w : W) (m1 cs : List Cell) => match w, cs with | .t t, [] => Q (.t t) g1 | .h 0, [c] => (match c.tree with | some t => Q (.t t) g1 | none => False) | _, _ => False) (.t t) [] [] | .f c => (fun (w : W) (m1 cs : List Cell) => match w, cs with | .t t, [] => Q (.t t) g1 | .h 0, [c] => (match c.tree with | some t => Q (.t t) g1 | none => False) | _, _ => False) (.h 0) [] [c]) := by
        funext r
        cases r <;> rfl
      rw [← e]
      exact q1
    · rw [List.nil_append] at M2 d2
      have lm : m1 = [] := List.length_eq_zero_iff.mp l2
      subst lm
      split at q2
      · rename_i t
        exact k _ _ _ _ _ (.t t) (R1.withM2 ⟨⟨[], by simp⟩, sS⟩ (R1.toRepM.back sS M2.same M2.fr M2.dis)) (gr1.trans ⟨⟨[], by simp⟩, sS⟩) d2 q2
      · rename_i c
        split at q2
        · rename_i t et
          obtain ⟨a, o, S3, h1, rfl, h3, M3, gr3, h4⟩ := M2.frz (n := 0) (c := c) rfl
          obtain ⟨a', ha, rfl⟩ := d2
          rw [h1] at ha; cases ha
          have dt : Den K (upd S2 a o) t (.ref a) := by
            cases c with
            | lt ts =>
              cases et
              obtain ⟨vs, rfl, h5⟩ := h3
              unfold Den
              exact ⟨a, vs, rfl, h4, Dens.iff.mpr (Denp.grow gr3.s h5)⟩
            | dt ks ts =>
              cases et
              obtain ⟨vs, rfl, h5, h6⟩ := h3
              unfold Den
              exact ⟨a, vs, rfl, h4, h5, Dens.iff.mpr (Denp.grow gr3.s h6)⟩
            | _ => cases et
          have sS' := sS.trans gr3.s
          exact k _ _ _ _ _ (.t t) (R1.withM2 ⟨⟨[], by simp⟩, sS'⟩ (R1.toRepM.back sS' M3.same M3.fr M3.dis)) (gr1.trans ⟨⟨[], by simp⟩, sS'⟩) dt q2
        · exact q2.elim
      · exact q2.elim
  · exact q1.elim
theorem der_callH {C : PC} {E : XK} (h : DAr K τs ts) : DEr K (tCall (sps K C.s) [] E τs) (dCallH C ts) := by
  intro al S F H σ g Q QV R q k
  refine h al S F H σ g _ _ R q fun al1 S1 H1 g1 vs ws R1 gr1 e1 q1 => ?_
  rw [List.append_nil]
  split at q1
  · rename_i us eu
    refine ⟨[], S1, frOf al1 F H1 g1.mem [], [], ws, fun w m1 cs => match w, cs with | .t t, [] => Q (.t t) g1 | .h 0, [c] => c.plain = true ∧ Q (.h g1.mem.length) (g1.push c) | _, _ => False, R1.toRepM.none0, denW_trees eu e1, ⟨us, eu, rfl, ?_⟩, fun al2 S2 H2 m1 cs v w M2 l2 sS d2 q2 => ?_⟩
    · have e : (fun r : R0 => match r with | .t t => Q (.t t) g1 | .f c => c.plain = true ∧ Q (.h g1.mem.length) (g1.push c)) = (fun r : R0 => match r with | .t t => (fun (w : W) (m1 cs : List Cell) => match w, cs with | .t t, [] => Q (.t t) g1 | .h 0, [c] => c.plain = true ∧ Q (.h g1.mem.length) (g1.push c) | _, _ => False) (.t t) [] [] | .f c => (fun (w : W) (m1 cs : List Cell) => match w, cs with | .t t, [] => Q (.t t) g1 | .h 0, [c] => c.plain = true ∧ Q (.h g1.mem.length) (g1.push c) | _, _ => False) (.h 0) [] [c]) := by
        funext r
        cases r <;> rfl
      rw [← e]
      exact q1
    · rw [List.nil_append] at M2 d2
      have lm : m1 = [] := List.length_eq_zero_iff.mp l2
      subst lm
      split at q2
      · rename_i t
        exact k _ _ _ _ _ (.t t) (R1.withM2 ⟨⟨[], by simp⟩, sS⟩ (R1.toRepM.back sS M2.same M2.fr M2.dis)) (gr1.trans ⟨⟨[], by simp⟩, sS⟩) d2 q2
      · rename_i c
        obtain ⟨hp, q2⟩ := q2
        obtain ⟨a, o, h1, h2, h3, h4, h5⟩ := M2.cell 0 c rfl
        obtain ⟨a', ha, rfl⟩ := d2
        rw [h1] at ha; cases ha
        have M4 := R1.toRepM.back sS M2.same M2.fr M2.dis
        have h6 : CellOk K (al1 ++ [a]) S2 c o := by
          cases c with
          | lt ts => exact h5
          | dt ks ts => exact h5
          | _ => cases hp
        have nF : F a = none := by
          cases q : F a with
          | none => rfl
          | some u =>
            unfold frOf at h3
            rw [if_pos (.inl (by rw [q]; rfl))] at h3
            have := R1.fr a u q
            rw [this] at h3; cases h3
        -- the cell as a framed thing, then a cell
        have M5 : RepM K al1 S2 (upd F a o) H2 g1.mem := by
          refine ⟨M4.same, fun b u e => ?_, fun b u e => ?_, M4.len, fun n c' e => ?_, M4.inj⟩
          · by_cases hb : b = a
            · subst hb; rw [upd_same] at e; cases e; exact h4
            · rw [upd_ne hb] at e; exact M4.fr b u e
          · rw [upd_ne (fun z => by subst z; rw [h2] at e; cases e)]; exact M4.dis b u e
          · obtain ⟨b, o', y1, y2, y3, y4, y5⟩ := M4.cell n c' e
            refine ⟨b, o', y1, y2, ?_, y4, y5⟩
            rw [upd_ne]
            · exact y3
            · intro z
              subst z
              have : frOf al1 F H1 g1.mem [] b ≠ none := by
                obtain ⟨b', o2, z1, z2, z3, z4, z5⟩ := R1.cell n c' e
                rw [y1] at z1; cases z1
                unfold frOf
                rw [if_pos (.inr ⟨n, c', e, by simp, y1⟩), z4]
                simp
              exact this h3
        obtain ⟨M6, gr6⟩ := M5.frC (c := c) nF h6
        have gr : Grow al1 S1 (al1 ++ [a]) S2 := ⟨⟨[a], rfl⟩, sS⟩
        refine k _ _ _ _ _ (.h g1.mem.length) (R1.withM2 gr M6) (gr1.trans gr) ⟨a, ?_, rfl⟩ q2
        rw [List.getElem?_append_right (by rw [R1.len]; exact Nat.le_refl _), R1.len]; simp
      · exact q2.elim
  · exact q1.elim
end
section
variable {X : Cx} {e : Expr} {es : List Expr} {τs : TA} {ts : DAt} {pos : Pos}
theorem de_callS {k : Nat} {f : Addr} {fd : FuncData} {ps : List Str} {C : SC} {x : Str} {p : Pos} (F : FnOk X.prog X.w X.K X.mg X.base CX0 k f fd ps (sps X.K C)) (hr : Room k X.A) (hm : X.mg x = some (.ref f)) (hk : PySem.W.keepIn X.K (.ref f) = true) (hb : Binds X.K fd ps [])
    (ha : DA X (e :: es) τs ts) (hg : Gl X x := by rfl) (hdb : (x == ("__debug__" : Str)) = false := by decide) (he : starEach (e :: es) X.env = (false, eval e X.env) :: starEach es X.env := by rfl) (hpl : (backTo pos (starEach es X.env)).any (·.1) = false := by rfl) :
    DE X (.Call (.Name x p) (e :: es) [] pos) (tCall (sps X.K C) [] E0 τs) (dCallS C ts) :=
  ⟨pe_call F hr hg hm hk hb .nil pass0 ha.pe hdb he hpl, der_callS ha.r⟩
theorem de_callT {k : Nat} {f : Addr} {fd : FuncData} {ps : List Str} {C : PC} {x : Str} {p : Pos} (F : FnOk X.prog X.w X.K X.mg X.base CX0 k f fd ps (sps X.K C.s)) (hr : Room k X.A) (hm : X.mg x = some (.ref f)) (hk : PySem.W.keepIn X.K (.ref f) = true) (hb : Binds X.K fd ps [])
    (ha : DA X (e :: es) τs ts) (hg : Gl X x := by rfl) (hdb : (x == ("__debug__" : Str)) = false := by decide) (he : starEach (e :: es) X.env = (false, eval e X.env) :: starEach es X.env := by rfl) (hpl : (backTo pos (starEach es X.env)).any (·.1) = false := by rfl) :
    DE X (.Call (.Name x p) (e :: es) [] pos) (tCall (sps X.K C.s) [] E0 τs) (dCallT C ts) :=
  ⟨pe_call F hr hg hm hk hb .nil pass0 ha.pe hdb he hpl, der_callT ha.r⟩
theorem de_callH {k : Nat} {f : Addr} {fd : FuncData} {ps : List Str} {C : PC} {x : Str} {p : Pos} (F : FnOk X.prog X.w X.K X.mg X.base CX0 k f fd ps (sps X.K C.s)) (hr : Room k X.A) (hm : X.mg x = some (.ref f)) (hk : PySem.W.keepIn X.K (.ref f) = true) (hb : Binds X.K fd ps [])
    (ha : DA X (e :: es) τs ts) (hg : Gl X x := by rfl) (hdb : (x == ("__debug__" : Str)) = false := by decide) (he : starEach (e :: es) X.env = (false, eval e X.env) :: starEach es X.env := by rfl) (hpl : (backTo pos (starEach es X.env)).any (·.1) = false := by rfl) :
    DE X (.Call (.Name x p) (e :: es) [] pos) (tCall (sps X.K C.s) [] E0 τs) (dCallH C ts) :=
  ⟨pe_call F hr hg hm hk hb .nil pass0 ha.pe hdb he hpl, der_callH ha.r⟩
end
/-! the ends of a pure def's body -/
def FinP (C : R0 → Prop) : W → G → Prop := fun w g => match w with
  | .t t => C (.t t)
  | .h n => match g.mem[n]? with | some (some c) => c.plain = true ∧ C (.f c) | _ => False
theorem finP_s {C : R0 → Prop} {QC : W → List Cell → List Cell → Prop} (hC : ∀ r, C r → match r with | .t t => QC (.t t) [] [] | .f c => QC (.h 0) [] [c]) {w : W} {g : G} (h : FinP C w g) : FinS 0 QC w g := by
  unfold FinP at h
  split at h
  · rename_i t
    exact ⟨[], [], [], .t t, by simp, by simp, rfl, rfl, rfl, fun i c e => by simp at e, hC _ h⟩
  · rename_i n
    split at h
    · rename_i c em
      obtain ⟨hp, h⟩ := h
      have hn : n < g.mem.length := (List.getElem?_eq_some_iff.mp em).1
      refine ⟨[n], [], [c], .h 0, by simp, by simpa using hn, rfl, rfl, rfl, fun i c' e => ?_, hC _ h⟩
      cases i with
      | zero =>
        simp at e
        subst e
        exact ⟨n, c, rfl, up_plain hp _, em⟩
      | succ i => simp at e
    · exact h.elim
section
variable {P : Program} {w : World} {K : PySem.W.Frag} {mg : Str → Option Value} {base : Heap}
/-- THE RULE for a pure def -/
theorem pfn_ok {x qual : Str} {st : Stmt} {f : Addr} {fd : FuncData} {N ps : List Str} {k : Nat} {C : PC} (Fn : Fun K x qual st f fd) (Sc : FnScope N ps (defScope st)) (hlen : ∀ ts Q, C ts Q → ts.length = ps.length)
    (hb : ∀ (cdv : Value) (A : Around) (outer : List Env) (s : Shared) (H : Hp) (E : XK), Room k (A.deeper (PyProof.Rows.envOfC qual (defScope st) s.heap.objs.size f cdv)) →
      ∃ τ t, DSs (cxOf CX0 P w K mg base N qual (defScope st) f cdv A outer s H E).nox (defBody st) τ t ∧ ∀ ts Q, C ts Q → t ⟨FinP Q (.t .non), FinP Q, fun _ => False, fun _ => False⟩ ⟨ts.map (fun t => some (W.t t)) ++ List.replicate (N.length - ts.length) none, []⟩) :
    FnOk P w K mg base CX0 (k + 1) f fd ps (sps K C.s) := by
  refine Fn.ok Sc (fun vs H Q E h => ?_) fun cdv A outer s H vs Q E hr h => ?_
  · obtain ⟨al, S, F, m0, ws, QC, _, d, ⟨ts, e, _, c⟩, _⟩ := h
    rw [← d.length, treesW_eq e, List.length_map]
    exact hlen _ _ c
  · obtain ⟨al, S, F, m0, ws, QC, M, d, ⟨ts, e, rfl, c⟩, q⟩ := h
    obtain ⟨τ, t, D, ht⟩ := hb cdv A outer s H E hr
    refine ⟨τ, D.pe, ?_⟩
    have hl : al.length = ([] : List Cell).length := by rw [M.len, List.length_map]
    have R := start_rep (N := N) M d
    have ew := treesW_eq e
    subst ew
    have hw : (ts.map W.t).map some = ts.map (fun t => some (W.t t)) := by rw [List.map_map]; rfl
    rw [hw, List.length_map] at R
    have q0 := ht ts _ c
    refine D.r al S F H _ _ _ _ R q0 ⟨fun al' S' H' σ' g' R' gr' q' => ?_, fun al' S' H' σ' g' v u R' gr' d' q' => ?_, fun _ _ _ _ _ _ _ z => z.elim, fun _ _ _ _ _ _ _ z => z.elim⟩
    · exact sps_fin (u := .t .non) (QC := QC) R' gr' hl (by unfold DenW Den; rfl) (finP_s (C := fun r => match r with | .t t => QC (.t t) [] [] | .f c => QC (.h 0) [] [c]) (fun r hr => hr) q') q
    · exact sps_fin (QC := QC) R' gr' hl d' (finP_s (C := fun r => match r with | .t t => QC (.t t) [] [] | .f c => QC (.h 0) [] [c]) (fun r hr => hr) q') q
end
end DL

namespace DL
open PySem PySem.Spec L2

section
variable {X : Cx} {a b e : Expr} {τa τb τe : TE} {ta tb te : Dt} {pos : Pos} {es : List Expr} {τs : TA} {ts : DAt}
def fNeg : F1 := fun g x Q => match x with | .t (.int i) => Q (.t (.int (-i))) g | _ => False
def fRep : F2 := fun g x y Q => match g.seqL? x, y with
  | some xs, .t (.int k) => (-(2 ^ 63) ≤ k ∧ k < 2 ^ 63 ∧ xs.length * k.toNat ≤ sizeLine) ∧ Q (.t (.lst (List.replicate k.toNat xs).flatten)) g
  | _, _ => False
theorem prep {α β : Type} {F : α → β → Prop} {xs : List α} {ys : List β} (p : Paired F xs ys) : ∀ n : Nat, Paired F (List.replicate n xs).flatten (List.replicate n ys).flatten
  | 0 => .nil
  | n + 1 => by
    rw [List.replicate_succ, List.replicate_succ, List.flatten_cons, List.flatten_cons]
    exact papp p (prep p n)
theorem op2_rep {K : PySem.W.Frag} : Op2 K rRep fRep := by
  intro al S F H σ g x y wx wy Q QV R dx dy q k
  unfold fRep at q
  split at q
  · rename_i xs z ex
    obtain ⟨a, vs, rfl, h1, h2⟩ := R.viewL dx ex
    unfold DenW Den at dy
    refine ⟨a, z, vs, rfl, dy, h1, q.1.1, q.1.2.1, by rw [← h2.length]; exact q.1.2.2, fun p np => ?_⟩
    obtain ⟨R1, gr, d⟩ := R.layL np (prep h2 z.toNat)
    exact k _ _ _ _ _ _ R1 gr d q.2
  · exact q.elim
theorem de_rep (ha : DE X a τa ta) (hb : DE X b τb tb) : DE X (.BinOp a .Mult b pos) (tOp rRep τa τb) (d2 fRep ta tb) := de_op op_rep op2_rep ha hb
/-- lists of handles put together: a new cell -/
def G.wl? (g : G) (w : W) : Option (List W) := match g.cell? w with | some (.lt ts) => some (ts.map W.t) | some (.lw ws) => some ws | _ => none
theorem Rep.viewWl {K : PySem.W.Frag} {al : List Addr} {S F H : Hp} {σ : L2.St} {g : G} (R : Rep K al S F H σ g) {w : W} {v : V} {ws : List W} (d : DenW K al S w v) (e : g.wl? w = some ws) : ∃ a vs, v = .ref a ∧ H a = some (.lst vs) ∧ Paired (DenW K al S) ws vs := by
  unfold G.wl? at e
  split at e
  · rename_i ts q
    cases e
    obtain ⟨a, o, h1, h2, vs, rfl, h3⟩ := R.view d q
    exact ⟨a, vs, h1, h2, (pmapL W.t).mpr h3⟩
  · rename_i ts q
    cases e
    obtain ⟨a, o, h1, h2, vs, rfl, h3⟩ := R.view d q
    exact ⟨a, vs, h1, h2, h3⟩
  · cases e
/-- slices as new cells -/
def dSlH (t : Dt) (l u : DOt) : Dt := fun g Q => t g fun x g1 => l g1 fun lo g2 => u g2 fun hi g3 => match g3.lq? x with
  | some ts => Q (.h g3.mem.length) (g3.push (.lt (cut ts lo hi)))
  | none => False
/-- a written dict: a new cell -/
structure DP (X : Cx) (pos : Pos) (keys : List (Option Expr)) (values : List Expr) (trs : List (TE × TE)) (ts : List (Dt × Dt)) : Prop where
  pe : PPs X pos keys values trs
  r : ∀ (al : List Addr) (S F H : Hp) (σ : L2.St) (g : G) (Q : List (Key × T) → G → Prop) (QV : List (V × V) → Hp → Prop), Rep X.K al S F H σ g → (ts.foldr (fun (p : Dt × Dt) (r : G → (List (Key × T) → G → Prop) → Prop) => fun g Q => p.1 g fun w g1 => match w with | .t kt => (match keyT kt with | some k => p.2 g1 fun w2 g2 => (match w2 with | .t x => r g2 fun ps g3 => Q ((k, x) :: ps) g3 | _ => False) | none => False) | _ => False) (fun g Q => Q [] g)) g Q →
    (∀ al' S' H' g' ps (kvs : List (Key × V)), Rep X.K al' S' F H' σ g' → Grow al S al' S' → Paired (fun (p : Key × T) (q : Key × V) => p.1 = q.1 ∧ Den X.K S' p.2 q.2) ps kvs → Q ps g' → QV (kvs.map fun kv => (kV kv.1, kv.2)) H') → tPairs trs σ H QV
/-- a, b = x, y -/
def dPar (i j : Nat) (t : DAt) : DSt := fun D g => t g fun ws g1 => match ws with | [u, v] => D.nx ((g1.set i u).set j v) | _ => False
/-- a, b = a list -/
def dgList (n : Nat) (t : DGst) : DGt := fun w g Q => match g.lq? w with | some ts => ts.length = n ∧ t ts g Q | none => False
end
/-! what stands in the module -/
structure Bi (mg : Str → Option Value) : Prop where
  h_len : mg "len" = none
  h_range : mg "range" = none
  h_sum : mg "sum" = none
  h_min : mg "min" = none
  h_max : mg "max" = none
  h_all : mg "all" = none
  h_any : mg "any" = none
  h_abs : mg "abs" = none
  h_isinstance : mg "isinstance" = none
  h_int : mg "int" = none
  h_bool : mg "bool" = none
  h_list : mg "list" = none
  h_tuple : mg "tuple" = none
  h_str : mg "str" = none
  h_dict : mg "dict" = none
  h_sorted : mg "sorted" = none
  h_zip : mg "zip" = none
  h_enumerate : mg "enumerate" = none
structure Ow (K : PySem.W.Frag) (mg : Str → Option Value) (x : Str) (st : Stmt) (ps : List Str) : Prop where
  ex : ∃ f fd, Fun K x x st f fd ∧ mg x = some (.ref f) ∧ Binds K fd ps []
structure Kn (P : Program) (w : World) (K : PySem.W.Frag) (mg : Str → Option Value) (base : Heap) (k : Nat) (x : Str) (ps : List Str) (C : SC) : Prop where
  ex : ∃ f fd, FnOk P w K mg base CX0 k f fd ps (sps K C) ∧ mg x = some (.ref f) ∧ PySem.W.keepIn K (.ref f) = true ∧ Binds K fd ps []
theorem Kn.mono {P : Program} {w : World} {K : PySem.W.Frag} {mg : Str → Option Value} {base : Heap} {j k : Nat} {x : Str} {ps : List Str} {C : SC} (h : Kn P w K mg base j x ps C) (hk : j ≤ k) : Kn P w K mg base k x ps C := by
  obtain ⟨f, fd, a, b, c, d⟩ := h.ex
  exact ⟨f, fd, a.mono hk, b, c, d⟩
end DL

namespace DL
open PySem PySem.Spec L2
section
variable {X : Cx} {a b e : Expr} {τa τb τe : TE} {ta tb te : Dt} {pos : Pos}
/-- x + y, lists into a new cell -/
def fCatH : F2 := fun g x y Q => match g.seqL? x, g.seqL? y with
  | some xs, some ys => xs.length + ys.length ≤ sizeLine ∧ Q (.h g.mem.length) (g.push (.lt (xs ++ ys)))
  | _, _ => False
def fAddH : F2 := fun g x y Q => match x with
  | .t (.int _) => fI0 (fun i j => .int (i + j)) g x y Q
  | .t (.str _) => fAddS g x y Q
  | _ => fCatH g x y Q
end
/-! readings of loops, in common forms -/
/-- a comprehension whose parts change nothing -/
theorem lcP {g1 : G} {gt : DGt} {tt : DTt} {te : Dt} {vs : List Nat} {fin : Fin3} {Q : W → G → Prop} {ws : List W} {St : G → Prop} {ι : Type} (items : List ι) (enc : ι → W) (keep : ι → Bool) (out : ι → T) (hws : ws = items.map enc) (hlen : items.length ≤ sizeLine) (hSt : St (g1.wipe vs))
    (hel : ∀ x ∈ items, ∀ (Y : W → G → Prop) (N : G → Prop), (keep x = true → ∀ g4, g4.wipe vs = g1.wipe vs → Y (.t (out x)) g4) → (keep x = false → ∀ g3, g3.wipe vs = g1.wipe vs → N g3) → gt (enc x) (g1.wipe vs) fun g2 => tt g2 fun b g3 => if b = true then te g3 Y else N g3)
    (hw : (g1.wipe vs).wipe vs = g1.wipe vs) (hQ : fin (((items.filter keep).map out).map W.t) ((g1.wipe vs).rs g1 vs) Q) :
    ∃ I : Nat → List W → G → Prop, I 0 [] (g1.wipe vs) ∧ (∀ i acc g', I i acc g' → St g' ∧ acc.length ≤ i) ∧
      (∀ i acc w g', ws[i]? = some w → I i acc g' → gt w g' fun g2 => tt g2 fun b g3 => if b = true then te g3 fun y g4 => I (i + 1) (acc ++ [y]) (g4.wipe vs) else I (i + 1) acc (g3.wipe vs)) ∧
      ws.length ≤ sizeLine ∧ (∀ acc g', I ws.length acc g' → fin acc (g'.rs g1 vs) Q) := by
  subst hws
  refine ⟨fun i acc g' => acc = ((((items.take i).filter keep).map out).map W.t) ∧ g' = g1.wipe vs, ⟨rfl, rfl⟩, ?_, ?_, by simpa using hlen, ?_⟩
  · rintro i acc g' ⟨rfl, rfl⟩
    refine ⟨hSt, ?_⟩
    rw [List.length_map, List.length_map]
    exact Nat.le_trans (List.length_filter_le _ _) (by rw [List.length_take]; exact Nat.min_le_left _ _)
  · rintro i acc w g' hw' ⟨rfl, rfl⟩
    rw [List.getElem?_map] at hw'
    cases e : items[i]? with
    | none => rw [e] at hw'; cases hw'
    | some x =>
      rw [e] at hw'
      cases hw'
      refine hel x (List.mem_of_getElem? e) _ _ (fun hk g4 h4 => ⟨?_, h4⟩) (fun hk g3 h3 => ⟨?_, h3⟩)
      · rw [List.take_add_one, e, List.filter_append, List.map_append, List.map_append]
        simp [hk]
      · rw [List.take_add_one, e, List.filter_append, List.map_append, List.map_append]
        simp [hk]
  · rintro acc g' ⟨rfl, rfl⟩
    rw [List.length_map, List.take_length]
    exact hQ
/-- a loop that goes through all its turns -/
theorem forP {D : De} {g1 : G} {gt : DGt} {tb : DSt} {ws : List W} {St : G → Prop} {ι β : Type} (items : List ι) (enc : ι → W) (step : β → ι → β) (R : β → G → Prop) (b0 : β) (hws : ws = items.map enc) (h0 : R b0 g1) (hSt : ∀ b g, R b g → St g)
    (hstep : ∀ pre x post, items = pre ++ x :: post → ∀ g', R (pre.foldl step b0) g' → ∀ N : G → Prop, (∀ g'', R (step (pre.foldl step b0) x) g'' → N g'') → gt (enc x) g' fun g2 => tb { D with nx := N, ct := N, bk := D.nx } g2)
    (hQ : ∀ g', R (items.foldl step b0) g' → D.nx g') :
    ∃ I : Nat → G → Prop, I 0 g1 ∧ (∀ i g', I i g' → St g') ∧ (∀ i w g', ws[i]? = some w → I i g' → gt w g' fun g2 => tb { D with nx := I (i + 1), ct := I (i + 1), bk := D.nx } g2) ∧ (∀ g', I ws.length g' → D.nx g') := by
  subst hws
  refine ⟨fun i g' => R ((items.take i).foldl step b0) g', h0, fun i g' h => hSt _ _ h, fun i w g' hw h => ?_, fun g' h => ?_⟩
  · rw [List.getElem?_map] at hw
    cases e : items[i]? with
    | none => rw [e] at hw; cases hw
    | some x =>
      rw [e] at hw
      cases hw
      have hi : i < items.length := (List.getElem?_eq_some_iff.mp e).1
      have hx : items[i] = x := (List.getElem?_eq_some_iff.mp e).2
      have hsp : items = items.take i ++ x :: items.drop (i + 1) := by
        rw [← hx, List.getElem_cons_drop, List.take_append_drop]
      refine hstep _ x _ hsp g' h _ fun g'' h'' => ?_
      show R (List.foldl step b0 (List.take (i + 1) items)) g''
      rw [List.take_add_one, e, List.foldl_append]
      exact h''
  · rw [List.length_map, List.take_length] at h
    exact hQ g' h
theorem rgW0 (n : Nat) : rgW 0 n = (List.range n).map fun k => W.t (.int (k : Nat)) := by
  unfold rgW
  congr 1
  funext k
  rw [Int.zero_add]
/-- places in lists -/
theorem atI_lt {α : Type} {xs : List α} {j : Nat} (h : j < xs.length) : atI xs (j : Int) = some xs[j] := atI_nat (List.getElem?_eq_getElem h)
theorem atI_map {α β : Type} (f : α → β) {xs : List α} {i : Int} {x : α} (h : atI xs i = some x) : atI (xs.map f) i = some (f x) := by
  unfold atI at h ⊢
  rw [List.length_map]
  cases e : ixN xs.length i with
  | none => rw [e] at h; cases h
  | some j =>
    rw [e] at h
    have h : xs[j]? = some x := h
    show (xs.map f)[j]? = some (f x)
    rw [List.getElem?_map, h]
    rfl
theorem atI_getD {α : Type} (d : α) {xs : List α} {j : Nat} (h : j < xs.length) : atI xs (j : Int) = some (xs.getD j d) := by
  rw [atI_lt h, List.getD_eq_getElem?_getD, List.getElem?_eq_getElem h]
  rfl
end DL

namespace DL
open PySem PySem.Spec L2
/-! what a value must be -/
def onB (w : W) (P : Bool → Prop) : Prop := match w with | .t (.bl b) => P b | _ => False
def onI (w : W) (P : Int → Prop) : Prop := match w with | .t (.int b) => P b | _ => False
def onTs (ws : List W) (P : List T → Prop) : Prop := match treesW ws with | some us => P us | none => False
def onT (r : R0) (P : T → Prop) : Prop := match r with | .t t => P t | .f c => (match c.tree with | some t => P t | none => False)
def onH (g : G) (r : R0) (Q : W → G → Prop) : Prop := match r with | .t t => Q (.t t) g | .f c => c.plain = true ∧ Q (.h g.mem.length) (g.push c)
def onI1 (ws : List W) (P : Int → Prop) : Prop := match ws with | [.t (.int j)] => P j | _ => False
def onI2 (ws : List W) (P : Int → Int → Prop) : Prop := match ws with | [.t (.int i), .t (.int j)] => P i j | _ => False
def onW2 (ws : List W) (P : W → W → Prop) : Prop := match ws with | [u, v] => P u v | _ => False
def onLq (g : G) (w : W) (P : List W → (G → Prop) → Prop) : Prop := match g.lq? w with
  | some ts => P (ts.map W.t) (fun g' => g'.lq? w = some ts)
  | none => (match g.wseq? w with | some ws => P ws (fun g' => g'.wseq? w = some ws) | none => False)
theorem o_B {b : Bool} {P : Bool → Prop} (h : P b) : onB (.t (.bl b)) P := h
theorem o_I {b : Int} {P : Int → Prop} (h : P b) : onI (.t (.int b)) P := h
theorem o_Ts {ws : List W} {us : List T} {P : List T → Prop} (e : treesW ws = some us) (h : P us) : onTs ws P := by unfold onTs; rw [e]; exact h
theorem o_T {t : T} {P : T → Prop} (h : P t) : onT (.t t) P := h
theorem o_TF {c : Cell} {t : T} {P : T → Prop} (e : c.tree = some t) (h : P t) : onT (.f c) P := by unfold onT; dsimp only; rw [e]; exact h
theorem o_H {t : T} {g : G} {Q : W → G → Prop} (h : Q (.t t) g) : onH g (.t t) Q := h
theorem o_HF {c : Cell} {g : G} {Q : W → G → Prop} (e : c.plain = true) (h : Q (.h g.mem.length) (g.push c)) : onH g (.f c) Q := ⟨e, h⟩
theorem o_I1 {j : Int} {P : Int → Prop} (h : P j) : onI1 [.t (.int j)] P := h
theorem o_I2 {i j : Int} {P : Int → Int → Prop} (h : P i j) : onI2 [.t (.int i), .t (.int j)] P := h
theorem o_W2 {u v : W} {P : W → W → Prop} (h : P u v) : onW2 [u, v] P := h
theorem o_Lq {g : G} {w : W} {us : List T} {P : List W → (G → Prop) → Prop} (e : g.lq? w = some us) (h : P (us.map W.t) (fun g' => g'.lq? w = some us)) : onLq g w P := by unfold onLq; rw [e]; exact h
section
variable {g : G} {Q : W → G → Prop} {D : De} {ta tb te : Dt} {t u : DSt} {tt tu : DTt} {ts : DAt}
/-! readings, step by step -/
theorem i_seq (h : t { D with nx := u D } g) : dSeq t u D g := h
theorem i_next (h : D.nx g) : dNext D g := h
theorem i_asg {tg : DGt} (h : te g fun w g1 => tg w g1 D.nx) : dAsg te tg D g := h
theorem i_gN {i : Nat} {w : W} {P : G → Prop} (h : P (g.set i w)) : dgN i w g P := h
theorem i_gTup {n : Nat} {us : List T} {t : DGst} {P : G → Prop} (hn : us.length = n) (h : t us g P) : dgTup n t (.t (.tup us)) g P := ⟨hn, h⟩
theorem i_gList {n : Nat} {w : W} {us : List T} {t : DGst} {P : G → Prop} (hv : g.lq? w = some us) (hn : us.length = n) (h : t us g P) : dgList n t w g P := by
  unfold dgList; rw [hv]; exact ⟨hn, h⟩
theorem i_gNil {P : G → Prop} (h : P g) : dgNil [] g P := h
theorem i_gCons {t : DGt} {us : DGst} {w : T} {r : List T} {P : G → Prop} (h : t (.t w) g fun g1 => us r g1 P) : dgCons t us (w :: r) g P := h
theorem i_ret (h : te g D.rt) : dRet te D g := h
theorem i_retN (h : D.rt (.t .non) g) : dRetN D g := h
theorem i_drop (h : te g fun _ g1 => D.nx g1) : dDrop te D g := h
theorem i_ifS (h : tt g fun b g1 => if b = true then t D g1 else u D g1) : dIfS tt t u D g := h
theorem i_if (h : tt g fun b g1 => if b = true then ta g1 Q else tb g1 Q) : dIf tt ta tb g Q := h
theorem i_B {P : Bool → G → Prop} (h : te g fun w g' => onB w fun b => P b g') : dB te g P := h
theorem i_not {P : Bool → G → Prop} (h : tt g fun c g' => P (!c) g') : dNot tt g P := h
theorem i_and {P : Bool → G → Prop} (h : tt g fun c g1 => if c = true then tu g1 P else P false g1) : dAnd tt tu g P := h
theorem i_or {P : Bool → G → Prop} (h : tt g fun c g1 => if c = true then P true g1 else tu g1 P) : dOr tt tu g P := h
theorem i_andV (h : ta g fun w g1 => onB w fun c => if c = true then tb g1 Q else Q (.t (.bl false)) g1) : dAndV ta tb g Q := h
theorem i_orV (h : ta g fun w g1 => onB w fun c => if c = true then Q (.t (.bl true)) g1 else tb g1 Q) : dOrV ta tb g Q := h
theorem i_notV (h : ta g fun w g1 => onB w fun c => Q (.t (.bl (!c))) g1) : dNotV ta g Q := h
theorem i_yes {P : Bool → G → Prop} (h : P true g) : dYes g P := h
theorem i_break (h : D.bk g) : dBreak D g := h
theorem i_cont (h : D.ct g) : dCont D g := h
theorem i_var {i : Nat} {w : W} (e : g.sl[i]? = some (some w)) (h : Q w g) : dVar i g Q := by unfold dVar; rw [e]; exact h
theorem i_frzT {i : Nat} {x : T} (e : g.sl[i]? = some (some (.t x))) (h : Q (.t x) g) : dFrz i g Q := by unfold dFrz; rw [e]; exact h
theorem i_frzH {i n : Nat} {c : Cell} {x : T} (e : g.sl[i]? = some (some (.h n))) (em : g.mem[n]? = some (some c)) (et : c.tree = some x) (h : Q (.t x) (g.frz n x)) : dFrz i g Q := by
  unfold dFrz; rw [e]; dsimp only; rw [em]; dsimp only; rw [et]; exact h
theorem i_c {x : T} (h : Q (.t x) g) : dC x g Q := h
theorem i_d2 {f : F2} (h : ta g fun x g1 => tb g1 fun y g2 => f g2 x y Q) : d2 f ta tb g Q := h
theorem i_d1 {f : F1} (h : ta g fun x g1 => f g1 x Q) : d1 f ta g Q := h
theorem i_dN {f : FN} (h : ts g fun xs g1 => f g1 xs Q) : dN f ts g Q := h
theorem i_nil {P : List W → G → Prop} (h : P [] g) : dNil g P := h
theorem i_cons {P : List W → G → Prop} (h : te g fun w g1 => ts g1 fun ws g2 => P (w :: ws) g2) : dCons te ts g P := h
theorem i_fI0 {f : Int → Int → T} {i j : Int} (h : Q (.t (f i j)) g) : fI0 f g (.t (.int i)) (.t (.int j)) Q := h
theorem i_fI {C : Int → Int → Prop} {f : Int → Int → T} {i j : Int} (hc : C i j) (h : Q (.t (f i j)) g) : fI C f g (.t (.int i)) (.t (.int j)) Q := ⟨hc, h⟩
theorem i_addI {i j : Int} (h : Q (.t (.int (i + j))) g) : fAdd g (.t (.int i)) (.t (.int j)) Q := h
theorem i_addHI {i j : Int} (h : Q (.t (.int (i + j))) g) : fAddH g (.t (.int i)) (.t (.int j)) Q := h
theorem i_addL {x y : W} {xs ys : List T} (e1 : g.seqL? x = some xs) (e2 : g.seqL? y = some ys) (hl : xs.length + ys.length ≤ sizeLine) (h : Q (.t (.lst (xs ++ ys))) g) : fAdd g x y Q := by
  unfold fAdd
  split
  · unfold G.seqL? G.cell? at e1; cases e1
  · unfold G.seqL? G.cell? at e1; cases e1
  · unfold fCat; rw [e1, e2]; exact ⟨hl, h⟩
theorem i_rep {x : W} {xs : List T} {k : Int} (e1 : g.seqL? x = some xs) (hl : -(2 ^ 63) ≤ k ∧ k < 2 ^ 63 ∧ xs.length * k.toNat ≤ sizeLine) (h : Q (.t (.lst (List.replicate k.toNat xs).flatten)) g) : fRep g x (.t (.int k)) Q := by
  unfold fRep; rw [e1]; exact ⟨hl, h⟩
theorem i_neg {i : Int} (h : Q (.t (.int (-i))) g) : fNeg g (.t (.int i)) Q := h
theorem i_ix {x : W} {us : List T} {i : Int} {v : T} (e : g.seq? x = some us) (hv : atI us i = some v) (h : Q (.t v) g) : fIx g x (.t (.int i)) Q := by
  unfold fIx; dsimp only; rw [e]; exact ⟨v, hv, h⟩
theorem i_ixW {x : W} {us : List W} {i : Int} {v : W} (e0 : g.seq? x = none) (e : g.wseq? x = some us) (hv : atI us i = some v) (h : Q v g) : fIx g x (.t (.int i)) Q := by
  unfold fIx; dsimp only; rw [e0]; dsimp only; rw [e]; exact ⟨v, hv, h⟩
theorem i_eqI {i j : Int} (h : Q (.t (.bl (decide (i = j)))) g) : fEq false g (.t (.int i)) (.t (.int j)) Q := h
theorem i_neI {i j : Int} (h : Q (.t (.bl (!decide (i = j)))) g) : fEq true g (.t (.int i)) (.t (.int j)) Q := h
theorem i_eqS {i j : Str} (h : Q (.t (.bl (decide (i = j)))) g) : fEq false g (.t (.str i)) (.t (.str j)) Q := h
theorem i_eqT {x y : W} {u v : T} (e1 : g.tree? x = some u) (e2 : g.tree? y = some v) (h1 : u.sh 8 = true) (h2 : v.sh 8 = true) (h : Q (.t (.bl (teq u v))) g) : fEq false g x y Q := by
  unfold fEq
  split
  · cases e1; cases e2
    rename_i i j
    have : teq (.int i) (.int j) = decide (i = j) := by unfold teq; simp only [T.pd, PyData.eqv]; rw [Bool.beq_eq_decide_eq]
    rw [this] at h; exact h
  · cases e1; cases e2
    rename_i i j
    have : teq (.str i) (.str j) = decide (i = j) := by unfold teq; simp only [T.pd, PyData.eqv]; rw [Bool.beq_eq_decide_eq]
    rw [this] at h; exact h
  · rw [e1, e2]; exact ⟨h1, h2, h⟩
theorem i_neT {x y : W} {u v : T} (e1 : g.tree? x = some u) (e2 : g.tree? y = some v) (h1 : u.sh 8 = true) (h2 : v.sh 8 = true) (h : Q (.t (.bl (!teq u v))) g) : fEq true g x y Q := by
  unfold fEq
  split
  · cases e1; cases e2
    rename_i i j
    have : teq (.int i) (.int j) = decide (i = j) := by unfold teq; simp only [T.pd, PyData.eqv]; rw [Bool.beq_eq_decide_eq]
    rw [this] at h; exact h
  · cases e1; cases e2
    rename_i i j
    have : teq (.str i) (.str j) = decide (i = j) := by unfold teq; simp only [T.pd, PyData.eqv]; rw [Bool.beq_eq_decide_eq]
    rw [this] at h; exact h
  · rw [e1, e2]; exact ⟨h1, h2, h⟩
theorem i_in {x : T} {y : W} {us : List T} (e : g.seq? y = some us) (h1 : x.flat.isSome = true) (h2 : ∀ t ∈ us, t.flat.isSome = true) (h : Q (.t (.bl (inT x us))) g) : fIn false g (.t x) y Q := by
  unfold fIn; dsimp only; rw [e]; exact ⟨h1, h2, h⟩
theorem i_din {x : T} {y : W} {k : Key} {ks : List Key} {us : List T} (ek : keyT x = some k) (e : g.dct? y = some (ks, us)) (h : Q (.t (.bl (look ks us k).isSome)) g) : fDin false g (.t x) y Q := by
  unfold fDin; dsimp only; rw [ek]; dsimp only; rw [e]; exact h
theorem i_dnotin {x : T} {y : W} {k : Key} {ks : List Key} {us : List T} (ek : keyT x = some k) (e : g.dct? y = some (ks, us)) (h : Q (.t (.bl (!(look ks us k).isSome))) g) : fDin true g (.t x) y Q := by
  unfold fDin; dsimp only; rw [ek]; dsimp only; rw [e]; exact h
theorem i_len {w : W} {n : Nat} (e : g.len? w = some n) (h : Q (.t (.int n)) g) : fLen g [w] Q := by
  unfold fLen; dsimp only; rw [e]; exact h
theorem i_sum {w : W} {ns : List Int} (e : g.lq? w = some (ns.map T.int)) (h : Q (.t (.int ns.sum)) g) : fSum g [w] Q := ⟨ns, e, h⟩
theorem i_min2 {i j : Int} (h : Q (.t (.int (if j < i then j else i))) g) : fMin g [.t (.int i), .t (.int j)] Q := h
theorem i_max2 {i j : Int} (h : Q (.t (.int (if j > i then j else i))) g) : fMax g [.t (.int i), .t (.int j)] Q := h
theorem i_all {w : W} {ns : List Bool} (e : g.lq? w = some (ns.map T.bl)) (h : Q (.t (.bl (ns.all id))) g) : fAll g [w] Q := ⟨ns, e, h⟩
theorem i_intI {i : Int} (h : Q (.t (.int i)) g) : fInt g [.t (.int i)] Q := h
theorem i_intB {b : Bool} (h : Q (.t (.int (if b then 1 else 0))) g) : fInt g [.t (.bl b)] Q := h
theorem i_isi {w : W} {c a : String} {b : Bool} (e : g.tyN w = some a) (eb : kitB a c = some b) (h : Q (.t (.bl b)) g) : fIsi g [w, .t (.raw (.ty c))] Q := by
  unfold fIsi; dsimp only; rw [e]; dsimp only; rw [eb]; exact h
theorem i_listOf {w : W} {us : List T} (e : g.seq? w = some us) (h : Q (.t (.lst us)) g) : fListOf g [w] Q := by unfold fListOf; dsimp only; rw [e]; exact h
theorem i_listOfH {w : W} {us : List T} (e : g.seq? w = some us) (h : Q (.h g.mem.length) (g.push (.lt us))) : fListOfH g [w] Q := by unfold fListOfH; dsimp only; rw [e]; exact h
theorem i_R1 {P : Int → Int → G → Prop} (h : te g fun w g' => onI w fun n => P 0 n g') : dR1 te g P := h
theorem i_listRg {tr : G → (Int → Int → G → Prop) → Prop} (h : tr g fun i j g' => RgOk i j ∧ Q (.t (.lst (rgT i j))) g') : dLstRg tr g Q := h
theorem i_listRgH {tr : G → (Int → Int → G → Prop) → Prop} (h : tr g fun i j g' => RgOk i j ∧ Q (.h g'.mem.length) (g'.push (.lt (rgT i j)))) : dLstRgH tr g Q := h
theorem i_tup (h : ts g fun ws g1 => onTs ws fun us => ws.length ≤ sizeLine ∧ Q (.t (.tup us)) g1) : dTup ts g Q := h
theorem i_lst (h : ts g fun ws g1 => onTs ws fun us => ws.length ≤ sizeLine ∧ Q (.t (.lst us)) g1) : dLst ts g Q := h
theorem i_lstH (h : ts g fun ws g1 => onTs ws fun us => ws.length ≤ sizeLine ∧ Q (.h g1.mem.length) (g1.push (.lt us))) : dLstH ts g Q := h
theorem i_lstW (h : ts g fun ws g1 => ws.length ≤ sizeLine ∧ Q (.h g1.mem.length) (g1.push (.lw ws))) : dLstW ts g Q := h
def onCut (g : G) (x : W) (lo hi : Option Int) (Q : W → G → Prop) : Prop := match g.seq? x with
  | some ts => (match x with | .t (.tup _) => False | _ => Q (.t (.lst (cut ts lo hi))) g)
  | none => False
theorem i_sl {t : Dt} {l u : DOt} (h : t g fun x g1 => l g1 fun lo g2 => u g2 fun hi g3 => onCut g3 x lo hi Q) : dSl t l u g Q := h
theorem o_cut {x : W} {lo hi : Option Int} {us : List T} (e : g.lq? x = some us) (h : Q (.t (.lst (cut us lo hi))) g) : onCut g x lo hi Q := by
  unfold onCut
  have e2 : g.seq? x = some us ∧ ∀ vs, x ≠ .t (.tup vs) := by
    unfold G.lq? at e
    split at e
    · cases e; exact ⟨rfl, fun vs z => by cases z⟩
    · refine ⟨?_, fun vs z => by subst z; unfold G.seqL? G.cell? at e; cases e⟩
      unfold G.seq?
      split
      · unfold G.seqL? G.cell? at e; cases e
      · unfold G.seqL? G.cell? at e; cases e
      · exact e
  rw [e2.1]
  dsimp only
  split
  · rename_i vs; exact absurd rfl (e2.2 vs)
  · exact h
def onCutH (g : G) (x : W) (lo hi : Option Int) (Q : W → G → Prop) : Prop := match g.lq? x with
  | some ts => Q (.h g.mem.length) (g.push (.lt (cut ts lo hi)))
  | none => False
theorem i_slH {t : Dt} {l u : DOt} (h : t g fun x g1 => l g1 fun lo g2 => u g2 fun hi g3 => onCutH g3 x lo hi Q) : dSlH t l u g Q := h
theorem i_noPart {P : Option Int → G → Prop} (h : P none g) : dNoPart g P := h
theorem i_part {P : Option Int → G → Prop} (h : te g fun w g' => onI w fun i => P (some i) g') : dPart te g P := h
theorem i_newD (h : Q (.h g.mem.length) (g.push (.dt [] []))) : dNewD g Q := h
/-! methods -/
theorem i_M0 {f : FM} (h : ta g fun x g1 => isL g1 x ∧ f g1 x [] Q) : dM0 f ta g Q := h
theorem i_M {f : FM} (h : ta g fun x g1 => isL g1 x ∧ ts g1 fun ws g2 => f g2 x ws Q) : dM f ta ts g Q := h
theorem isL_lt {n : Nat} {us : List T} (e : g.mem[n]? = some (some (.lt us))) : isL g (.h n) := by
  unfold isL G.lq? G.seqL? G.cell?; dsimp only; rw [e]; trivial
theorem i_append {n : Nat} {us : List T} {x : T} (e : g.mem[n]? = some (some (.lt us))) (hl : us.length < sizeLine) (h : Q (.t .non) (g.put n (.lt (us ++ [x])))) : fAppend g (.h n) [.t x] Q := by
  unfold fAppend; dsimp only; rw [e]; exact ⟨hl, h⟩
theorem i_pop {n : Nat} {us : List T} {x : T} (e : g.mem[n]? = some (some (.lt us))) (hx : us[us.length - 1]? = some x) (h : Q (.t x) (g.put n (.lt us.dropLast))) : fPop g (.h n) [] Q := by
  unfold fPop; dsimp only; rw [e]; exact ⟨x, hx, h⟩
/-! stores -/
def dgPut (o i w : W) (g2 : G) (P : G → Prop) : Prop := match o, i with
  | .h n, .t (.int z) => (match g2.mem[n]? with
    | some (some (.lt ts)) => (match w with | .t tw => ∃ j, ixN ts.length z = some j ∧ P (g2.put n (.lt (ts.set j tw))) | _ => False)
    | some (some (.lw us)) => ∃ j, ixN us.length z = some j ∧ P (g2.put n (.lw (us.set j w)))
    | _ => False)
  | _, _ => False
theorem i_gSub {to ti : Dt} {w : W} {P : G → Prop} (h : to g fun o g1 => ti g1 fun i g2 => dgPut o i w g2 P) : dgSub to ti w g P := h
def onDput (o y w : W) (g3 : G) (P : G → Prop) : Prop := match o, y with
  | .h n, .t ky => (match keyT ky with
    | some k => (match g3.mem[n]? with
      | some (some (.dt ks ts)) => (match w with | .t tw => ks.length < sizeLine ∧ P (g3.put n (.dt (putKs ks k) (putXs ks ts k tw))) | _ => False)
      | some (some (.dw ks us)) => ks.length < sizeLine ∧ P (g3.put n (.dw (putKs ks k) (putXs ks us k w)))
      | _ => False)
    | none => False)
  | _, _ => False
theorem i_dput {td ty tv : Dt} (h : tv g fun w g1 => td g1 fun o g2 => ty g2 fun y g3 => onDput o y w g3 D.nx) : dDput td ty tv D g := h
theorem o_dput {n : Nat} {ky x : T} {k : Key} {ks : List Key} {us : List T} {P : G → Prop} (ek : keyT ky = some k) (e : g.mem[n]? = some (some (.dt ks us))) (hl : ks.length < sizeLine) (h : P (g.put n (.dt (putKs ks k) (putXs ks us k x)))) : onDput (.h n) (.t ky) (.t x) g P := by
  unfold onDput; dsimp only; rw [ek]; dsimp only; rw [e]; exact ⟨hl, h⟩
theorem i_par {i j : Nat} (h : ts g fun ws g1 => onW2 ws fun u v => D.nx ((g1.set i u).set j v)) : dPar i j ts D g := h
theorem i_aug {i : Nat} {f : Int → Int → Int} {z : Int} (e : g.sl[i]? = some (some (.t (.int z)))) (h : te g fun w g1 => onI w fun b => D.nx (g1.set i (.t (.int (f z b))))) : dAug i f te D g := by unfold dAug; rw [e]; exact h
/-! calls -/
theorem i_callT {C : PC} (h : ts g fun ws g1 => onTs ws fun us => C us fun r => onT r fun t => Q (.t t) g1) : dCallT C ts g Q := h
theorem i_callH {C : PC} (h : ts g fun ws g1 => onTs ws fun us => C us fun r => onH g1 r Q) : dCallH C ts g Q := h
/-! loops -/
def lcI (fin : Fin3) (ws : List W) (St : G → Prop) (g1 : G) (gt : DGt) (tt : DTt) (te : Dt) (vs : List Nat) (Q : W → G → Prop) : Prop := ∃ I : Nat → List W → G → Prop, I 0 [] (g1.wipe vs) ∧ (∀ i acc g', I i acc g' → St g' ∧ acc.length ≤ i) ∧
  (∀ i acc w g', ws[i]? = some w → I i acc g' → gt w g' fun g2 => tt g2 fun b g3 => if b = true then te g3 fun y g4 => I (i + 1) (acc ++ [y]) (g4.wipe vs) else I (i + 1) acc (g3.wipe vs)) ∧
  ws.length ≤ sizeLine ∧ (∀ acc g', I ws.length acc g' → fin acc (g'.rs g1 vs) Q)
theorem i_lc {fin : Fin3} {it : DIt} {gt : DGt} {vs : List Nat} (h : it g fun ws St g1 => lcI fin ws St g1 gt tt te vs Q) : dLc fin it gt tt te vs g Q := h
def forI (ws : List W) (St : G → Prop) (g1 : G) (gt : DGt) (tb : DSt) (D : De) : Prop := ∃ I : Nat → G → Prop, I 0 g1 ∧ (∀ i g', I i g' → St g') ∧
  (∀ i w g', ws[i]? = some w → I i g' → gt w g' fun g2 => tb { D with nx := I (i + 1), ct := I (i + 1), bk := D.nx } g2) ∧ (∀ g', I ws.length g' → D.nx g')
theorem i_for {it : DIt} {gt : DGt} (h : it g fun ws St g1 => forI ws St g1 gt t D) : dFor it gt t D g := h
def whI (tt : DTt) (t : DSt) (g : G) (D : De) : Prop := ∃ I : Nat → G → Prop, (∃ m, I m g) ∧ ∀ m g', I m g' → tt g' fun b g1 => if b = true then t { D with nx := fun g2 => ∃ m', m' < m ∧ I m' g2, ct := fun g2 => ∃ m', m' < m ∧ I m' g2, bk := D.nx } g1 else D.nx g1
theorem i_while (h : whI tt t g D) : dWhile tt t D g := h
theorem i_itL {P : List W → (G → Prop) → G → Prop} (h : te g fun w g1 => onLq g1 w fun ws St => P ws St g1) : diL te g P := h
theorem i_itR1 {P : List W → (G → Prop) → G → Prop} (h : ts g fun ws g1 => onI1 ws fun j => (-(2 ^ 62) ≤ j ∧ j < 2 ^ 62) ∧ P (rgW 0 j.toNat) (fun _ => True) g1) : diR1 ts g P := h
theorem i_itR2 {P : List W → (G → Prop) → G → Prop} (h : ts g fun ws g1 => onI2 ws fun i j => (-(2 ^ 62) ≤ i ∧ i < 2 ^ 62 ∧ -(2 ^ 62) ≤ j ∧ j < 2 ^ 62) ∧ P (rgW i (j - i).toNat) (fun _ => True) g1) : diR2 ts g P := h
theorem i_finH {us : List T} (h : Q (.h g.mem.length) (g.push (.lt us))) : finH (us.map W.t) g Q := ⟨us, rfl, h⟩
theorem i_finT {us : List T} (h : Q (.t (.lst us)) g) : finT (us.map W.t) g Q := ⟨us, rfl, h⟩
/-! known tests -/
theorem k_T {A B : Prop} (h : A) : if true = true then A else B := by rw [if_pos rfl]; exact h
theorem k_F {A B : Prop} (h : B) : if false = true then A else B := by rw [if_neg Bool.false_ne_true]; exact h
theorem k_True {A B : Prop} (h : A) : if True then A else B := by rw [if_pos trivial]; exact h
theorem k_False {A B : Prop} (h : B) : if False then A else B := by rw [if_neg id]; exact h
theorem k_dT {c A B : Prop} [Decidable c] (hc : c) (h : A) : if decide c = true then A else B := by rw [if_pos (decide_eq_true hc)]; exact h
theorem k_dF {c A B : Prop} [Decidable c] (hc : ¬ c) (h : B) : if decide c = true then A else B := by rw [if_neg (by simpa using hc)]; exact h
theorem k_nT {c A B : Prop} [Decidable c] (hc : ¬ c) (h : A) : if (!decide c) = true then A else B := by rw [if_pos (by simpa using hc)]; exact h
theorem k_nF {c A B : Prop} [Decidable c] (hc : c) (h : B) : if (!decide c) = true then A else B := by rw [if_neg (by simpa using hc)]; exact h
theorem k_d {c A B : Prop} [Decidable c] (h1 : c → A) (h2 : ¬ c → B) : if decide c = true then A else B := by
  by_cases h : c
  · exact k_dT h (h1 h)
  · exact k_dF h (h2 h)
theorem k_n {c A B : Prop} [Decidable c] (h1 : ¬ c → A) (h2 : c → B) : if (!decide c) = true then A else B := by
  by_cases h : c
  · exact k_nF h (h2 h)
  · exact k_nT h (h1 h)
/-! ends -/
theorem e_t {C : R0 → Prop} {x : T} {g : G} (h : C (.t x)) : FinP C (.t x) g := h
theorem e_h {C : R0 → Prop} {n : Nat} {c : Cell} {g : G} (e : g.mem[n]? = some (some c)) (hp : c.plain = true) (h : C (.f c)) : FinP C (.h n) g := by
  unfold FinP; dsimp only; rw [e]; exact ⟨hp, h⟩
end
end DL

namespace DL
open PySem PySem.Spec L2
/-! a, b = a list that holds handles -/
abbrev DGwt := List W → G → (G → Prop) → Prop
structure DGw (X : Cx) (tg : List Expr) (τ : TGs) (t : DGwt) : Prop where
  pe : PGs X tg τ
  r : ∀ (al : List Addr) (S F H : Hp) (σ : L2.St) (g : G) (vs : List V) (ws : List W) (Q : G → Prop) (QV : L2.St → Hp → Prop), Rep X.K al S F H σ g → Paired (DenW X.K al S) ws vs → t ws g Q →
    (∀ al' S' H' σ' g', Rep X.K al' S' F H' σ' g' → Grow al S al' S' → Q g' → QV σ' H') → τ vs σ H QV
def dgwNil : DGwt := fun ws g Q => match ws with | [] => Q g | _ => False
def dgwCons (t : DGt) (u : DGwt) : DGwt := fun ws g Q => match ws with | w :: r => t w g fun g1 => u r g1 Q | _ => False
section
variable {X : Cx}
theorem dgw_nil : DGw X [] gNil dgwNil := by
  refine ⟨pgs_nil, fun al S F H σ g vs ws Q QV R d q k => ?_⟩
  cases d with
  | nil => exact ⟨rfl, k _ _ _ _ _ R (Grow.refl _ _) q⟩
  | cons _ _ => exact q.elim
theorem dgw_cons {e : Expr} {es : List Expr} {τ1 : TG} {t1 : DGt} {τ2 : TGs} {t2 : DGwt} (h1 : DG X e τ1 t1) (h2 : DGw X es τ2 t2)
    (hs : (assignEach (e :: es) X.env).map (·.2) = assign e X.env :: (assignEach es X.env).map (·.2) := by rfl) : DGw X (e :: es) (gCons τ1 τ2) (dgwCons t1 t2) := by
  refine ⟨pgs_cons h1.pe h2.pe hs, fun al S F H σ g vs ws Q QV R d q k => ?_⟩
  cases d with
  | nil => exact q.elim
  | cons d1 d2 =>
    refine ⟨_, _, rfl, ?_⟩
    refine h1.r al S F H σ g _ _ _ _ R d1 q fun al1 S1 H1 σ1 g1 R1 gr1 q1 => ?_
    exact h2.r al1 S1 F H1 σ1 g1 _ _ Q QV R1 (DenWs.grow gr1 d2) q1 fun al2 S2 H2 σ2 g2 R2 gr2 q2 => k _ _ _ _ _ R2 (gr1.trans gr2) q2
def dgUnw (n : Nat) (t : DGwt) : DGt := fun w g Q => match g.wseq? w with | some ts => ts.length = n ∧ t ts g Q | none => False
end
theorem i_unw {g : G} {n : Nat} {w : W} {us : List W} {t : DGwt} {P : G → Prop} (hv : g.wseq? w = some us) (hn : us.length = n) (h : t us g P) : dgUnw n t w g P := by
  unfold dgUnw; rw [hv]; exact ⟨hn, h⟩
theorem i_gwNil {g : G} {P : G → Prop} (h : P g) : dgwNil [] g P := h
theorem i_gwCons {g : G} {t : DGt} {us : DGwt} {w : W} {r : List W} {P : G → Prop} (h : t w g fun g1 => us r g1 P) : dgwCons t us (w :: r) g P := h
/-! cells at handles, by what the store holds there -/
section
variable {g : G} {Q : W → G → Prop} {n : Nat}
theorem cell_h {c : Cell} (em : g.mem[n]? = some (some c)) : g.cell? (.h n) = some c := by unfold G.cell?; dsimp only; rw [em]
theorem seq_h {us : List T} (em : g.mem[n]? = some (some (.lt us))) : g.seq? (.h n) = some us := by unfold G.seq? G.seqL?; dsimp only; rw [cell_h em]
theorem seq_hw {us : List W} (em : g.mem[n]? = some (some (.lw us))) : g.seq? (.h n) = none := by unfold G.seq? G.seqL?; dsimp only; rw [cell_h em]
theorem wseq_h {us : List W} (em : g.mem[n]? = some (some (.lw us))) : g.wseq? (.h n) = some us := by unfold G.wseq?; rw [cell_h em]
theorem len_h {us : List T} (em : g.mem[n]? = some (some (.lt us))) : g.len? (.h n) = some us.length := by unfold G.len?; dsimp only; rw [em]
theorem len_hw {us : List W} (em : g.mem[n]? = some (some (.lw us))) : g.len? (.h n) = some us.length := by unfold G.len?; dsimp only; rw [em]
theorem i_ixHW {us : List W} {i : Int} {v : W} (em : g.mem[n]? = some (some (.lw us))) (hv : atI us i = some v) (h : Q v g) : fIx g (.h n) (.t (.int i)) Q := i_ixW (seq_hw em) (wseq_h em) hv h
theorem i_ixHT {us : List T} {i : Int} {v : T} (em : g.mem[n]? = some (some (.lt us))) (hv : atI us i = some v) (h : Q (.t v) g) : fIx g (.h n) (.t (.int i)) Q := i_ix (seq_h em) hv h
theorem i_lenHW {us : List W} (em : g.mem[n]? = some (some (.lw us))) (h : Q (.t (.int us.length)) g) : fLen g [.h n] Q := i_len (len_hw em) h
theorem i_lenHT {us : List T} (em : g.mem[n]? = some (some (.lt us))) (h : Q (.t (.int us.length)) g) : fLen g [.h n] Q := i_len (len_h em) h
end
/-! calls that are handed cells -/
def callS (C : SC) (ws : List W) (g1 : G) (Q : W → G → Prop) : Prop := ∃ (r : List Nat) (m0 : List Cell) (ws0 : List W), r.Nodup ∧ r.length = m0.length ∧ ups r ws0 = some ws ∧
  (∀ (i : Nat) (c : Cell), m0[i]? = some c → ∃ j c', r[i]? = some j ∧ c.up r = some c' ∧ g1.mem[j]? = some (some c')) ∧
  C ws0 m0 fun w m1 cs => ∃ w' m1' cs', w.up (r ++ (List.range cs.length).map (g1.mem.length + ·)) = some w' ∧ cups (r ++ (List.range cs.length).map (g1.mem.length + ·)) m1 = some m1' ∧ cups (r ++ (List.range cs.length).map (g1.mem.length + ·)) cs = some cs' ∧
    Q w' ⟨g1.sl, setAll g1.mem r m1' ++ cs'.map some⟩
theorem i_callS {C : SC} {ts : DAt} {g : G} {Q : W → G → Prop} (h : ts g fun ws g1 => callS C ws g1 Q) : dCallS C ts g Q := h
/-! ends of defs that were handed cells -/
theorem fin_s {n0 : Nat} {QC : W → List Cell → List Cell → Prop} {w : W} {g : G} (ks : List Nat) (m1 cs : List Cell) (w' : W) (nd : (List.range n0 ++ ks).Nodup) (lt : ∀ j ∈ List.range n0 ++ ks, j < g.mem.length) (hw : w'.up (List.range n0 ++ ks) = some w) (l1 : m1.length = n0) (l2 : cs.length = ks.length)
    (hc : ∀ (i : Nat) (c' : Cell), (m1 ++ cs)[i]? = some c' → ∃ j c, (List.range n0 ++ ks)[i]? = some j ∧ c'.up (List.range n0 ++ ks) = some c ∧ g.mem[j]? = some (some c)) (q : QC w' m1 cs) : FinS n0 QC w g :=
  ⟨ks, m1, cs, w', nd, lt, hw, l1, l2, hc, q⟩
/-! a purse: its list at handle 0, its cells at handle 1 -/
def purse (turn : Nat) (cells : List Int) : List Cell := [.lw [.h 1, .t (.int turn)], .lt (cells.map T.int)]
def purseM (turn : Nat) (cells : List Int) : Sto := [some (.lw [.h 1, .t (.int turn)]), some (.lt (cells.map T.int))]
theorem purse_set2 {t : Nat} {c : List Int} {m : Sto} {v : Option Cell} : (purseM t c ++ m).set 2 v = purseM t c ++ m.set 0 v := rfl
theorem purse_set3 {t : Nat} {c : List Int} {m : Sto} {v : Option Cell} : (purseM t c ++ m).set 3 v = purseM t c ++ m.set 1 v := rfl
theorem purse_set4 {t : Nat} {c : List Int} {m : Sto} {v : Option Cell} : (purseM t c ++ m).set 4 v = purseM t c ++ m.set 2 v := rfl
theorem purse_set5 {t : Nat} {c : List Int} {m : Sto} {v : Option Cell} : (purseM t c ++ m).set 5 v = purseM t c ++ m.set 3 v := rfl
theorem purse_app {t : Nat} {c : List Int} {m l : Sto} : (purseM t c ++ m) ++ l = purseM t c ++ (m ++ l) := List.append_assoc _ _ _
theorem purse_len {t : Nat} {c : List Int} {m : Sto} : (purseM t c ++ m).length = m.length + 2 := by rw [List.length_append]; show 2 + m.length = _; omega
theorem purse_start {t : Nat} {c : List Int} : (purse t c).map some = purseM t c ++ [] := rfl
theorem purse_l {t : Nat} {c : List Int} : (purse t c).length = 2 := rfl
end DL

namespace DL
open PySem PySem.Spec L2
/-! comprehensions whose parts' walks may differ from block to block -/
section
variable {X : Cx} {pos : Pos} {tg iter elt : Expr} {ifs : List Expr} {scope : Scope} {own : List (Str × Nat)} {wi : TI} {it : DIt} {gt : DGt} {tt : DTt} {te : Dt} {fin : Fin3}
abbrev BlkAll (X : Cx) (scope : Scope) (P : Cx → Prop) : Prop := ∀ (s : Shared) (H : Hp) (C : Addr) (cl : List (Str × Addr)) (fp : List Addr), P (X.blk s H scope (compEnvC scope cl C X.env) fp)
def uG (h : BlkAll X scope fun Y => ∃ τ, CG Y tg τ gt (own.map (·.2))) : TG := fun v σ H Q => ∀ s H0 C cl fp, (Classical.choose (h s H0 C cl fp)) v σ H Q
def uT (h : BlkAll X scope fun Y => ∃ τ, DTs Y ifs τ tt) : TT := fun σ H Q => ∀ s H0 C cl fp, (Classical.choose (h s H0 C cl fp)) σ H Q
def uE (h : BlkAll X scope fun Y => ∃ τ, DE Y elt τ te) : TE := fun σ H Q => ∀ s H0 C cl fp, (Classical.choose (h s H0 C cl fp)) σ H Q
theorem uG_ok (h : BlkAll X scope fun Y => ∃ τ, CG Y tg τ gt (own.map (·.2))) : BlkAll X scope fun Y => CG Y tg (uG h) gt (own.map (·.2)) := fun s H C cl fp =>
  ⟨⟨fun pins s1 σ H1 v u Q I r q => (Classical.choose_spec (h s H C cl fp)).pe.run pins s1 σ H1 v u Q I r (q s H C cl fp)⟩,
    fun al S F H1 σ g v w Q QV R d q k s2 H2 C2 cl2 fp2 => (Classical.choose_spec (h s2 H2 C2 cl2 fp2)).r al S F H1 σ g v w Q QV R d q k⟩
theorem uT_ok (h : BlkAll X scope fun Y => ∃ τ, DTs Y ifs τ tt) : BlkAll X scope fun Y => DTs Y ifs (uT h) tt := fun s H C cl fp =>
  ⟨⟨fun pins s1 σ H1 Q I q => (Classical.choose_spec (h s H C cl fp)).pe.run pins s1 σ H1 Q I (q s H C cl fp)⟩,
    fun al S F H1 σ g Q QV R q k s2 H2 C2 cl2 fp2 => (Classical.choose_spec (h s2 H2 C2 cl2 fp2)).r al S F H1 σ g Q QV R q k⟩
theorem uE_ok (h : BlkAll X scope fun Y => ∃ τ, DE Y elt τ te) : BlkAll X scope fun Y => DE Y elt (uE h) te := fun s H C cl fp =>
  ⟨⟨fun pins s1 σ H1 Q I q => (Classical.choose_spec (h s H C cl fp)).pe.run pins s1 σ H1 Q I (q s H C cl fp)⟩,
    fun al S F H1 σ g Q QV R q k s2 H2 C2 cl2 fp2 => (Classical.choose_spec (h s2 H2 C2 cl2 fp2)).r al S F H1 σ g Q QV R q k⟩
theorem de_lcU (hf : FinOk X.K fin) (hc : X.calm = true) (hN : X.N.Nodup) (hi : DI X tg iter wi it) (ok : BlkOk X.N X.env.scope scope own)
    (hg : BlkAll X scope fun Y => ∃ τ, CG Y tg τ gt (own.map (·.2))) (ht : BlkAll X scope fun Y => ∃ τ, DTs Y ifs τ tt) (he : BlkAll X scope fun Y => ∃ τ, DE Y elt τ te) (s0 : Shared) (hs : ∀ x, foldedSetIterable iter X.env x = pure x := by intro _; rfl) :
    DE X (.ListComp elt [⟨tg, iter, ifs, 0⟩] scope pos) (tLc wi (uG hg) (uT ht) (uE he) (own.map (·.2))) (dLc fin it gt tt te (own.map (·.2))) :=
  de_lc hf hc hN hi ok (uG_ok hg) (uT_ok ht) (uE_ok he) s0 hs
theorem ds_setLcU (i : Nat) {y : Str} {py spos : Pos} (hf : FinOk X.K fin) (hc : X.calm = true) (hN : X.N.Nodup) (hi : DI X tg iter wi it) (ok : BlkOk X.N X.env.scope scope own)
    (hg : BlkAll X scope fun Y => ∃ τ, CG Y tg τ gt (own.map (·.2))) (ht : BlkAll X scope fun Y => ∃ τ, DTs Y ifs τ tt) (he : BlkAll X scope fun Y => ∃ τ, DE Y elt τ te) (s0 : Shared) (hy : X.N[i]? = some y := by rfl) (hyl : X.env.scope.names.lookup y = some .local := by rfl)
    (hsw : swapsWith (.ListComp elt [⟨tg, iter, ifs, 0⟩] scope pos) (some (.Name y py)) spos.line X.env = pure true := by exact sw_true rfl rfl rfl (by decide +kernel)) (hs : ∀ x, foldedSetIterable iter X.env x = pure x := by intro _; rfl) :
    DS X (.Assign [.Name y py] (.ListComp elt [⟨tg, iter, ifs, 0⟩] scope pos) spos) (tAsg (tLc wi (uG hg) (uT ht) (uE he) (own.map (·.2))) (gName i)) (dAsg (dLc fin it gt tt te (own.map (·.2))) (dgN i)) :=
  ds_setLc i hf hc hN hi ok (uG_ok hg) (uT_ok ht) (uE_ok he) s0 hy hyl hsw hs
end
/-! comparisons as tests -/
section
variable {X : Cx} {a b : Expr} {τa τb : TE} {ta tb : Dt} {pos : Pos}
theorem dt_mk {e : Expr} (h : PT X e (L2.tB τa)) (r : DEr X.K τa ta) : DT X e (L2.tB τa) (dB ta) := by
  refine ⟨h, fun al S F H σ g Q QV R q k => ?_⟩
  refine r al S F H σ g _ _ R q fun al1 S1 H1 g1 v1 w1 R1 gr1 e1 q1 => ?_
  split at q1
  · rename_i bb
    refine ⟨bb, ?_, k _ _ _ _ _ R1 gr1 q1⟩
    unfold DenW Den at e1
    exact e1
  · exact q1.elim
theorem dt_cmp {op : CmpOp} {r : R2} {f : F2} (ho : OpR X (compareOp op) r) (h : Op2 X.K r f) (ha : DE X a τa ta) (hb : DE X b τb tb) (hm : behindInMarks op b = false := by first | exact nomark _ | rfl) : DT X (.Compare a [op] [b] pos) (L2.tB (tOp r τa τb)) (dB (d2 f ta tb)) :=
  dt_mk (pt_cmpR ho ha.pe hb.pe hm) (der_op2 h ha.r hb.r)
theorem dt_eq {kk : Nat} (hr : Room kk X.A) (ha : DE X a τa ta) (hb : DE X b τb tb) : DT X (.Compare a [.Eq] [b] pos) (L2.tB (tOp (fun x y H Q => (scal x y = true ∧ Q (.bl (if false then !decide (x = y) else decide (x = y))) H) ∨
    (∃ d e, Dp X.K H x d ∧ Dp X.K H y e ∧ SeqAt.shaped d = true ∧ SeqAt.shaped e = true ∧ Q (.bl (if false then !PyData.eqv d e else PyData.eqv d e)) H)) τa τb)) (dB (d2 (fEq false) ta tb)) := dt_cmp (op_eq.or (op_eqD hr.units)) (op2_eq false) ha hb
theorem dt_ne {kk : Nat} (hr : Room kk X.A) (ha : DE X a τa ta) (hb : DE X b τb tb) : DT X (.Compare a [.NotEq] [b] pos) (L2.tB (tOp (fun x y H Q => (scal x y = true ∧ Q (.bl (if true then !decide (x = y) else decide (x = y))) H) ∨
    (∃ d e, Dp X.K H x d ∧ Dp X.K H y e ∧ SeqAt.shaped d = true ∧ SeqAt.shaped e = true ∧ Q (.bl (if true then !PyData.eqv d e else PyData.eqv d e)) H)) τa τb)) (dB (d2 (fEq true) ta tb)) := dt_cmp (op_ne.or (op_neD hr.units)) (op2_eq true) ha hb
theorem dt_lt (ha : DE X a τa ta) (hb : DE X b τb tb) : DT X (.Compare a [.Lt] [b] pos) (L2.tB (tOp (rI0 fun i j => V.bl (decide (i < j))) τa τb)) (dB (d2 (fI0 fun i j => .bl (decide (i < j))) ta tb)) := dt_cmp op_lt (op2_I0 fun _ _ _ => denB _) ha hb
theorem dt_gt (ha : DE X a τa ta) (hb : DE X b τb tb) : DT X (.Compare a [.Gt] [b] pos) (L2.tB (tOp (rI0 fun i j => V.bl (decide (j < i))) τa τb)) (dB (d2 (fI0 fun i j => .bl (decide (j < i))) ta tb)) := dt_cmp op_gt (op2_I0 fun _ _ _ => denB _) ha hb
theorem dt_ge (ha : DE X a τa ta) (hb : DE X b τb tb) : DT X (.Compare a [.GtE] [b] pos) (L2.tB (tOp (rI0 fun i j => V.bl (decide (j ≤ i))) τa τb)) (dB (d2 (fI0 fun i j => .bl (decide (j ≤ i))) ta tb)) := dt_cmp op_ge (op2_I0 fun _ _ _ => denB _) ha hb
theorem dt_in (ha : DE X a τa ta) (hb : DE X b τb tb) (hm : behindInMarks .In b = false := by rfl) : DT X (.Compare a [.In] [b] pos) (L2.tB (tOp (rIn X.K false) τa τb)) (dB (d2 (fIn false) ta tb)) := dt_cmp op_in_seq (op2_in false) ha hb hm
end
theorem de_globE {X : Cx} {x : Str} {i : Int} {pos : Pos} (hg : Gl X x) (hm : ∃ tk : Tok, X.mg x = some (.int i tk)) (hd : (x == ("__debug__" : Str)) = false := by decide) : DE X (.Name x pos) (tC (.int i)) (dC (.int i)) := by
  obtain ⟨tk, e⟩ := hm
  exact de_globI hg e hd
end DL

namespace DL
open PySem PySem.Spec L2
/-! a part of a tuple -/
def onCutT (g3 : G) (x : W) (lo hi : Option Int) (Q : W → G → Prop) : Prop := match x with
  | .t (.tup ts) => ¬ (HT.sIx ts.length 0 lo = 0 ∧ HT.sIx ts.length ts.length hi = ts.length) ∧ Q (.t (.tup (cut ts lo hi))) g3
  | _ => False
def dSlT (t : Dt) (l u : DOt) : Dt := fun g Q => t g fun x g1 => l g1 fun lo g2 => u g2 fun hi g3 => onCutT g3 x lo hi Q
section
variable {X : Cx} {a : Expr} {τa : TE} {ta : Dt} {pos : Pos}
end
theorem i_slT {g : G} {Q : W → G → Prop} {t : Dt} {l u : DOt} (h : t g fun x g1 => l g1 fun lo g2 => u g2 fun hi g3 => onCutT g3 x lo hi Q) : dSlT t l u g Q := h
/-! [x] * n as a new cell -/
section
variable {X : Cx} {a b : Expr} {τa τb : TE} {ta tb : Dt} {pos : Pos}
end
/-! lists of handles, gone through -/
end DL

namespace DL
open PySem PySem.Spec L2
/-! sorted(list of ints) -/
section
variable {X : Cx} {e : Expr} {es : List Expr} {τs : TA} {ts : DAt} {p pos : Pos}
/-! calls without arguments -/
theorem de_callS0 {k : Nat} {f : Addr} {fd : FuncData} {ps : List Str} {C : SC} {x : Str} (F : FnOk X.prog X.w X.K X.mg X.base CX0 k f fd ps (sps X.K C)) (hr : Room k X.A) (hm : X.mg x = some (.ref f)) (hk : PySem.W.keepIn X.K (.ref f) = true) (hb : Binds X.K fd ps [])
    (hg : Gl X x := by rfl) (hdb : (x == ("__debug__" : Str)) = false := by decide) : DE X (.Call (.Name x p) [] [] pos) (tCall (sps X.K C) [] E0 tNil) (dCallS C dNil) :=
  ⟨pe_call0 F hr hg hm hk hb .nil pass0 hdb, der_callS (da_nil (X := X)).r⟩
theorem de_callT0 {k : Nat} {f : Addr} {fd : FuncData} {ps : List Str} {C : PC} {x : Str} (F : FnOk X.prog X.w X.K X.mg X.base CX0 k f fd ps (sps X.K C.s)) (hr : Room k X.A) (hm : X.mg x = some (.ref f)) (hk : PySem.W.keepIn X.K (.ref f) = true) (hb : Binds X.K fd ps [])
    (hg : Gl X x := by rfl) (hdb : (x == ("__debug__" : Str)) = false := by decide) : DE X (.Call (.Name x p) [] [] pos) (tCall (sps X.K C.s) [] E0 tNil) (dCallT C dNil) :=
  ⟨pe_call0 F hr hg hm hk hb .nil pass0 hdb, der_callT (da_nil (X := X)).r⟩
end
end DL

namespace DL
open PySem PySem.Spec L2
/-! x // y with a wide y -/
theorem de_fdivW {X : Cx} {a b : Expr} {τa τb : TE} {ta tb : Dt} {pos : Pos} (ha : DE X a τa ta) (hb : DE X b τb tb) : DE X (.BinOp a .FloorDiv b pos) (tOp (rI CDivW fun i j => .int (i / j)) τa τb) (d2 (fI CDivW fun i j => .int (i / j)) ta tb) := de_op op_fdivW (op2_I fun _ _ _ => denI _) ha hb
/-! is None; d.get(k, x) -/
def W.isN : W → Bool
  | .t .non => true
  | _ => false
def W.known : W → Bool
  | .t (.raw _) => false
  | _ => true
theorem isN_of {K : PySem.W.Frag} {al : List Addr} {S : Hp} : ∀ {w : W} {v : V}, w.known = true → DenW K al S w v → decide (v = .non) = w.isN
  | .h n, v, _, d => by
    obtain ⟨a, _, rfl⟩ := d
    rfl
  | .t x, v, h, d => by
    cases x with
    | raw _ => cases h
    | non =>
      unfold DenW Den at d
      subst d
      rfl
    | bl b =>
      unfold DenW Den at d
      subst d
      rfl
    | int b =>
      unfold DenW Den at d
      subst d
      rfl
    | str b =>
      unfold DenW Den at d
      subst d
      rfl
    | ob _ _ _ =>
      unfold DenW Den at d
      obtain ⟨a, _, _, _, rfl, _⟩ := d
      rfl
    | exf _ _ _ =>
      unfold DenW Den at d
      obtain ⟨a, _, _, _, rfl, _⟩ := d
      rfl
    | lst b =>
      unfold DenW Den at d
      obtain ⟨a, _, rfl, _⟩ := d
      rfl
    | sq b =>
      unfold DenW Den at d
      obtain ⟨a, _, rfl, _⟩ := d
      rfl
    | tup b =>
      unfold DenW Den at d
      obtain ⟨a, _, rfl, _⟩ := d
      rfl
    | dk b c =>
      unfold DenW Den at d
      obtain ⟨a, _, rfl, _⟩ := d
      rfl
    | exc b =>
      unfold DenW Den at d
      obtain ⟨a, _, rfl, _⟩ := d
      rfl
def fNone (neg : Bool) : F1 := fun g w Q => w.known = true ∧ Q (.t (.bl (if neg then !w.isN else w.isN))) g
section
variable {X : Cx} {a b e f : Expr} {τa τb τf : TE} {ta tb tf : Dt} {pos pos' : Pos} {j : Nat}
theorem der_notNone {K : PySem.W.Frag} (h : DEr K τa ta) : DEr K (tNotN τa) (d1 (fNone true) ta) := by
  intro al S F H σ g Q QV R q k
  refine h al S F H σ g _ _ R q fun al1 S1 H1 g1 v1 w1 R1 gr1 e1 q1 => ?_
  rw [isN_of q1.1 e1]
  exact k al1 S1 H1 g1 _ (.t (.bl (!w1.isN))) R1 gr1 (by unfold DenW Den; rfl) q1.2
theorem dt_notNone (ha : DE X a τa ta) (h1 : behindInMarks .IsNot (.Constant .none j pos') = false := by rfl) : DT X (.Compare a [.IsNot] [.Constant .none j pos'] pos) (L2.tB (tNotN τa)) (dB (d1 (fNone true) ta)) :=
  dt_mk (pt_cmp (pc_notN ha.pe) h1) (der_notNone ha.r)
def onGetD (o y z : W) (g : G) (Q : W → G → Prop) : Prop := match y with
  | .t ky => (match keyT ky with
    | some k => (match g.dct? o with
      | some (ks, ts) => (match look ks ts k with | some v => Q (.t v) g | none => Q z g)
      | none => False)
    | none => False)
  | _ => False
def dGetD (td ty tz : Dt) : Dt := fun g Q => td g fun o g1 => (g1.dct? o).isSome = true ∧ ty g1 fun y g2 => tz g2 fun z g3 => onGetD o y z g3 Q
theorem de_getD {kk : Nat} {apos : Pos} (hr : Room kk X.A) (ha : DE X a τa ta) (hb : DE X b τb tb) (hf : DE X f τf tf)
    (m : M2 X a "get" apos b f pos := by exact ⟨rfl, rfl, rfl, rfl⟩) : DE X (.Call (.Attribute a "get" apos) [b, f] [] pos) (tDGet2 τa τb τf) (dGetD ta tb tf) := by
  refine ⟨pe_dget2 (hu_of hr) ha.pe hb.pe hf.pe m, fun al S F H σ g Q QV R q k => ?_⟩
  refine ha.r al S F H σ g _ _ R q fun al1 S1 H1 g1 v1 w1 R1 gr1 e1 q1 => ?_
  obtain ⟨hd, q1⟩ := q1
  obtain ⟨⟨ks1, ts1⟩, ed⟩ := Option.isSome_iff_exists.mp hd
  obtain ⟨p, vs, rfl, h1, h2, h3⟩ := R1.viewD e1 ed
  refine ⟨p, rfl, .inl ⟨_, .inl h1⟩, ?_⟩
  refine hb.r al1 S1 F H1 σ g1 _ _ R1 q1 fun al2 S2 H2 g2 v2 w2 R2 gr2 e2 q2 => ?_
  refine hf.r al2 S2 F H2 σ g2 _ _ R2 q2 fun al3 S3 H3 g3 v3 w3 R3 gr3 e3 q3 => ?_
  have gr := (gr1.trans gr2).trans gr3
  unfold onGetD at q3
  split at q3
  · split at q3
    · rename_i key ek
      have ev := key_den ek (e2.grow gr3)
      subst ev
      split at q3
      · rename_i ks ts ed3
        obtain ⟨p', vs3, hp, h4, h5, h6⟩ := R3.viewD (e1.grow (gr2.trans gr3)) ed3
        cases hp
        refine ⟨_, DGet.k h4, ?_⟩
        have lz := look_zip (ks := ks) key h6
        split at q3
        · rename_i r er
          rw [er] at lz
          cases e4 : valV (ks.zip vs3) key with
          | none => rw [e4] at lz; exact lz.elim
          | some v =>
            rw [e4] at lz
            exact k _ _ _ _ _ (.t r) R3 gr lz q3
        · rename_i er
          rw [er] at lz
          cases e4 : valV (ks.zip vs3) key with
          | some v => rw [e4] at lz; exact lz.elim
          | none => exact k _ _ _ _ _ w3 R3 gr e3 q3
      · exact q3.elim
    · exact q3.elim
  · exact q3.elim
end
section
variable {g : G} {Q : W → G → Prop}
theorem i_none {neg : Bool} {w : W} (hk : w.known = true) (h : Q (.t (.bl (if neg then !w.isN else w.isN))) g) : fNone neg g w Q := ⟨hk, h⟩
theorem i_getD {td ty tz : Dt} (h : td g fun o g1 => (g1.dct? o).isSome = true ∧ ty g1 fun y g2 => tz g2 fun z g3 => onGetD o y z g3 Q) : dGetD td ty tz g Q := h
theorem o_getS {o z : W} {ky v : T} {k : Key} {ks : List Key} {us : List T} (ek : keyT ky = some k) (e : g.dct? o = some (ks, us)) (el : look ks us k = some v) (h : Q (.t v) g) : onGetD o (.t ky) z g Q := by
  unfold onGetD; dsimp only; rw [ek]; dsimp only; rw [e]; dsimp only; rw [el]; exact h
theorem o_getN {o z : W} {ky : T} {k : Key} {ks : List Key} {us : List T} (ek : keyT ky = some k) (e : g.dct? o = some (ks, us)) (el : look ks us k = none) (h : Q z g) : onGetD o (.t ky) z g Q := by
  unfold onGetD; dsimp only; rw [ek]; dsimp only; rw [e]; dsimp only; rw [el]; exact h
end
end DL

namespace DL
open PySem PySem.Spec L2
/-! what refuses: a def that raises an own class, told by its name -/
abbrev RC := List T → Str → Prop
def spr (K : PySem.W.Frag) (C : RC) : Sp := fun vs H Q E => ∃ (S F : Hp) (ws : List W) (ts : List T) (n : Str) (Cn : Addr), RepM K [] S F H (([] : List Cell).map some) ∧ Paired (DenW K [] S) ws vs ∧ treesW ws = some ts ∧ C ts n ∧ PySem.W.nsIn K mainGlobals n = some (some (.ref Cn)) ∧
  ∀ S' H', RepM K [] S' F H' (([] : List Cell).map some) → Same S S' → E (.ref Cn) none H'
abbrev DEx := Str → G → Prop
def Lx (K : PySem.W.Frag) (al : List Addr) (S F : Hp) (E : DEx) (W : WX) : Prop := ∀ (n : Str) (Cn : Addr) (al' : List Addr) (S' H' : Hp) (σ' : L2.St) (g' : G), PySem.W.nsIn K mainGlobals n = some (some (.ref Cn)) → Rep K al' S' F H' σ' g' → Grow al S al' S' → E n g' → W (.ref Cn) none σ' H'
theorem Lx.grow {K : PySem.W.Frag} {al al1 : List Addr} {S S1 F : Hp} {E : DEx} {W : WX} (k : Lx K al S F E W) (gr : Grow al S al1 S1) : Lx K al1 S1 F E W :=
  fun n Cn a s h σ g hn R g2 q => k n Cn a s h σ g hn R (gr.trans g2) q
abbrev DXt := De → DEx → G → Prop
def DXr (K : PySem.W.Frag) (W : WX) (τ : TS) (t : DXt) : Prop := ∀ (al : List Addr) (S F H : Hp) (σ : L2.St) (g : G) (D : De) (DV : Ends) (E : DEx), Rep K al S F H σ g → t D E g → Lk K al S F D DV → Lx K al S F E W → τ DV σ H
structure DX (X : Cx) (W : WX) (st : Stmt) (τ : TS) (t : DXt) : Prop where
  pe : PS X st τ
  r : DXr X.K W τ t
structure DXs (X : Cx) (W : WX) (st : List Stmt) (τ : TS) (t : DXt) : Prop where
  pe : PSs X st τ
  r : DXr X.K W τ t
/-- an expression that raises -/
structure DEX (X : Cx) (W : WX) (e : Expr) (τ : TE) (t : DEx → G → Prop) : Prop where
  pe : PE X e τ
  r : ∀ (al : List Addr) (S F H : Hp) (σ : L2.St) (g : G) (E : DEx) (QV : VK), Rep X.K al S F H σ g → t E g → Lx X.K al S F E W → τ σ H QV
section
variable {X : Cx} {W : WX} {st : Stmt} {rest A B : List Stmt} {τ τ' : TS} {t : DSt} {tx ux : DXt} {e : Expr} {τe : TE} {te : DEx → G → Prop} {pos : Pos}
end
/-! calls of defs that refuse -/
section
variable {K : PySem.W.Frag} {τs : TA} {ts : DAt}
end
section
variable {X : Cx} {W : WX} {e : Expr} {es : List Expr} {τs : TA} {ts : DAt} {pos p : Pos}
end
/-! a def that refuses -/
section
variable {P : Program} {w : World} {K : PySem.W.Frag} {mg : Str → Option Value} {base : Heap}
end
end DL

namespace DL
open PySem PySem.Spec L2
/-! an own class of exception, told by its name -/
structure XC (K : PySem.W.Frag) (mg : Str → Option Value) (n : Str) (C : Addr) : Prop where
  ns : PySem.W.nsIn K mainGlobals n = some (some (.ref C))
  gm : mg n = some (.ref C)
  kept : PySem.W.keepIn K (.ref C) = true
  sb : PySem.W.subIn K (.ref C) (.type "BaseException") = some true
  ty : PySem.W.typeIn K (.ref C) = some (.type "type")
/-- .. made by name and text -/
structure XM (K : PySem.W.Frag) (mg : Str → Option Value) (n : Str) (C : Addr) : Prop extends XC K mg n C where
  ex : PySem.W.excIn K C [.type "ValueError", .type "Exception", .type "BaseException", .type "object"] "ValueError.__new__" = true
section
variable {X : Cx} {W : WX} {pos pos' p p2 : Pos}
end
/-! isinstance of a caught exception, by several own classes -/
end DL

namespace DL
open PySem PySem.Spec L2 PyProof.Rows
/-! a caught exception stays looked at behind its suite -/
section
variable {X : Cx} {pins : List (Addr × Obj)} {σ : L2.St} {H : Hp} {s : Shared} {a C : Addr} {oe : Obj}
theorem keepPin {more : List (Addr × Obj)} (J : Inv (X.suite a ((a, oe) :: (X.pn ++ pins))) more σ H s) (ok : X.Ok) : Inv X ((a, oe) :: pins) σ H s where
  ok := ok
  os := J.os
  bare := J.bare
  base := J.base
  loc := J.loc
  cell := J.cell
  free := J.free
  freeC := J.freeC
  hok := J.hok
  len := J.len
  pin := fun q hq => J.pin q (by
    refine List.mem_append_left _ ?_
    rcases List.mem_append.mp hq with z | z
    · exact List.mem_cons_of_mem _ (List.mem_append_left _ z)
    · rcases List.mem_cons.mp z with y | z
      · rw [y]
        exact List.mem_cons_self
      · exact List.mem_cons_of_mem _ (List.mem_append_right _ z))
end
section
variable {X : Cx} {x n : Str} {c : Value} {i : Nat} {body suite : List Stmt} {b₀ : Stmt} {np pos pos' : Pos} {tb : WX → TS} {ts : Addr → TS}
end
end DL

namespace DL
open PySem PySem.Spec L2 PyProof.Rows
/-! own classes by names -/
def subX (n m : Str) : Bool := n == m || (m == ("CountError" : Str) || m == ("ValueError" : Str))
abbrev IsC (K : PySem.W.Frag) (n : Str) (C : Addr) : Prop := PySem.W.nsIn K mainGlobals n = some (some (.ref C))
/-- what is raised (R) and what it is asked for (M) -/
structure XI (K : PySem.W.Frag) (mg : Str → Option Value) (R M : List Str) : Prop where
  exc : ∀ n ∈ R, ∀ C, IsC K n C → ExcC K C
  cls : ∀ m ∈ M, ∃ Cm : Addr, mg m = some (.ref Cm) ∧ ∀ n ∈ R, ∀ C, IsC K n C → PySem.W.kitOne K (.ref C) (.ref Cm) = some (subX n m)
  val : mg "ValueError" = none ∧ ∀ n ∈ R, ∀ C, IsC K n C → PySem.W.kitOne K (.ref C) (.type "ValueError") = some true
  exm : ∃ Cc : Addr, mg "CountError" = some (.ref Cc) ∧ ∀ n ∈ R, ∀ C, IsC K n C → PySem.W.exmOne K (.ref C) (.ref Cc) = some true
section
variable {X : Cx} {W : WX} {st : Stmt} {rest : List Stmt} {τ τ' : TS} {tx ux : DXt} {e : Expr}
/-- a suite's wish, told by its reading -/
def semX (K : PySem.W.Frag) (t : DXt) (W : WX) : TS := fun D σ H => ∃ (al : List Addr) (S F : Hp) (g : G) (Dd : De) (E : DEx), Rep K al S F H σ g ∧ t Dd E g ∧ Lk K al S F Dd D ∧ Lx K al S F E W
theorem DXs.sem {sts : List Stmt} {t : DXt} (h : DXs X W sts τ t) : PSs X sts (semX X.K t W) := ⟨fun pins s σ H D I ⟨al, S, F, g, Dd, E, R, q, k, kx⟩ => h.pe.run pins s σ H D I (h.r al S F H σ g Dd D E R q k kx)⟩
/-! try: .. except CountError as e: caught = e -/
theorem set_w {α : Type} (l : List α) {i j : Nat} (h : i ≠ j) (x y z : α) : (((l.set i x).set j y).set i z) = ((l.set j y).set i z) := by
  rw [List.set_comm x y h, List.set_set]
end
/-! isinstance of what was caught -/
section
variable {X : Cx} {p p1 p2 pos : Pos} {R M : List Str}
structure DC (X : Cx) (R : List Str) (e : Expr) (τ : TE) (m : Str) : Prop where
  pe : PE X e τ
  r : ∃ (c : V) (u : Value), ClsV c u ∧ (∀ n ∈ R, ∀ C, IsC X.K n C → PySem.W.kitOne X.K (.ref C) u = some (subX n m)) ∧ ∀ (σ : L2.St) (H : Hp) (Q : VK), Q c H → τ σ H Q
theorem dc_cls {m : Str} (xi : XI X.K X.mg R M) (hm : m ∈ M := by decide) (hg : Gl X m := by rfl) (hd : (m == ("__debug__" : Str)) = false := by decide) : ∃ τ, DC X R (.Name m p) τ m := by
  obtain ⟨C, hC, h⟩ := xi.cls m hm
  exact ⟨_, pe_glob (v := .ref C) hg hC rfl hd, .ref C, .ref C, .own C, h, fun σ H Q q => q⟩
theorem subX_val (n : Str) : subX n "ValueError" = true := by unfold subX; simp
theorem dc_val (xi : XI X.K X.mg R M) (hg : Gl X "ValueError" := by rfl) : ∃ τ, DC X R (.Name "ValueError" p) τ "ValueError" := by
  refine ⟨_, pe_bltn (v := .ty "ValueError") hg xi.val.1 (by decide +kernel) rfl (by decide) (by decide), .ty "ValueError", .type "ValueError", .ty _, fun n hn C hC => ?_, fun σ H Q q => q⟩
  rw [subX_val]
  exact xi.val.2 n hn C hC
structure DCs (X : Cx) (R : List Str) (es : List Expr) (τ : TA) (ms : List Str) : Prop where
  pe : PA X es τ
  r : ∃ (cs : List V) (us : List Value), cs.length = ms.length ∧ Paired ClsV cs us ∧ (∀ n ∈ R, ∀ C, IsC X.K n C → PySem.W.kitAny X.K (.ref C) us = some (ms.any (subX n))) ∧ ∀ (σ : L2.St) (H : Hp) (Q : List V → Hp → Prop), Q cs H → τ σ H Q
end
/-! a def that refuses, as the derivations hand it on -/
structure KnX (P : Program) (w : World) (K : PySem.W.Frag) (mg : Str → Option Value) (base : Heap) (k : Nat) (x : Str) (ps : List Str) (C : RC) : Prop where
  ex : ∃ f fd, FnOk P w K mg base (L2.CX P w) k f fd ps (spr K C) ∧ mg x = some (.ref f) ∧ PySem.W.keepIn K (.ref f) = true ∧ Binds K fd ps [] ∧ ∀ ts n, C ts n → ∃ Cn : Addr, PySem.W.nsIn K mainGlobals n = some (some (.ref Cn))
theorem KnX.mono {P : Program} {w : World} {K : PySem.W.Frag} {mg : Str → Option Value} {base : Heap} {j k : Nat} {x : Str} {ps : List Str} {C : RC} (h : KnX P w K mg base j x ps C) (hk : j ≤ k) : KnX P w K mg base k x ps C := by
  obtain ⟨f, fd, a, b, c, d, e⟩ := h.ex
  exact ⟨f, fd, a.mono hk, b, c, d, e⟩
end DL

namespace DL
open PySem PySem.Spec L2 PyProof.Rows
/-! more that raises -/
section
variable {X : Cx} {W : WX} {st : Stmt} {A B : List Stmt} {τ τ' : TS} {tx ux : DXt} {e a b : Expr} {τe τb : TE} {te : DEx → G → Prop} {pos : Pos}
structure DTX (X : Cx) (W : WX) (e : Expr) (τ : TT) (t : DEx → G → Prop) : Prop where
  pe : PT X e τ
  r : ∀ (al : List Addr) (S F H : Hp) (σ : L2.St) (g : G) (E : DEx) (QV : Bool → Hp → Prop), Rep X.K al S F H σ g → t E g → Lx X.K al S F E W → τ σ H QV
end
/-- a law's own classes: what is raised, what it is asked for -/
structure XF (K : PySem.W.Frag) (mg : Str → Option Value) (R M : List Str) : Prop where
  xi : XI K mg R M
  nm : ∀ n ∈ R, ∃ C, XM K mg n C
theorem only {K : PySem.W.Frag} {n : Str} {c C : Addr} (b : PySem.W.nsIn K mainGlobals n = some (some (.ref c))) (h : IsC K n C) : c = C := by
  have h' : PySem.W.nsIn K mainGlobals n = some (some (.ref C)) := h
  rw [b] at h'
  cases h'
  rfl
theorem kit_self {K : PySem.W.Frag} {c : Addr} : PySem.W.kitOne K (.ref c) (.ref c) = some true := by
  unfold PySem.W.kitOne
  rw [if_pos (beq_self_eq_true _)]
theorem kit_own {K : PySem.W.Frag} {n c : Addr} {b : Bool} (ne : n ≠ c) (ic : PySem.W.isClsIn K c = true) (tc : PySem.W.typeIn K (.ref c) = some (.type "type")) (s : PySem.W.subIn K (.ref n) (.ref c) = some b) : PySem.W.kitOne K (.ref n) (.ref c) = some b := by
  have e0 : (Value.ref n == Value.ref c) = false := Bool.eq_false_iff.mpr fun z => ne (Value.ref.inj (beq_iff_eq.mp z))
  have ic' : (PySem.W.clsIn K c).isSome = true := ic
  have e2 : ((PySem.W.clsIn K c).isSome && PySem.W.typeIn K (.ref c) == some (.type "type")) = true := by
    rw [ic', tc] <;> rfl
  unfold PySem.W.kitOne
  rw [e0, if_neg Bool.false_ne_true]
  show (if ((PySem.W.clsIn K c).isSome && PySem.W.typeIn K (.ref c) == some (.type "type")) = true then PySem.W.subIn K (.ref n) (.ref c) else none) = some b
  rw [if_pos e2]
  exact s
theorem kit_val {K : PySem.W.Frag} {n : Addr} (s : PySem.W.subIn K (.ref n) (.type "ValueError") = some true) : PySem.W.kitOne K (.ref n) (.type "ValueError") = some true := by
  unfold PySem.W.kitOne
  have e0 : (Value.ref n == Value.type "ValueError") = false := Bool.eq_false_iff.mpr fun z => by
    have := beq_iff_eq.mp z
    cases this
  rw [e0, if_neg Bool.false_ne_true]
  show (if PySem.W.kitMeta "ValueError" = true then PySem.W.subIn K (.ref n) (.type "ValueError") else none) = some true
  rw [if_pos (by decide +kernel)]
  exact s
/-! steps -/
section
variable {D : De} {E : DEx} {g : G} {t u : DXt}
end
end DL

namespace DL
open PySem PySem.Spec L2 PyProof.Rows
/-! a loop that may raise -/
section
variable {X : Cx} {W : WX} {tg iter : Expr} {τ : TS} {t : DXt} {pos : Pos}
end
end DL

namespace DL
open PySem PySem.Spec L2
/-! sorted(set(a list of ints)) -/
section
open PyProof.Rows
variable {P : Program} {w : World} {A : Around} {E : Value → Shared → Prop} {s : Shared}
end
/-- the set of the ints of a list, m of them -/
def SetI (w : World) (a : Addr) (xs : List Int) (m : Nat) : HO := .ext fun h => SetR w h a (fun j => decide (j ∈ xs)) m
section
variable {X : Cx}
/-- set(l) -/
def rSetL (K : PySem.W.Frag) (w : World) : List V → Hp → VK → Prop := fun vs H Q => ∃ (a : Addr) (xs : List Int), vs = [V.ref a] ∧ SqL K H a (xs.map V.int) ∧ xs.length ≤ 1000 ∧ ∀ p m, H p = none → m ≤ xs.length → Q (.ref p) (upd H p (SetI w p xs m))
end
/-! sorted(set(l)), read -/
section
variable {X : Cx} {e : Expr} {es : List Expr} {τs : TA} {ts : DAt} {p p2 pos pos2 : Pos}
end
/-! a list in a list of lists -/
section
variable {X : Cx} {a b : Expr} {τa τb : TE} {ta tb : Dt} {pos : Pos} {kk : Nat}
end
end DL

namespace DL
open PySem PySem.Spec L2
/-! cells lent to a pure def: looked at as trees while it runs, cells again behind it; what comes back is flat -/
def T.isFlat (t : T) : Bool := t.flat.isSome
theorem den_flat {K : PySem.W.Frag} {S S' : Hp} {t : T} {v : V} (h : t.isFlat = true) (d : Den K S t v) : Den K S' t v := by
  cases t <;> first | (unfold Den at d ⊢; exact d) | cases h
section
variable {K : PySem.W.Frag} {al : List Addr} {S S' F H H' : Hp} {m : Sto}
open Classical in
noncomputable def stOf (al : List Addr) (S H : Hp) (m : Sto) (ws : List W) : Hp := fun a => if ∃ (n : Nat) (c : Cell), W.h n ∈ ws ∧ m[n]? = some (some c) ∧ al[n]? = some a then H a else S a
open Classical in
noncomputable def fOf (S1 F1 : Hp) : Hp := fun a => if (S1 a).isSome = true then none else F1 a
theorem RepM.st_same (R : RepM K al S F H m) (ws : List W) : Same S (stOf al S H m ws) := fun a o e => by
  unfold stOf
  split
  · exact R.same a o e
  · exact e
theorem RepM.st_h (R : RepM K al S F H m) (ws : List W) : Same (stOf al S H m ws) H := fun a o e => by
  unfold stOf at e
  split at e
  · exact e
  · exact R.same a o e
theorem RepM.lent (R : RepM K al S F H m) (ws : List W) : RepM K [] (stOf al S H m ws) (fOf (stOf al S H m ws) (frOf al F H m [])) H (([] : List Cell).map some) := by
  refine ⟨R.st_h ws, fun a u e => ?_, fun a u e => ?_, rfl, fun n c e => by simp at e, fun n k c d a e => by simp at e⟩
  · unfold fOf at e
    split at e
    · cases e
    · unfold frOf at e
      split at e
      · exact e
      · cases e
  · unfold fOf
    rw [if_pos (by rw [e]; rfl)]
/-- what is kept behind the call -/
theorem RepM.kept (R : RepM K al S F H m) (ws : List W) {S2 : Hp} (h1 : Same (stOf al S H m ws) S2) (h2 : Same S2 H') (h3 : Same (fOf (stOf al S H m ws) (frOf al F H m [])) H') : RepM K al S F H' m := by
  have any : ∀ a o, H a = some o → ((F a).isSome = true ∨ ∃ (n : Nat) (c : Cell), m[n]? = some (some c) ∧ n ∉ ([] : List Nat) ∧ al[n]? = some a) → H' a = some o := fun a o e hx => by
    cases q : stOf al S H m ws a with
    | some u =>
      have := R.st_h ws a u q
      rw [e] at this
      cases this
      exact h2 a _ (h1 a _ q)
    | none =>
      refine h3 a o ?_
      unfold fOf
      rw [q, if_neg (by simp)]
      unfold frOf
      rw [if_pos hx]
      exact e
  refine ⟨fun a o e => h2 a o (h1 a o (R.st_same ws a o e)), fun a o e => any a o (R.fr a o e) (.inl (by rw [e]; rfl)), R.dis, R.len, fun n c e => ?_, R.inj⟩
  obtain ⟨a, o, g1, g2, g3, g4, g5⟩ := R.cell n c e
  exact ⟨a, o, g1, g2, g3, any a o g4 (.inr ⟨n, c, e, by simp, g1⟩), g5⟩
end
section
variable {K : PySem.W.Frag} {τs : TA} {ts : DAt}
theorem den_trees {al : List Addr} {S : Hp} : ∀ {ts : List T} {vs : List V}, Paired (Den K S) ts vs → Paired (DenW K al S) (ts.map W.t) vs
  | _, _, .nil => .nil
  | _, _, .cons d r => .cons d (den_trees r)
variable {X : Cx} {e : Expr} {es : List Expr} {pos : Pos}
end
/-! steps -/
end DL

namespace DL
open PySem PySem.Spec L2
/-! lists of whole numbers: a <= b -/
section
variable {X : Cx} {a b : Expr} {τa τb : TE} {ta tb : Dt} {pos : Pos} {kk : Nat}
end
end DL

namespace DL
open PySem PySem.Spec L2
/-! handles looked at as trees, down to a depth -/
def allS {α : Type} : List (Option α) → Option (List α)
  | [] => some []
  | some x :: r => (match allS r with | some xs => some (x :: xs) | none => none)
  | none :: _ => none
def G.treeD (g : G) : Nat → W → Option T
  | _, .t t => some t
  | 0, .h _ => none
  | d + 1, .h n => match g.mem[n]? with
    | some (some (.lt ts)) => some (.lst ts)
    | some (some (.dt ks ts)) => some (.dk ks ts)
    | some (some (.lw ws)) => (match allS (ws.map (g.treeD d)) with | some ts => some (.lst ts) | none => none)
    | some (some (.tw ws)) => (match allS (ws.map (g.treeD d)) with | some ts => some (.tup ts) | none => none)
    | some (some (.ob n fs ws)) => (match allS (ws.map (g.treeD d)) with | some ts => some (.ob n fs ts) | none => none)
    | _ => none
/-- a heap that holds what is stable and the cells -/
structure Holds (K : PySem.W.Frag) (al : List Addr) (S : Hp) (m : Sto) (S1 : Hp) : Prop where
  s : Same S S1
  c : ∀ (n : Nat) (c : Cell), m[n]? = some (some c) → ∃ a o, al[n]? = some a ∧ S1 a = some o ∧ CellOk K al S c o
theorem allS_den {K : PySem.W.Frag} {al : List Addr} {S S1 : Hp} {f : W → Option T} (h : ∀ w t v, f w = some t → DenW K al S w v → Den K S1 t v) : ∀ {ws : List W} {ts : List T} {vs : List V}, allS (ws.map f) = some ts → Paired (DenW K al S) ws vs → Paired (Den K S1) ts vs
  | [], _, _, e, p => by
    cases p
    cases e
    exact .nil
  | w :: ws, ts, vs, e, p => by
    cases p with
    | cons p1 p2 =>
      rw [List.map_cons] at e
      cases e1 : f w with
      | none => rw [e1] at e; cases e
      | some t =>
        rw [e1] at e
        unfold allS at e
        split at e
        · rename_i xs e2
          cases e
          exact .cons (h w t _ e1 p1) (allS_den h e2 p2)
        · cases e
theorem treeD_den {K : PySem.W.Frag} {al : List Addr} {S S1 : Hp} {g : G} (hS : Holds K al S g.mem S1) : ∀ (d : Nat) (w : W) (t : T) (v : V), g.treeD d w = some t → DenW K al S w v → Den K S1 t v
  | 0, .t x, t, v, e, dv => by
    cases e
    exact Den.mono hS.s _ _ dv
  | 0, .h n, t, v, e, dv => by cases e
  | d + 1, .t x, t, v, e, dv => by
    cases e
    exact Den.mono hS.s _ _ dv
  | d + 1, .h n, t, v, e, dv => by
    unfold G.treeD at e
    obtain ⟨a, ha, rfl⟩ := dv
    split at e
    · rename_i ts em
      cases e
      obtain ⟨a', o, h1, h2, vs, rfl, h3⟩ := hS.c n _ em
      rw [ha] at h1
      cases h1
      unfold Den
      exact ⟨a, vs, rfl, h2, Dens.iff.mpr (Denp.grow hS.s h3)⟩
    · rename_i ks ts em
      cases e
      obtain ⟨a', o, h1, h2, vs, rfl, h3, h4⟩ := hS.c n _ em
      rw [ha] at h1
      cases h1
      unfold Den
      exact ⟨a, vs, rfl, h2, h3, Dens.iff.mpr (Denp.grow hS.s h4)⟩
    · rename_i ws em
      split at e
      · rename_i ts e2
        cases e
        obtain ⟨a', o, h1, h2, vs, rfl, h3⟩ := hS.c n _ em
        rw [ha] at h1
        cases h1
        unfold Den
        exact ⟨a, vs, rfl, h2, Dens.iff.mpr (allS_den (fun w t v x y => treeD_den hS d w t v x y) e2 h3)⟩
      · cases e
    · rename_i ws em
      split at e
      · rename_i ts e2
        cases e
        obtain ⟨a', o, h1, h2, vs, rfl, h3⟩ := hS.c n _ em
        rw [ha] at h1
        cases h1
        unfold Den
        exact ⟨a, vs, rfl, .inl (.inl h2), Dens.iff.mpr (allS_den (fun w t v x y => treeD_den hS d w t v x y) e2 h3)⟩
      · cases e
    · rename_i n2 fs ws em
      split at e
      · rename_i ts e2
        cases e
        obtain ⟨a', o, h1, h2, C, dx, vs, hn, rfl, hl, h3⟩ := hS.c n _ em
        rw [ha] at h1
        cases h1
        have p := allS_den (S1 := S1) (fun w t v x y => treeD_den hS d w t v x y) e2 h3
        unfold Den
        exact ⟨a, C, dx, vs, rfl, hn, h2, by rw [hl, h3.length, p.length], Dens.iff.mpr p⟩
      · cases e
    · cases e
theorem Rep.holds {K : PySem.W.Frag} {al : List Addr} {S F H : Hp} {σ : L2.St} {g : G} (R : Rep K al S F H σ g) : Holds K al S g.mem H :=
  ⟨R.same, fun n c e => let ⟨a, o, h1, _, _, h4, h5⟩ := R.cell n c e; ⟨a, o, h1, h4, h5⟩⟩
/-! == of what holds handles -/
def fEqN (neg : Bool) : F2 := fun g x y Q => match g.treeD 6 x, g.treeD 6 y with
  | some tx, some ty => tx.sh 8 = true ∧ ty.sh 8 = true ∧ Q (.t (.bl (if neg then !teq tx ty else teq tx ty))) g
  | _, _ => False
theorem op2_eqN (neg : Bool) {K : PySem.W.Frag} : Op2 K (fun x y H Q => (scal x y = true ∧ Q (.bl (if neg then !decide (x = y) else decide (x = y))) H) ∨
    (∃ d e, Dp K H x d ∧ Dp K H y e ∧ SeqAt.shaped d = true ∧ SeqAt.shaped e = true ∧ Q (.bl (if neg then !PyData.eqv d e else PyData.eqv d e)) H)) (fEqN neg) := by
  intro al S F H σ g x y wx wy Q QV R dx dy q k
  unfold fEqN at q
  split at q
  · rename_i tx ty ex ey
    obtain ⟨h1, h2, q⟩ := q
    exact .inr ⟨tx.pd, ty.pd, dp_of 8 _ _ h1 (treeD_den R.holds _ _ _ _ ex dx), dp_of 8 _ _ h2 (treeD_den R.holds _ _ _ _ ey dy), shaped_of h1 (by decide), shaped_of h2 (by decide), k.tr R (denB _) q⟩
  · exact q.elim
section
variable {X : Cx} {a b : Expr} {τa τb : TE} {ta tb : Dt} {pos : Pos} {kk : Nat}
theorem dt_neN (hr : Room kk X.A) (ha : DE X a τa ta) (hb : DE X b τb tb) : DT X (.Compare a [.NotEq] [b] pos) (L2.tB (tOp (fun x y H Q => (scal x y = true ∧ Q (.bl (if true then !decide (x = y) else decide (x = y))) H) ∨
    (∃ d e, Dp X.K H x d ∧ Dp X.K H y e ∧ SeqAt.shaped d = true ∧ SeqAt.shaped e = true ∧ Q (.bl (if true then !PyData.eqv d e else PyData.eqv d e)) H)) τa τb)) (dB (d2 (fEqN true) ta tb)) := dt_cmp (op_ne.or (op_neD hr.units)) (op2_eqN true) ha hb
end
theorem i_neN {g : G} {Q : W → G → Prop} {x y : W} {u v : T} (e1 : g.treeD 6 x = some u) (e2 : g.treeD 6 y = some v) (h1 : u.sh 8 = true) (h2 : v.sh 8 = true) (h : Q (.t (.bl (!teq u v))) g) : fEqN true g x y Q := by
  unfold fEqN; rw [e1, e2]; exact ⟨h1, h2, h⟩
/-! is, of truths -/
section
variable {X : Cx} {a b : Expr} {τa τb : TE} {ta tb : Dt} {pos : Pos}
end
/-! a tuple that holds handles -/
def dTupW (t : DAt) : Dt := fun g Q => t g fun ws g1 => ws.length ≤ sizeLine ∧ Q (.h g1.mem.length) (g1.push (.tw ws))
def fIxP : F2 := fun g x y Q => match x, y with
  | .h n, .t (.int i) => (match g.mem[n]? with
    | some (some (.tw ws)) => ∃ w, atI ws i = some w ∧ Q w g
    | _ => False)
  | _, _ => False
section
variable {X : Cx} {a b : Expr} {es : List Expr} {τa τb : TE} {τs : TA} {ta tb : Dt} {ts : DAt} {pos : Pos}
theorem de_tupW {x1} (h : DA X es τs ts) : DE X (.Tuple es x1 pos) (tTup τs) (dTupW ts) := by
  refine ⟨pe_tup h.pe, ?_⟩
  intro al S F H σ g Q QV R q k
  refine h.r al S F H σ g _ _ R q fun al1 S1 H1 g1 vs ws R1 gr1 e1 q1 => ?_
  refine ⟨by rw [← e1.length]; exact q1.1, fun p np => ?_⟩
  obtain ⟨R2, gr2, d⟩ := R1.pushC (c := .tw ws) (o := .tup vs) np ⟨vs, rfl, DenWs.grow ⟨⟨[p], rfl⟩, Same.refl _⟩ e1⟩
  exact k _ _ _ _ _ _ R2 (gr1.trans gr2) d q1.2
theorem op2_ixP {K : PySem.W.Frag} : Op2 K (fun x y H Q => rIxL K x y H Q ∨ rIxT K x y H Q) fIxP := by
  intro al S F H σ g x y wx wy Q QV R dx dy q k
  unfold fIxP at q
  split at q
  · rename_i n i
    split at q
    · rename_i ws em
      obtain ⟨w, hw, q⟩ := q
      obtain ⟨p, o, rfl, h1, vs, rfl, h3⟩ := R.view dx (c := .tw ws) (by unfold G.cell?; dsimp only; rw [em])
      unfold DenW Den at dy
      subst dy
      obtain ⟨v, hv, dv⟩ := patW h3 hw
      exact .inr ⟨p, vs, i, v, rfl, rfl, .inl (.inl h1), hv, k.val R dv q⟩
    · exact q.elim
  · exact q.elim
theorem de_ixP (ha : DE X a τa ta) (hb : DE X b τb tb) (hs : PlainIx b := by intro _ _; rfl) : DE X (.Subscript a b pos) (tOp (fun x y H Q => rIxL X.K x y H Q ∨ rIxT X.K x y H Q) τa τb) (d2 fIxP ta tb) :=
  de_ixR (ix_list.or ix_tup) op2_ixP ha hb hs
/-- a, b = such a tuple -/
def dgUnP (n : Nat) (t : DGwt) : DGt := fun w g Q => match w with
  | .h m => (match g.mem[m]? with
    | some (some (.tw ts)) => ts.length = n ∧ t ts g Q
    | _ => False)
  | _ => False
theorem dg_unp {kk : Nat} {ps : Pos} {τ1 : TGs} {t1 : DGwt} {n : Nat} (hc : X.calm = true) (h : DGw X es τ1 t1)
    (hn : (assignEach es X.env).length = n := by rfl) (hst : (assignEach es X.env).findIdx? (·.1) = none := by rfl) : DG X (.Tuple es kk ps) (gTup X.K n τ1) (dgUnP n t1) := by
  refine ⟨pg_tup hc h.pe hn hst, fun al S F H σ g v w Q QV R d q k => ?_⟩
  unfold dgUnP at q
  split at q
  · rename_i m
    split at q
    · rename_i ts em
      obtain ⟨p, o, rfl, h1, vs, rfl, h3⟩ := R.view d (c := .tw ts) (by unfold G.cell?; dsimp only; rw [em])
      exact ⟨p, vs, rfl, .inl (.inl h1), by rw [← h3.length]; exact q.1, h.r al S F H σ g vs ts Q QV R h3 q.2 k⟩
    · exact q.elim
  · exact q.elim
end
theorem i_tupW {g : G} {ts : DAt} {Q : W → G → Prop} (h : ts g fun ws g1 => ws.length ≤ sizeLine ∧ Q (.h g1.mem.length) (g1.push (.tw ws))) : dTupW ts g Q := h
theorem i_ixP {g : G} {Q : W → G → Prop} {n : Nat} {i : Int} {ws : List W} {w : W} (em : g.mem[n]? = some (some (.tw ws))) (hw : atI ws i = some w) (h : Q w g) : fIxP g (.h n) (.t (.int i)) Q := by
  unfold fIxP; dsimp only; rw [em]; exact ⟨w, hw, h⟩
theorem i_unp {g : G} {n m : Nat} {ws : List W} {t : DGwt} {P : G → Prop} (em : g.mem[m]? = some (some (.tw ws))) (hn : ws.length = n) (h : t ws g P) : dgUnP n t (.h m) g P := by
  unfold dgUnP; dsimp only; rw [em]; exact ⟨hn, h⟩
/-! all cells lent to a pure def -/
section
variable {K : PySem.W.Frag} {al : List Addr} {S S' F H H' : Hp} {m : Sto}
open Classical in
noncomputable def stAll (al : List Addr) (S H : Hp) (m : Sto) : Hp := fun a => if ∃ (n : Nat) (c : Cell), m[n]? = some (some c) ∧ al[n]? = some a then H a else S a
theorem RepM.all_same (R : RepM K al S F H m) : Same S (stAll al S H m) := fun a o e => by
  unfold stAll
  split
  · exact R.same a o e
  · exact e
theorem RepM.all_h (R : RepM K al S F H m) : Same (stAll al S H m) H := fun a o e => by
  unfold stAll at e
  split at e
  · exact e
  · exact R.same a o e
theorem RepM.all_holds (R : RepM K al S F H m) : Holds K al S m (stAll al S H m) := ⟨R.all_same, fun n c e => by
  obtain ⟨a, o, h1, _, _, h4, h5⟩ := R.cell n c e
  refine ⟨a, o, h1, ?_, h5⟩
  unfold stAll
  rw [if_pos ⟨n, c, e, h1⟩]
  exact h4⟩
theorem RepM.lentAll (R : RepM K al S F H m) : RepM K [] (stAll al S H m) (fOf (stAll al S H m) (frOf al F H m [])) H (([] : List Cell).map some) := by
  refine ⟨R.all_h, fun a u e => ?_, fun a u e => ?_, rfl, fun n c e => by simp at e, fun n k c d a e => by simp at e⟩
  · unfold fOf at e
    split at e
    · cases e
    · unfold frOf at e
      split at e
      · exact e
      · cases e
  · unfold fOf
    rw [if_pos (by rw [e]; rfl)]
theorem RepM.keptAll (R : RepM K al S F H m) {S2 : Hp} (h1 : Same (stAll al S H m) S2) (h2 : Same S2 H') (h3 : Same (fOf (stAll al S H m) (frOf al F H m [])) H') : RepM K al S F H' m := by
  have any : ∀ a o, H a = some o → ((F a).isSome = true ∨ ∃ (n : Nat) (c : Cell), m[n]? = some (some c) ∧ n ∉ ([] : List Nat) ∧ al[n]? = some a) → H' a = some o := fun a o e hx => by
    cases q : stAll al S H m a with
    | some u =>
      have := R.all_h a u q
      rw [e] at this
      cases this
      exact h2 a _ (h1 a _ q)
    | none =>
      refine h3 a o ?_
      unfold fOf
      rw [q, if_neg (by simp)]
      unfold frOf
      rw [if_pos hx]
      exact e
  refine ⟨fun a o e => h2 a o (h1 a o (R.all_same a o e)), fun a o e => any a o (R.fr a o e) (.inl (by rw [e]; rfl)), R.dis, R.len, fun n c e => ?_, R.inj⟩
  obtain ⟨a, o, g1, g2, g3, g4, g5⟩ := R.cell n c e
  exact ⟨a, o, g1, g2, g3, any a o g4 (.inr ⟨n, c, e, by simp, g1⟩), g5⟩
end
def onFlatT (g1 : G) (r : R0) (Q : W → G → Prop) : Prop := match r with
  | .t x => x.isFlat = true ∧ Q (.t x) g1
  | _ => False
def onCT (g1 : G) (Q : W → G → Prop) : W → List Cell → List Cell → Prop
  | .t t, _, [] => onFlatT g1 (.t t) Q
  | _, _, _ => False
def dCallN (C : PC) (t : DAt) : Dt := fun g Q => t g fun ws g1 => match allS (ws.map (g1.treeD 6)) with
  | some ts => C ts fun r => onFlatT g1 r Q
  | none => False
section
variable {K : PySem.W.Frag} {τs : TA} {ts : DAt}
theorem der_callN {C : PC} {E : XK} (h : DAr K τs ts) : DEr K (tCall (sps K C.s) [] E τs) (dCallN C ts) := by
  intro al S F H σ g Q QV R q k
  refine h al S F H σ g _ _ R q fun al1 S1 H1 g1 vs ws R1 gr1 e1 q1 => ?_
  rw [List.append_nil]
  split at q1
  · rename_i us eu
    refine ⟨[], stAll al1 S1 H1 g1.mem, fOf (stAll al1 S1 H1 g1.mem) (frOf al1 F H1 g1.mem []), [], us.map W.t, onCT g1 Q,
      R1.toRepM.lentAll, den_trees (allS_den (fun w t v x y => treeD_den R1.toRepM.all_holds 6 w t v x y) eu e1), ⟨us, treesW_map us, rfl, ?_⟩, fun al2 S2 H2 m1 cs v w M2 l2 sS d2 q2 => ?_⟩
    · refine cast (congrArg (C us) ?_) q1
      funext r
      cases r <;> rfl
    · rw [List.nil_append] at M2 d2
      have lm : m1 = [] := List.length_eq_zero_iff.mp l2
      subst lm
      have keep := R1.toRepM.keptAll sS M2.same M2.fr
      unfold onCT at q2
      split at q2
      · rename_i t
        obtain ⟨hf, q3⟩ := q2
        exact k _ _ _ _ _ (.t t) (R1.withM2 (Grow.refl _ _) keep) gr1 (den_flat hf d2) q3
      · exact q2.elim
  · exact q1.elim
variable {X : Cx} {e : Expr} {es : List Expr} {pos : Pos}
theorem de_callN {k : Nat} {f : Addr} {fd : FuncData} {ps : List Str} {C : PC} {x : Str} {p : Pos} (F : FnOk X.prog X.w X.K X.mg X.base CX0 k f fd ps (sps X.K C.s)) (hr : Room k X.A) (hm : X.mg x = some (.ref f)) (hk : PySem.W.keepIn X.K (.ref f) = true) (hb : Binds X.K fd ps [])
    (ha : DA X (e :: es) τs ts) (hg : Gl X x := by rfl) (hdb : (x == ("__debug__" : Str)) = false := by decide) (he : starEach (e :: es) X.env = (false, eval e X.env) :: starEach es X.env := by rfl) (hpl : (backTo pos (starEach es X.env)).any (·.1) = false := by rfl) :
    DE X (.Call (.Name x p) (e :: es) [] pos) (tCall (sps X.K C.s) [] E0 τs) (dCallN C ts) :=
  ⟨pe_call F hr hg hm hk hb .nil pass0 ha.pe hdb he hpl, der_callN ha.r⟩
end
def onNest (g1 : G) (ws : List W) (P : List T → Prop) : Prop := match allS (ws.map (g1.treeD 6)) with
  | some ts => P ts
  | none => False
theorem i_callN {g : G} {Q : W → G → Prop} {C : PC} {t : DAt} (h : t g fun ws g1 => onNest g1 ws fun us => C us fun r => onFlatT g1 r Q) : dCallN C t g Q := h
theorem o_nest {g1 : G} {ws : List W} {us : List T} {P : List T → Prop} (e : allS (ws.map (g1.treeD 6)) = some us) (h : P us) : onNest g1 ws P := by unfold onNest; rw [e]; exact h
theorem o_ftT {g1 : G} {Q : W → G → Prop} {x : T} (h1 : x.isFlat = true) (h : Q (.t x) g1) : onFlatT g1 (.t x) Q := ⟨h1, h⟩
end DL

namespace DL
open PySem PySem.Spec L2
/-! xs.index(x): trees -/
section
variable {X : Cx} {o e : Expr} {es : List Expr} {τo : TE} {τs : TA} {to : Dt} {ts : DAt} {apos cpos : Pos} {kk : Nat}
end
/-! all cells freeze: what a slot holds becomes a tree -/
end DL

namespace DL
open PySem PySem.Spec L2
/-! zip and enumerate, walked: lists of trees -/
section
variable {K : PySem.W.Frag} {al : List Addr} {S F H : Hp} {σ : L2.St} {g : G}
/-- a new tuple of an int and a tree, or of two trees -/
theorem Rep.layTup2 (R : Rep K al S F H σ g) {p : Addr} {t u : T} {x y : V} (np : H p = none) (d1 : Den K S t x) (d2 : Den K S u y) :
    ∃ al' S', Rep K al' S' F (upd H p (.tup [x, y])) σ g ∧ Grow al S al' S' ∧ DenW K al' S' (.t (.tup [t, u])) (.ref p) := by
  obtain ⟨R1, gr, d⟩ := R.layTup (ts := [t, u]) (vs := [x, y]) np (.cons d1 (.cons d2 .nil))
  exact ⟨al, _, R1, gr, d⟩
end
section
variable {X : Cx} {e e2 : Expr} {elts : List Expr} {kk : Nat} {τs : TA} {ts : DAt} {p pos tpos : Pos}
end
end DL

namespace DL
open PySem PySem.Spec L2
/-! classes of the program's own: fields by places, made, methods called -/
structure ClsF (K : PySem.W.Frag) (mg : Str → Option Value) (n : Str) (fs : List Str) : Prop where
  ex : ∃ C, PySem.W.nsIn K mainGlobals n = some (some (.ref C)) ∧ mg n = some (.ref C) ∧ Cls K C ∧ ∀ f ∈ fs, NoAttr K C f
  nd : fs.Nodup
  sm : fs.length < 1000
section
variable {X : Cx} {e o : Expr} {es : List Expr} {τe τo : TE} {te to : Dt} {τs : TA} {ts : DAt} {f : Str} {n : Str} {fs : List Str} {pos p' : Pos}
/-! made -/
structure MakeN (P : Program) (w : World) (K : PySem.W.Frag) (mg : Str → Option Value) (base : Heap) (k : Nat) (n : Str) (ps : List Str) (C : SC) : Prop where
  ex : ∃ (A f : Addr) (fd : FuncData), PySem.W.nsIn K mainGlobals n = some (some (.ref A)) ∧ mg n = some (.ref A) ∧ L2.Mk K A f ∧ FnOk P w K mg base CX0 k f fd ps (sps K C) ∧ Binds K fd ps []
/-! methods -/
structure MethN (P : Program) (w : World) (K : PySem.W.Frag) (mg : Str → Option Value) (base : Heap) (k : Nat) (n m : Str) (ps : List Str) (C : SC) : Prop where
  ex : ∃ (A f : Addr) (fd : FuncData), PySem.W.nsIn K mainGlobals n = some (some (.ref A)) ∧ Cls K A ∧ L2.Meth K A m f ∧ FnOk P w K mg base CX0 k f fd ps (sps K C) ∧ Binds K fd ps []
end
section
variable {X : Cx} {e o : Expr} {τe τo : TE} {te to : Dt} {f : Str} {n : Str} {fs : List Str} {pos p' : Pos}
end
/-! what the top has left of methods -/
structure OwM (K : PySem.W.Frag) (mg : Str → Option Value) (n m qual : Str) (st : Stmt) (ps : List Str) : Prop where
  ex : ∃ (A f : Addr) (fd : FuncData), PySem.W.nsIn K mainGlobals n = some (some (.ref A)) ∧ Cls K A ∧ L2.Meth K A m f ∧ Fun K m qual st f fd ∧ Binds K fd ps []
structure OwK (K : PySem.W.Frag) (mg : Str → Option Value) (n qual : Str) (st : Stmt) (ps : List Str) : Prop where
  ex : ∃ (A f : Addr) (fd : FuncData), PySem.W.nsIn K mainGlobals n = some (some (.ref A)) ∧ mg n = some (.ref A) ∧ L2.Mk K A f ∧ Fun K "__init__" qual st f fd ∧ Binds K fd ps []
theorem MethN.mono {P : Program} {w : World} {K : PySem.W.Frag} {mg : Str → Option Value} {base : Heap} {j k : Nat} {n m : Str} {ps : List Str} {C : SC} (h : MethN P w K mg base j n m ps C) (hk : j ≤ k) : MethN P w K mg base k n m ps C := by
  obtain ⟨A, f, fd, a, b, c, d, e⟩ := h.ex
  exact ⟨A, f, fd, a, b, c, d.mono hk, e⟩
theorem MakeN.mono {P : Program} {w : World} {K : PySem.W.Frag} {mg : Str → Option Value} {base : Heap} {j k : Nat} {n : Str} {ps : List Str} {C : SC} (h : MakeN P w K mg base j n ps C) (hk : j ≤ k) : MakeN P w K mg base k n ps C := by
  obtain ⟨A, f, fd, a, b, c, d, e⟩ := h.ex
  exact ⟨A, f, fd, a, b, c, d.mono hk, e⟩
end DL

namespace DL
open PySem PySem.Spec L2
/-! texts -/
section
variable {X : Cx} {a b e e2 o : Expr} {es : List Expr} {τa τb τe τo : TE} {ta tb te to : Dt} {τs : TA} {ts : DAt} {apos cpos pos : Pos} {tg : Expr}
/-- len of a text -/
def fLenS : FN := fun g ws Q => match ws with
  | [.t (.str s)] => s.length ≤ sizeLine ∧ Q (.t (.int (s.length : Nat))) g
  | _ => False
theorem opN_lenS {K : PySem.W.Frag} : OpN K (fun xs H Q => ∃ x n, xs = [x] ∧ LenV K x H n ∧ Q (.int (n : Nat)) H) fLenS := by
  intro al S F H σ g xs ws Q QV R d q k
  unfold fLenS at q
  split at q
  · rename_i s
    obtain ⟨v, rfl, dv⟩ := p1 d
    unfold DenW Den at dv
    subst dv
    exact ⟨_, s.length, rfl, ⟨q.1, rfl⟩, k.tr R (denI _) q.2⟩
  · exact q.elim
end
/-! xs.extend(ys), d.setdefault(k, x) -/
section
variable {X : Cx} {a b e e2 o : Expr} {es : List Expr} {τa τb τe τo : TE} {ta tb te to : Dt} {τs : TA} {ts : DAt} {apos cpos pos : Pos}
end
section
variable {X : Cx} {a b e : Expr} {es : List Expr} {τa : TE} {ta : Dt} {τs : TA} {ts : DAt} {p pos : Pos}
theorem de_lenS (hm : X.mg "len" = none) (ha : DA X (e :: es) τs ts) (hg : Gl X "len" := by rfl) (he : starEach (e :: es) X.env = (false, eval e X.env) :: starEach es X.env := by rfl) (hpl : (backTo pos (starEach es X.env)).any (·.1) = false := by rfl) :
    DE X (.Call (.Name "len" p) (e :: es) [] pos) (tCB (fun xs H Q => ∃ x n, xs = [x] ∧ LenV X.K x H n ∧ Q (.int (n : Nat)) H) τs) (dN fLenS ts) :=
  de_cB call_len opN_lenS hm ha PySem.boot_len hg (by decide) (by decide) he hpl
end
end DL

namespace DL
open PySem PySem.Spec L2
/-! sorted(a dict by whole numbers) -/
section
variable {X : Cx} {e : Expr} {es : List Expr} {τs : TA} {ts : DAt} {p pos : Pos}
end
/-! range(i, j, -1) -/
theorem p3 {K : PySem.W.Frag} {al : List Addr} {S : Hp} {xs : List V} {a b c : W} (h : Paired (DenW K al S) [a, b, c] xs) : ∃ u v x, xs = [u, v, x] ∧ DenW K al S a u ∧ DenW K al S b v ∧ DenW K al S c x := by
  cases h with
  | cons h1 t =>
    obtain ⟨v, x, rfl, h2, h3⟩ := p2 t
    exact ⟨_, v, x, rfl, h1, h2, h3⟩
section
variable {X : Cx} {tg : Expr} {pos : Pos}
end
/-! a pure def that is lent all cells, and hands back a new flat list -/
section
variable {K : PySem.W.Frag} {τs : TA} {ts : DAt}
variable {X : Cx} {e : Expr} {es : List Expr} {pos : Pos}
end
end DL

namespace DL
open PySem PySem.Spec L2 PyProof.Rows
/-! exceptions of own classes, plain ones and such with a field -/
def ExG (C : Addr) (dO : Option Addr) (a : Addr) : HO := .ext fun h => ∃ (oe : Obj) (vs : Array Value), h.get? a = some oe ∧ Zc (.ref C) dO oe ∧ oe.data = .fields vs
section
variable {X : Cx} {pins : List (Addr × Obj)} {σ : L2.St} {H : Hp} {s : Shared} {a C : Addr} {oe : Obj} {dO : Option Addr}
theorem trackG (J : Inv X ((a, oe) :: pins) σ H s) (old : X.s_0.heap.get? a = none) (apart : ∀ q ∈ X.pn ++ pins, q.1 ≠ a) (hz : Zc (.ref C) dO oe) (hf : ∃ vs, oe.data = .fields vs) : Inv X pins σ (upd H a (ExG C dO a)) s := by
  obtain ⟨ha, na, nl, nf, nc⟩ := J.pin (a, oe) (List.mem_append_right _ List.mem_cons_self)
  dsimp only at ha na nl nf nc
  have other : ∀ {b : Addr} {o : HO}, H b = some o → b ≠ a := fun {b o} q z => by
    rw [z, na] at q
    cases q
  have was : ∀ {b : Addr} {o : Obj}, X.s_0.heap.get? b = some o → b ≠ a := fun {b o} q z => by
    rw [z, old] at q
    cases q
  have cne : ∀ y c, X.env.cells.lookup y = some c → c ≠ a := fun y c q z => by
    obtain ⟨v, o, h1, h2⟩ := J.cell y c q
    rw [z, ha] at h1
    cases h1
    exact nc v h2
  refine ⟨J.ok, J.os, J.bare, ⟨J.base.keep, J.base.slot, ?_, J.base.there, ?_, ?_, ?_⟩, J.loc, J.cell, ?_, ?_, ?_, ?_, J.len⟩
  · intro b o h1 h2 h3
    rw [upd_ne (was h1)]
    exact J.base.free b o h1 h2 h3
  · intro b xs h1
    have h2 := J.base.tups b xs h1
    rw [upd_ne (other h2), h2]
  · intro b o u h1
    have h2 := J.base.frzs b o u h1
    rw [upd_ne (other h2), h2]
  · intro b ps h1
    obtain ⟨m, h2⟩ := J.base.tbls b ps h1
    exact ⟨m, by rw [upd_ne (other h2), h2]⟩
  · rw [upd_ne (fun z => nl z.symm)]
    exact J.free
  · intro y c q
    rw [upd_ne (cne y c q)]
    exact J.freeC y c q
  · intro q hq
    obtain ⟨p1, p2, p3⟩ := J.pin q (by
      rcases List.mem_append.mp hq with y | z
      · exact List.mem_append_left _ y
      · exact List.mem_append_right _ (List.mem_cons_of_mem _ z))
    exact ⟨p1, by rw [upd_ne (apart q hq)]; exact p2, p3⟩
  · intro b o q
    by_cases hb : b = a
    · subst hb
      rw [upd_same] at q
      cases q
      obtain ⟨vs, hd⟩ := hf
      refine ⟨⟨oe, vs, ha, hz, hd⟩, ⟨oe, ha⟩, ?_⟩
      rintro h1 h2 ⟨o', v', e1, e2⟩ k
      exact ⟨o', v', k o' e1, e2⟩
    · rw [upd_ne hb] at q
      have st := J.hok b o q
      refine st.stay ?_ ?_ ?_
      · exact fun _ _ _ z => z
      · intro c z
        rw [upd_ne (other z)]
        exact z
      · intro c xs z
        rw [upd_ne (other z)]
        exact z
end
/-- what the clause wishes: the suite, then the exception looked at -/
def wKeepG (K : PySem.W.Frag) (c : Value) (i : Nat) (ts : Addr → TS) (D : Ends) : WX := fun cls d σ H => PySem.W.exmOne K cls c = some true ∧ ∃ C : Addr, cls = .ref C ∧ ∀ a, H a = none →
  ts a { nx := fun σ' H' => D.nx (σ'.set i none) (upd H' a (ExG C d a)), rt := fun _ _ => False, bk := fun _ _ => False, ct := fun _ _ => False } (σ.set i (some (.ref a))) H
section
variable {X : Cx} {x n : Str} {c : Value} {i : Nat} {body suite : List Stmt} {b₀ : Stmt} {np pos pos' : Pos} {tb : WX → TS} {ts : Addr → TS}
theorem ps_try_keepG (hst : X.stack = X.env :: X.outer) (hfr : X.env.frame = some X.env.locals) (hex : X.ex = []) (nd : X.N.Nodup) (hi : X.N[i]? = some n) (loc : X.env.kindOf n = some .local) (nm : Names X x c)
    (body_ok : ∀ (W : WX) (pn : List (Addr × Obj)) (xe : Value → Shared → Prop), Takes (X.tr pn xe) W → PassesOwn (model X.prog X.w) X.A X.env xe → PSs (X.tr pn xe) body (tb W))
    (suite_ok : ∀ (a : Addr) (oe : Obj) (pn : List (Addr × Obj)), (∃ vs, oe.data = .fields vs) → PSs (X.suite a ((a, oe) :: pn)) (b₀ :: suite) (ts a)) :
    PS X (.Try body [.ExceptHandler (some (.Name x np)) (some n) (b₀ :: suite) pos'] [] [] pos) (fun D σ H => tb (wKeepG X.K c i ts D) D σ H) := by
  refine ⟨fun pins s σ H D I wish => ?_⟩
  have frames : X.A.frames = some (X.env :: X.outer) := by
    rw [I.ok.frames, hst]
  let catch_ : Value → Shared → Prop := fun e s₁ =>
    wpAny (model X.prog X.w) X.A (noteFrame e X.env) (fun _ s₂ =>
      wpAny (model X.prog X.w) X.A (setFlight e none) (fun _ s₃ =>
        wpAny (model X.prog X.w) X.A (handleBy e X.env [.ExceptHandler (some (.Name x np)) (some n) (b₀ :: suite) pos']) (SP X pins D) X.xe s₃) X.xe s₂) X.xe s₁
  have takes : Takes (X.tr (X.pn ++ pins) catch_) (wKeepG X.K c i ts D) := by
    rintro u s' ⟨a, B, sI, pins', σ', H', cls, d, rfl, J0, nb, up, sky, na, os, ag, match_, C, rfl, run⟩
    have J := J0.ofTry I.ok
    rw [show (X.tr (X.pn ++ pins) catch_).stack = X.env :: X.outer from hst] at sky
    refine sky.land (M := model X.prog X.w) Zc.steady frames hfr fun hp3 fl3 up3 => ?_
    have B0 : B.get? a = none := fl3.2.1
    have J3 : Inv X pins σ' H' { s' with heap := hp3 } := J.landed nb fl3.1 (up.trans up3) os ag
    obtain ⟨o3, v3, get3, z3, d3⟩ := fl3.there
    have noFrame : a ∉ frs (X.env :: X.outer) := by
      intro hm
      obtain ⟨_, o', e', hn⟩ := fl3.2.2.1.mem hm
      rw [get3] at e'
      cases e'
      exact hn _ d3
    have notLoc : a ≠ X.env.locals := fun z => noFrame (List.mem_filterMap.mpr ⟨X.env, List.mem_cons_self, by rw [hfr, z]⟩)
    have notFs : a ∉ X.fs := by
      intro hm
      obtain ⟨en, he, q⟩ := List.mem_filterMap.mp hm
      exact noFrame (List.mem_filterMap.mpr ⟨en, List.mem_cons_of_mem _ he, q⟩)
    have freshI : ∀ {b : Addr} {o : Obj}, sI.heap.get? b = some o → b ∉ frs X.stack → b ≠ a := fun {b o} e hb z => by
      have := nb b o e hb
      rw [z, B0] at this
      cases this
    have apart : ∀ q ∈ X.pn ++ pins, q.1 ≠ a := by
      intro q hq
      obtain ⟨g1, g2, g3, g4, g5⟩ := J.pin q hq
      refine freshI g1 ?_
      rw [hst]
      intro hm
      obtain ⟨e, he, hq2⟩ := List.mem_filterMap.mp hm
      rcases List.mem_cons.mp he with rfl | hout
      · rw [hfr] at hq2
        injection hq2 with z
        exact (g3 z.symm).elim
      · exact g4 (List.mem_filterMap.mpr ⟨e, hout, hq2⟩)
    have old : X.s_0.heap.get? a = none := by
      cases q : X.s_0.heap.get? a with
      | none => rfl
      | some o =>
        obtain ⟨o', q2⟩ := J.base.there a o q (by rw [hex]; exact fun z => nomatch z)
        exact absurd rfl (freshI q2 (by rw [hst]; exact noFrame))
    have S3 := J3.suite get3 d3 na notLoc notFs
    refine wpAny_handleBy_cons ?_ (by intro q; cases q)
    refine codeAny_handlers_test ?_
    have typ : PySem.W.Looks (model X.prog X.w) hp3 (typeOf (.ref a)) (.ref C) := fun A Q E s k q => wpAny_typeOf_ref (k _ _ get3) (by
      rw [z3.1]
      exact q)
    have yes := PySem.W.exm_one (M := model X.prog X.w) J3.kIn typ match_
    have named : ∀ {Q : Value → Shared → Prop} {E : Value → Shared → Prop}, Q c { s' with heap := hp3 } →
        wpAny (model X.prog X.w) (X.A.mark (some (.ref a))) (eval (.Name x np) X.env) Q E { s' with heap := hp3 } := by
      intro Q E q
      rcases nm with ⟨n1, n2, n3 | ⟨n3, n4, n5⟩⟩
      · exact ld_glob (X := X.suite a ((a, o3) :: (X.pn ++ pins))) S3 n1 n3 q n2
      · exact ld_blt (X := X.suite a ((a, o3) :: (X.pn ++ pins))) S3 n1 n3 n4 q n5 n2
    refine named (yes.here (codeAny_handlers_suite_as ?_))
    refine HandSPX.lands_againZ fl3 fun hp4 fl4 up4 => ?_
    have J4 : Inv X pins σ' H' { s' with heap := hp4 } := J.landed nb fl4.1 ((up.trans up3).trans up4) os ag
    obtain ⟨o4, v4, get4, z4, d4⟩ := fl4.there
    have S4 := J4.suite get4 d4 na notLoc notFs
    refine store_ok (X := X.suite a ((a, o4) :: (X.pn ++ pins))) (v := .ref a) S4 nd hi (.inl loc) rfl (fun s5 S5 => ?_) (.inr loc)
    have sr := (suite_ok a o4 (X.pn ++ pins) ⟨_, d4⟩).run [] s5 _ H' _ S5 (run a na)
    refine wpAny_mono sr (fun f s6 hsp => ?_) (fun _ _ z => False.elim z)
    cases f with
    | next =>
      obtain ⟨σe, He, Se, qe⟩ := hsp
      refine gone_ok (keepPin Se I.ok) nd hi loc fun s7 J7 => ?_
      exact ⟨_, _, trackG J7 old apart z4 ⟨_, d4⟩, qe⟩
    | brk =>
      obtain ⟨_, _, _, z⟩ := hsp
      exact z.elim
    | cont =>
      obtain ⟨_, _, _, z⟩ := hsp
      exact z.elim
    | ret u =>
      obtain ⟨_, _, _, _, _, z⟩ := hsp
      exact z.elim
  have br := (body_ok (wKeepG X.K c i ts D) (X.pn ++ pins) catch_ takes PassesOwn.looking).run [] s σ H D (I.toTry _) wish
  refine wpAny_Try_except (wpAny_mono br (fun f s1 hsp => ?_) (fun e s1 he => he))
  cases f with
  | next =>
    obtain ⟨σb, Hb, J', q⟩ := hsp
    exact wpAny_execs_nil ⟨_, _, J'.ofTry I.ok, q⟩
  | brk =>
    obtain ⟨σb, Hb, J', q⟩ := hsp
    exact ⟨_, _, J'.ofTry I.ok, q⟩
  | cont =>
    obtain ⟨σb, Hb, J', q⟩ := hsp
    exact ⟨_, _, J'.ofTry I.ok, q⟩
  | ret u =>
    obtain ⟨v, σb, Hb, J', r, q⟩ := hsp
    exact ⟨v, _, _, J'.ofTry I.ok, r, q⟩
end
/-! CountError.__init__(self, ..) -/
section
variable {X : Cx} {e : Expr} {es : List Expr} {ta : TA} {p1 p2 pos : Pos} {x : Str}
end
/-! what is raised, told as a thing -/
def XIs (K : PySem.W.Frag) (S : Hp) (cls : Value) (d : Option Addr) (x : T) : Prop := match x with
  | .exc n => ∃ C : Addr, PySem.W.nsIn K mainGlobals n = some (some (.ref C)) ∧ cls = .ref C ∧ d = none
  | .exf n f (.int i) => ∃ C dd : Addr, PySem.W.nsIn K mainGlobals n = some (some (.ref C)) ∧ cls = .ref C ∧ d = some dd ∧ S dd = some (.xd [(f, .int i)])
  | _ => False
abbrev RY := List T → T → Prop
def spy (K : PySem.W.Frag) (C : RY) : Sp := fun vs H Q E => ∃ (S F : Hp) (ws : List W) (ts : List T) (x : T), RepM K [] S F H (([] : List Cell).map some) ∧ Paired (DenW K [] S) ws vs ∧ treesW ws = some ts ∧ C ts x ∧
  ∀ S' H' cls d, RepM K [] S' F H' (([] : List Cell).map some) → Same S S' → XIs K S' cls d x → E cls d H'
abbrev DEy := T → G → Prop
def Ly (K : PySem.W.Frag) (al : List Addr) (S F : Hp) (E : DEy) (W : WX) : Prop := ∀ (x : T) (cls : Value) (d : Option Addr) (al' : List Addr) (S' H' : Hp) (σ' : L2.St) (g' : G), XIs K S' cls d x → Rep K al' S' F H' σ' g' → Grow al S al' S' → E x g' → W cls d σ' H'
theorem Ly.grow {K : PySem.W.Frag} {al al1 : List Addr} {S S1 F : Hp} {E : DEy} {W : WX} (k : Ly K al S F E W) (gr : Grow al S al1 S1) : Ly K al1 S1 F E W :=
  fun x cls d al' S' H' σ' g' hx R g2 q => k x cls d al' S' H' σ' g' hx R (gr.trans g2) q
abbrev DYt := De → DEy → G → Prop
def DYr (K : PySem.W.Frag) (W : WX) (τ : TS) (t : DYt) : Prop := ∀ (al : List Addr) (S F H : Hp) (σ : L2.St) (g : G) (D : De) (DV : Ends) (E : DEy), Rep K al S F H σ g → t D E g → Lk K al S F D DV → Ly K al S F E W → τ DV σ H
structure DY (X : Cx) (W : WX) (st : Stmt) (τ : TS) (t : DYt) : Prop where
  pe : PS X st τ
  r : DYr X.K W τ t
structure DYs (X : Cx) (W : WX) (st : List Stmt) (τ : TS) (t : DYt) : Prop where
  pe : PSs X st τ
  r : DYr X.K W τ t
/-- an expression that raises -/
structure DEY (X : Cx) (W : WX) (e : Expr) (τ : TE) (t : DEy → G → Prop) : Prop where
  pe : PE X e τ
  r : ∀ (al : List Addr) (S F H : Hp) (σ : L2.St) (g : G) (E : DEy) (QV : VK), Rep X.K al S F H σ g → t E g → Ly X.K al S F E W → τ σ H QV
section
variable {X : Cx} {W : WX} {st : Stmt} {rest A B : List Stmt} {τ τ' : TS} {t : DSt} {tx ux : DYt} {e : Expr} {τe : TE} {te : DEy → G → Prop} {pos : Pos}
def yPlain (t : DSt) : DYt := fun D _ g => t D g
theorem dy_plain (h : DS X st τ t) : DY X W st τ (yPlain t) := ⟨h.pe, fun al S F H σ g D DV E R q k _ => h.r al S F H σ g D DV R q k⟩
theorem dys_plain (h : DSs X rest τ t) : DYs X W rest τ (yPlain t) := ⟨h.pe, fun al S F H σ g D DV E R q k _ => h.r al S F H σ g D DV R q k⟩
def ySeq (t u : DYt) : DYt := fun D E g => t { D with nx := fun g' => u D E g' } E g
theorem dys_cons (h1 : DY X W st τ tx) (h2 : DYs X W rest τ' ux) : DYs X W (st :: rest) (tSeq τ τ') (ySeq tx ux) := by
  refine ⟨pss_cons h1.pe h2.pe, fun al S F H σ g D DV E R q k kx => ?_⟩
  refine h1.r al S F H σ g { D with nx := fun g' => ux D E g' } { DV with nx := τ' DV } E R q ⟨fun al1 S1 H1 σ1 g1 R1 gr1 q1 => ?_, k.rt, k.bk, k.ct⟩ kx
  exact h2.r al1 S1 F H1 σ1 g1 D DV E R1 q1 (k.grow gr1) (kx.grow gr1)
theorem dys_one (h : DY X W st τ tx) : DYs X W [st] τ tx := ⟨pss_one h.pe, h.r⟩
theorem dys_nil : DYs X W [] tNext (yPlain dNext) := dys_plain dss_nil
def yIf (c : DTt) (t u : DYt) : DYt := fun D E g => c g fun b g1 => if b = true then t D E g1 else u D E g1
theorem dy_if {c : Expr} {τc : TT} {tc : DTt} (hc : DT X c τc tc) (ha : DYs X W A τ tx) (hb : DYs X W B τ' ux) : DY X W (.If c A B pos) (tIfS τc τ τ') (yIf tc tx ux) := by
  refine ⟨ps_if hc.pe ha.pe hb.pe, fun al S F H σ g D DV E R q k kx => ?_⟩
  refine hc.r al S F H σ g _ _ R q fun al1 S1 H1 g1 b1 R1 gr1 q1 => ?_
  cases b1 with
  | true =>
    simp only [if_true] at q1 ⊢
    exact ha.r al1 S1 F H1 σ g1 _ _ _ R1 q1 (k.grow gr1) (kx.grow gr1)
  | false =>
    simp only [Bool.false_eq_true, if_false] at q1 ⊢
    exact hb.r al1 S1 F H1 σ g1 _ _ _ R1 q1 (k.grow gr1) (kx.grow gr1)
def yExpr (t : DEy → G → Prop) : DYt := fun _ E g => t E g
theorem dy_expr (h : DEY X W e τe te) (hs : swapsWith e none pos.line X.env = pure false := by rfl) : DY X W (.Expr e pos) (tDrop τe) (yExpr te) :=
  ⟨ps_expr h.pe hs, fun al S F H σ g D DV E R q k kx => h.r al S F H σ g E _ R q kx⟩
end
/-! calls of defs that refuse -/
def yCall (C : RY) (t : DAt) : DEy → G → Prop := fun E g => t g fun ws g1 => match treesW ws with
  | some us => ∃ x, C us x ∧ E x g1
  | none => False
section
variable {X : Cx} {W : WX} {e : Expr} {es : List Expr} {τs : TA} {ts : DAt} {pos p : Pos}
theorem dey_call {k : Nat} {f : Addr} {fd : FuncData} {ps : List Str} {C : RY} {x : Str} (tk : Takes X W) (F : FnOk X.prog X.w X.K X.mg X.base (L2.CX X.prog X.w) k f fd ps (spy X.K C)) (hr : Room k X.A) (hm : X.mg x = some (.ref f)) (hk : PySem.W.keepIn X.K (.ref f) = true) (hb : Binds X.K fd ps [])
    (ha : DA X (e :: es) τs ts) (hg : Gl X x := by rfl) (hdb : (x == ("__debug__" : Str)) = false := by decide) (he : starEach (e :: es) X.env = (false, eval e X.env) :: starEach es X.env := by rfl) (hpl : (backTo pos (starEach es X.env)).any (·.1) = false := by rfl) :
    DEY X W (.Call (.Name x p) (e :: es) [] pos) (tCallS (spy X.K C) (WE W) τs) (yCall C ts) := by
  refine ⟨pe_callS F hr hg hm hk hb (fun σ => passAt tk σ) ha.pe hdb he hpl, fun al S Fr H σ g E QV R q kx => ?_⟩
  refine ha.r al S Fr H σ g _ _ R q fun al1 S1 H1 g1 vs ws R1 gr1 e1 q1 => ?_
  split at q1
  · rename_i us eu
    obtain ⟨y, hC, hE⟩ := q1
    refine ⟨S1, frOf al1 Fr H1 g1.mem [], ws, us, y, R1.toRepM.none0, denW_trees eu e1, eu, hC, fun S2 H2 cls d M2 sS hx => ?_⟩
    exact kx y cls d al1 S2 H2 σ g1 hx (R1.withM2 ⟨⟨[], by simp⟩, sS⟩ (R1.toRepM.back sS M2.same M2.fr M2.dis)) (gr1.trans ⟨⟨[], by simp⟩, sS⟩) hE
  · exact q1.elim
end
/-! a def that refuses -/
section
variable {P : Program} {w : World} {K : PySem.W.Frag} {mg : Str → Option Value} {base : Heap}
theorem yfn_ok {x qual : Str} {st : Stmt} {f : Addr} {fd : FuncData} {N ps : List Str} {k : Nat} {C : RY} (Fn : Fun K x qual st f fd) (Sc : FnScope N ps (defScope st)) (hlen : ∀ ts n, C ts n → ts.length = ps.length)
    (hb : ∀ (cdv : Value) (A : Around) (outer : List Env) (s : Shared) (H : Hp) (E : XK), Room k (A.deeper (PyProof.Rows.envOfC qual (defScope st) s.heap.objs.size f cdv)) →
      Takes (cxOf (L2.CX P w) P w K mg base N qual (defScope st) f cdv A outer s H E) (fun cls d _ H' => E cls d H') →
      ∃ τ t, DYs (cxOf (L2.CX P w) P w K mg base N qual (defScope st) f cdv A outer s H E) (fun cls d _ H' => E cls d H') (defBody st) τ t ∧ ∀ ts x, C ts x → t ⟨fun _ => False, fun _ _ => False, fun _ => False, fun _ => False⟩ (fun m _ => m = x) ⟨ts.map (fun t => some (W.t t)) ++ List.replicate (N.length - ts.length) none, []⟩) :
    FnOk P w K mg base (L2.CX P w) (k + 1) f fd ps (spy K C) := by
  refine Fn.okX Sc (fun vs H Q E h => ?_) fun cdv A outer s H vs Q E hr h => ?_
  · obtain ⟨S, F, ws, ts, y, M, d, eu, c, q⟩ := h
    rw [← d.length, treesW_eq eu, List.length_map]
    exact hlen _ _ c
  · obtain ⟨S, F, ws, ts, y, M, d, eu, c, q⟩ := h
    obtain ⟨τ, t, D, ht⟩ := hb cdv A outer s H E hr (takes_of rfl rfl rfl rfl)
    refine ⟨τ, D.pe, ?_⟩
    have R := start_rep (N := N) M d
    have ew := treesW_eq eu
    subst ew
    have hw : (ts.map W.t).map some = ts.map (fun t => some (W.t t)) := by rw [List.map_map]; rfl
    rw [hw, List.length_map] at R
    refine D.r [] S F H _ _ _ _ _ R (ht ts y c) ⟨fun _ _ _ _ _ _ _ z => z.elim, fun _ _ _ _ _ _ _ _ _ _ z => z.elim, fun _ _ _ _ _ _ _ z => z.elim, fun _ _ _ _ _ _ _ z => z.elim⟩ fun y' cls dO al' S' H' σ' g' hx R' gr' e' => ?_
    subst e'
    have M' := R'.toRepM.sub (r := []) (m2 := []) List.nodup_nil (fun j hj => by simp at hj) rfl (fun i c e => by simp at e)
    exact q S' H' cls dO M' gr'.s hx
end
/-! raise -/
def yRaise (n : Str) : DYt := fun _ E g => E (.exc n) g
section
variable {X : Cx} {W : WX} {pos pos' p p2 : Pos}
theorem dy_raise {x m : Str} {j : Nat} {C : Addr} (hc : X.calm = true) (tk : Takes X W) (c : XM X.K X.mg x C) (hg : Gl X x := by rfl) (hdb : (x == ("__debug__" : Str)) = false := by decide) :
    DY X W (.Raise (some (.Call (.Name x p) [.Constant (.str m) j p2] [] pos)) none pos') (fun _ σ H => W (.ref C) none σ H) (yRaise x) :=
  ⟨ps_raise hc tk (pmk_own PySem.F.excBase_ValueError c.ex c.gm c.kept (raises_own c.sb c.ty) hg hdb), fun al S F H σ g D DV E R q k kx => kx (.exc x) (.ref C) none al S H σ g ⟨C, c.ns, rfl, rfl⟩ R (Grow.refl _ _) q⟩
end
/-! more that raises -/
section
variable {X : Cx} {W : WX} {st : Stmt} {rest : List Stmt} {τ τ' : TS} {tx ux : DYt} {e : Expr}
def yDead : DYt := fun _ _ _ => False
theorem dys_dead : DYs X W rest (fun _ _ _ => False) yDead := ⟨⟨fun pins s σ H D I h => h.elim⟩, fun al S F H σ g D DV E R q k kx => q⟩
/-- a suite's wish, told by its reading -/
def semY (K : PySem.W.Frag) (t : DYt) (W : WX) : TS := fun D σ H => ∃ (al : List Addr) (S F : Hp) (g : G) (Dd : De) (E : DEy), Rep K al S F H σ g ∧ t Dd E g ∧ Lk K al S F Dd D ∧ Ly K al S F E W
theorem DYs.sem {sts : List Stmt} {t : DYt} (h : DYs X W sts τ t) : PSs X sts (semY X.K t W) := ⟨fun pins s σ H D I ⟨al, S, F, g, Dd, E, R, q, k, kx⟩ => h.pe.run pins s σ H D I (h.r al S F H σ g Dd D E R q k kx)⟩
end
section
variable {X : Cx} {W : WX} {st : Stmt} {A B : List Stmt} {τ τ' : TS} {tx ux : DYt} {e a b : Expr} {τe τb : TE} {te : DEy → G → Prop} {pos : Pos}
structure DTY (X : Cx) (W : WX) (e : Expr) (τ : TT) (t : DEy → G → Prop) : Prop where
  pe : PT X e τ
  r : ∀ (al : List Addr) (S F H : Hp) (σ : L2.St) (g : G) (E : DEy) (QV : Bool → Hp → Prop), Rep X.K al S F H σ g → t E g → Ly X.K al S F E W → τ σ H QV
end
/-! a loop that may raise -/
def yFor (it : DIt) (gt : DGt) (tb : DYt) : DYt := fun D E g => it g fun ws St g1 => ∃ I : Nat → G → Prop, I 0 g1 ∧ (∀ i g', I i g' → St g') ∧
  (∀ i w g', ws[i]? = some w → I i g' → gt w g' fun g2 => tb { D with nx := I (i + 1), ct := I (i + 1), bk := D.nx } E g2) ∧ (∀ g', I ws.length g' → D.nx g')
section
variable {X : Cx} {W : WX} {tg iter : Expr} {τ : TS} {t : DYt} {pos : Pos}
end
/-- a loop that may raise, step by step -/
def forYI (ws : List W) (St : G → Prop) (g1 : G) (gt : DGt) (tb : DYt) (D : De) (E : DEy) : Prop := ∃ I : Nat → G → Prop, I 0 g1 ∧ (∀ i g', I i g' → St g') ∧
  (∀ i w g', ws[i]? = some w → I i g' → gt w g' fun g2 => tb { D with nx := I (i + 1), ct := I (i + 1), bk := D.nx } E g2) ∧ (∀ g', I ws.length g' → D.nx g')
theorem y_for {it : DIt} {gt : DGt} {t : DYt} {D : De} {E : DEy} {g : G} (h : it g fun ws St g1 => forYI ws St g1 gt t D E) : yFor it gt t D E g := h
/-! raise with a field -/
def spI (C : Addr) (f : Str) : Sp := fun vs H Q _ => ∃ (a : Addr) (y : V), vs = [.ref a, y] ∧ H a = some (exo a C none) ∧ ∀ dx, H dx = none → dx ≠ a → Q .non (upd (upd H dx (exd dx [(f, y)])) a (exo a C (some dx)))
structure IniF (P : Program) (w : World) (K : PySem.W.Frag) (mg : Str → Option Value) (base : Heap) (k : Nat) (n f : Str) : Prop where
  ex : ∃ (C fI : Addr) (fd : FuncData) (ps : List Str), PySem.W.nsIn K mainGlobals n = some (some (.ref C)) ∧ mg n = some (.ref C) ∧ OexC K C ∧ PySem.W.findIn K (.ref C) "__init__" = some (some (.ref fI)) ∧ PySem.W.typeIn K (.ref fI) = some (.type "function") ∧ FnOk P w K mg base CX0 k fI fd ps (spI C f) ∧ Binds K fd ps []
theorem IniF.mono {P : Program} {w : World} {K : PySem.W.Frag} {mg : Str → Option Value} {base : Heap} {j k : Nat} {n f : Str} (h : IniF P w K mg base j n f) (hk : j ≤ k) : IniF P w K mg base k n f := by
  obtain ⟨C, fI, fd, ps, a, b, c, d, e, F, g⟩ := h.ex
  exact ⟨C, fI, fd, ps, a, b, c, d, e, F.mono hk, g⟩
section
variable {X : Cx} {W : WX} {pos pos' p : Pos} {e : Expr} {τs : TA} {ts : DAt}
end
/-! steps -/
section
variable {D : De} {E : DEy} {g : G} {t u : DYt}
theorem y_seq (h : t { D with nx := fun g' => u D E g' } E g) : ySeq t u D E g := h
theorem y_plain {t : DSt} (h : t D g) : yPlain t D E g := h
theorem y_if {c : DTt} (h : c g fun b g1 => if b = true then t D E g1 else u D E g1) : yIf c t u D E g := h
theorem y_expr {t : DEy → G → Prop} (h : t E g) : yExpr t D E g := h
theorem y_call {C : RY} {ts : DAt} (h : ts g fun ws g1 => onTs ws fun us => ∃ y, C us y ∧ E y g1) : yCall C ts E g := h
theorem y_raise {n : Str} (h : E (.exc n) g) : yRaise n D E g := h
end
/-! try: .. except CountError as e: caught = e -/
def T.xn : T → Option Str
  | .exc n => some n
  | .exf n _ _ => some n
  | _ => none
def dTryY (R : List Str) (i j : Nat) (t : DYt) : DSt := fun D g => t D (fun x g' => (∃ n ∈ R, x.xn = some n) ∧ i < g'.sl.length ∧ D.nx ((g'.set j (.t x)).wipe [i])) g
theorem xis_cls {K : PySem.W.Frag} {S : Hp} {cls : Value} {d : Option Addr} {x : T} {n : Str} (h : XIs K S cls d x) (hn : x.xn = some n) : ∃ C : Addr, PySem.W.nsIn K mainGlobals n = some (some (.ref C)) ∧ cls = .ref C := by
  unfold XIs at h
  split at h
  · cases hn
    obtain ⟨C, h1, h2, _⟩ := h
    exact ⟨C, h1, h2⟩
  · cases hn
    obtain ⟨C, dd, h1, h2, _⟩ := h
    exact ⟨C, h1, h2⟩
  · exact h.elim
theorem xis_den {K : PySem.W.Frag} {al : List Addr} {S : Hp} {C a : Addr} {d : Option Addr} {x : T} (h : XIs K S (.ref C) d x) (na : S a = none) : DenW K al (upd S a (ExG C d a)) (.t x) (.ref a) := by
  unfold XIs at h
  split at h
  · obtain ⟨C', h1, h2, rfl⟩ := h
    cases h2
    unfold DenW Den
    exact ⟨a, C, rfl, h1, upd_same⟩
  · obtain ⟨C', dd, h1, h2, rfl, h4⟩ := h
    cases h2
    unfold DenW Den
    refine ⟨a, C, dd, _, rfl, h1, upd_same, ?_, by unfold Den; rfl⟩
    rw [upd_ne (fun z => by rw [z, na] at h4; cases h4)]
    exact h4
  · exact h.elim
section
variable {X : Cx}
theorem ds_tryY {R M : List Str} (i j : Nat) {n z : Str} {body : List Stmt} {np ps1 ps2 ps3 pos pos' : Pos} {t : DYt} (hij : i ≠ j) (xi : XI X.K X.mg R M) (nd : X.N.Nodup)
    (body_ok : ∀ (W : WX) (pn : List (Addr × Obj)) (xe : Value → Shared → Prop), Takes (X.tr pn xe) W → ∃ τ, DYs (X.tr pn xe) W body τ t)
    (hst : X.stack = X.env :: X.outer := by rfl) (hfr : X.env.frame = some X.env.locals := by rfl) (hex : X.ex = [] := by rfl) (hi : X.N[i]? = some n := by rfl) (hj : X.N[j]? = some z := by rfl) (loc : X.env.kindOf n = some .local := by rfl) (locz : X.env.kindOf z = some .local := by rfl) (hg : Gl X "CountError" := by rfl)
    (hdn : (n == ("__debug__" : Str)) = false := by decide) (hcn : (n == ("__classdict__" : Str)) = false := by decide)
    (sok : ∀ (a : Addr) (pn : List (Addr × Obj)), swapsWith (.Name n ps1) (some (.Name z ps2)) ps3.line (X.suite a pn).env = pure false := by intro _ _; rfl) :
    ∃ τ, DS X (.Try body [.ExceptHandler (some (.Name "CountError" np)) (some n) [.Assign [.Name z ps2] (.Name n ps1) ps3] pos'] [] [] pos) τ (dTryY R i j t) := by
  obtain ⟨Cc, mc, hc⟩ := xi.exm
  have nm : Names X "CountError" (.ref Cc) := ⟨hg, by decide, .inl mc⟩
  have pe := ps_try_keepG (X := X) (x := "CountError") (n := n) (c := .ref Cc) (i := i) (body := body) (suite := []) (b₀ := .Assign [.Name z ps2] (.Name n ps1) ps3) (np := np) (pos := pos) (pos' := pos') (tb := semY X.K t) (ts := fun _ => tAsg (tVar i) (gName j)) hst hfr hex nd hi loc nm
    (fun W pn xe tk _ => by
      obtain ⟨τ, d⟩ := body_ok W pn xe tk
      exact d.sem)
    (fun a oe pn _ => pss_one (ps_set (X := X.suite a ((a, oe) :: pn)) (i := j) nd hj (.inl locz) (pe_var (X := X.suite a ((a, oe) :: pn)) hi (.inl loc) hdn hcn) (sok a _) (.inr locz)))
  refine ⟨_, pe, fun al S F H σ g D DV R0 q k => ?_⟩
  refine ⟨al, S, F, g, D, _, R0, q, k, fun x cls dO al1 S1 H1 σ1 g1 hx R1 gr1 hE => ?_⟩
  obtain ⟨⟨m, hmR, hxm⟩, hlen, hnx⟩ := hE
  obtain ⟨Cm, hm, rfl⟩ := xis_cls hx hxm
  refine ⟨hc m hmR Cm hm, Cm, rfl, fun a na => ?_⟩
  refine ⟨.ref a, ?_, ?_⟩
  · rw [List.getElem?_set_self (by rw [← R1.slen]; exact hlen)]
  · have nS : S1 a = none := by
      cases e : S1 a with
      | none => rfl
      | some o => rw [R1.same a o e] at na; cases na
    obtain ⟨R2, gr2⟩ := R1.layT (o := ExG Cm dO a) na
    have d2 : DenW X.K al1 (upd S1 a (ExG Cm dO a)) (.t x) (.ref a) := xis_den hx nS
    have R3 := (R2.setSlot (i := j) d2).wiped (vs := [i])
    have es : ((σ1.set i (some (V.ref a))).set j (some (V.ref a))).set i none = wipe (σ1.set j (some (V.ref a))) [i] := set_w _ hij _ _ _
    show DV.nx (((σ1.set i (some (V.ref a))).set j (some (V.ref a))).set i none) (upd H1 a (ExG Cm dO a))
    rw [es]
    exact k.nx _ _ _ _ _ R3 (gr1.trans gr2) hnx
end
end DL
/-! isinstance asks an exception's class, whatever stands in its own dict: the class's `__class__` takes and so comes first -/
namespace PySem.W
open PySem PySem.Spec PySem.Calls PyProof.Rows
section
variable {prog : Program} {w : World} {A : Around} {E : Value → Shared → Prop} {s : Shared} {K : Frag} {x D : Addr} {ox : Obj} {od : Option Obj}
theorem dl_findObj_data {C : Addr} {name : Str} {a g : Value} (hc : (clsIn K C).isSome = true) (ha : findIn K (.ref C) name = some (some a)) (hg : specialIn K a "__get__" = some (some g)) (ht : takesIn K a = some true) : findObj K C od name = some (.bind g a) := by
  obtain ⟨cd, hc⟩ := Option.isSome_iff_exists.mp hc
  unfold findObj
  rw [hc, Option.bind_some, ha, Option.bind_some]
  simp [hg, ht]
theorem dl_class (hga : findIn K (.ref D) "__getattribute__" = some (some (.builtin "BaseException.__getattribute__"))) (hgt : findIn K (.ref D) "__getattr__" = some none) (hsub : subIn K (.ref D) (.type "BaseException") = some true)
    (hdct : hasDictIn K D = true) (ha : findIn K (.ref D) "__class__" = some (some (.builtin "object.__class__")))
    (hn : specialIn K (.builtin "object.__class__") "__get__" = some (some (.builtin "getset_descriptor.__get__"))) (htk : takesIn K (.builtin "object.__class__") = some true) (hm : mroIn K D (.type "object") = some true)
    {Q : Option Value → Shared → Prop} (X : K.In s.heap) (I : InstAt s.heap x ox D od) (h : Q (some (.ref D)) { s with toks := s.toks + 1 }) : wpAny (model prog w) A (getAttr? (.ref x) "__class__") Q E s := by
  have hf : findObj K D od "__class__" = some (.bind (.builtin "getset_descriptor.__get__") (.builtin "object.__class__")) := dl_findObj_data (by obtain ⟨cd, hc, _⟩ := any_some hdct; rw [hc]; rfl) ha hn htk
  obtain ⟨hp, g, d, t, os⟩ := s
  have L0 := I.type (M := model prog w)
  have L1 := looks_findIn (M := model prog w) X hga
  have L2 := looks_findIn (M := model prog w) X hgt
  have L3 := looks_find (M := model prog w) X I hf
  have sub : Looks (model prog w) hp (isInstance (.ref x) (.type "BaseException")) true := L0.andThen (looks_subIn X hsub)
  have hx2 : (Value.builtin "BaseException.__getattribute__" == Value.builtin "object.__getattribute__") = false := by decide +kernel
  have hx1 : (onTheHeap (Value.ref D) && Value.builtin "BaseException.__getattribute__" == Value.builtin "object.__getattribute__") = false := by rw [hx2]; rfl
  have hx0 : (false && onTheHeap (Value.builtin "BaseException.__getattribute__")) = false := rfl
  unfold getAttr? getAttrBy? getAttrBy
  refine wpAny_bind (wpAny_mkText (wpAny_bind (wpAny_attempt (wpAny_holding (wpAny_bind (L0.at (wpAny_bind (L1.at ?_))))))))
  show wpAny _ _ (if (onTheHeap (Value.ref D) && Value.builtin "BaseException.__getattribute__" == Value.builtin "object.__getattribute__") = true then _ else _) _ _ _
  rw [hx1, if_neg Bool.false_ne_true]
  unfold getAttrByItsOwn hookBefore
  refine wpAny_bind ?_
  rw [if_pos (show onTheHeap (Value.ref D) = true from rfl)]
  refine L2.at (wpAny_bind (wpAny_attempt (wpAny_holding ?_)))
  unfold callGetattribute
  rw [hx0, if_neg Bool.false_ne_true]
  unfold boundAndCalled
  rw [PySem.F.excAttr_ValueError.ga.bind (.ref x)]
  refine wpAny_bind (wpAny_pure ?_)
  show wpAny _ _ (call (.builtin "BaseException.__getattribute__") [.ref x, .str "__class__" t]) _ _ _
  refine wpAny_call (codeAny_call_builtin PySem.F.excAttr_ValueError.ga.plain PySem.F.entry_bexc_ga ?_)
  refine @check_slot (model prog w) _ _ ⟨hp, g, d, t + 1, os⟩ "BaseException.__getattribute__" "BaseException" "__getattribute__" (.ref x) [.str "__class__" t] [] _ (by decide +kernel) (by decide +kernel) sub (PySem.F.args_bexc_ga (.ref x) (.str "__class__" t)) ?_
  unfold Builtin.«object.__getattribute__»
  refine wpAny_bind (wpAny_of_eq (a := ((Value.ref x : Value), [Value.str "__class__" t])) (by first | rfl | (simp only [slotArgs]; rfl)) ?_)
  refine wpAny_bind (wpAny_pure (wpAny_bind (L0.at (wpAny_bind (L3.at ?_)))))
  show wpAny _ _ (holding [Value.builtin "object.__class__"] (call (.builtin "getset_descriptor.__get__") [.builtin "object.__class__", .ref x, .ref D]) >>= ret) _ _ _
  refine wpAny_bind (wpAny_holding (wpAny_call (class_get (s := ⟨hp, g, d, t + 1, os⟩) (ox := ox) (od := od) X I hm ?_)))
  refine wpAny_pure ?_
  show wpAny _ _ (handedOut (.ref D)) _ _ _
  rw [handedOut_of (v := .ref D) rfl]
  first
    | exact wpAny_pure (wpAny_pure h)
    | exact wpAny_pure h
    | exact wpAny_pure (wpAny_bind (wpAny_pure (wpAny_pure h)))
theorem dl_kitx (c : L2.ExcC K D) : KitX K (.ref x) (.ref D) (fun h => InstAt h x ox D od) := by
  have k0 := handS_kitx_exc (x := x) (ox := ox) c.hg c.hk c.hs c.hd c.ha c.hn c.ht c.hm
  exact ⟨fun _ _ _ I => I.type, (fun _ _ X _ => by
      obtain ⟨cdD, hcD, _⟩ := any_some c.hd
      unfold clsIn at hcD
      split at hcD
      · rename_i c' d' cd' sl' ho
        intro A' Q' E' s' k q
        unfold isType loadHead
        exact wpAny_bind (wpAny_loadPart (k _ _ (X _ _ ho)) (wpAny_pure q))
      · cases hcD), k0.ne, fun X I k => dl_class c.hg c.hk c.hs c.hd c.ha c.hn c.ht c.hm X I k⟩
end
end PySem.W
namespace DL
open PySem PySem.Spec L2 PyProof.Rows
/-! isinstance of what was caught -/
def dIsY (R : List Str) (i : Nat) (ms : List Str) : Dt := fun g Q => match g.sl[i]? with | some (some (.t x)) => ∃ n ∈ R, x.xn = some n ∧ Q (.t (.bl (ms.any (subX n)))) g | _ => False
theorem exg_inst {X : Cx} {pins : List (Addr × Obj)} {σ : L2.St} {H : Hp} {s : Shared} {C a : Addr} {dO : Option Addr} (I : Inv X pins σ H s) (ha : H a = some (ExG C dO a)) (hd : ∀ d, dO = some d → ∃ fs, H d = some (.xd fs)) : ∃ oe od, PySem.W.InstAt s.heap a oe C od := by
  have look := I.hok a _ ha
  obtain ⟨⟨oe, fv, h1, z, hdt⟩, _, _⟩ := look
  cases dO with
  | none =>
    refine ⟨oe, none, ?_⟩
    obtain ⟨k1, k2, k3, k4⟩ := oe
    obtain ⟨z1, z2⟩ := z
    dsimp only at z1 z2 hdt
    subst z1 z2 hdt
    exact ⟨h1, rfl, rfl, trivial⟩
  | some d =>
    obtain ⟨fs, hfs⟩ := hd d rfl
    have hx : ObjOk X.prog X.w H s.heap d (.xd fs) := I.hok d _ hfs
    obtain ⟨mA, hns, hr⟩ := hx
    obtain ⟨od, ho, hl⟩ := lookIn_ns hns
    exact ⟨oe, some od, h1, z.1, by unfold PySem.W.notCls; rw [hdt] <;> rfl, by rw [z.2]; exact ho⟩
theorem call_isG1 {X : Cx} : CallR X (.builtin "isinstance") (fun xs H Q => ∃ C, ExcC X.K C ∧ ∃ (a : Addr) (dO : Option Addr) (cv : V) (u : Value) (b : Bool), xs = [.ref a, cv] ∧ H a = some (ExG C dO a) ∧ (∀ d, dO = some d → ∃ fs, H d = some (.xd fs)) ∧ ClsV cv u ∧ PySem.W.kitOne X.K (.ref C) u = some b ∧ Q (.bl b) H) := by
  intro pins s σ H args vals Q I rv0 h
  obtain ⟨C, c, a, dO, cv, u, b, rfl, ha, hdx, hp, hb, q⟩ := h
  obtain ⟨u1, u2, rfl, r1, r2⟩ := vals2 rv0
  obtain rfl : u1 = Value.ref a := r1
  have e2 := hp.eq r2
  subst e2
  obtain ⟨oe, od, inst⟩ := exg_inst I ha hdx
  exact PySem.W.kia_one (PySem.W.dl_kitx c) I.kIn inst hb (fun z => nomatch z) fun tk => ⟨.bl b, H, I.tok tk, rfl, q⟩
theorem den_exc {K : PySem.W.Frag} {al : List Addr} {S : Hp} {x : T} {n : Str} {v : V} (d : DenW K al S (.t x) v) (h : x.xn = some n) : ∃ (a C : Addr) (dO : Option Addr), v = .ref a ∧ PySem.W.nsIn K mainGlobals n = some (some (.ref C)) ∧ S a = some (ExG C dO a) ∧ ∀ dd, dO = some dd → ∃ fs, S dd = some (.xd fs) := by
  unfold T.xn at h
  split at h
  · cases h
    unfold DenW Den at d
    obtain ⟨a, C, rfl, hC, hS⟩ := d
    exact ⟨a, C, none, rfl, hC, hS, fun dd z => (by cases z)⟩
  · cases h
    unfold DenW Den at d
    obtain ⟨a, C, dd, u, rfl, hC, hS, hd, _⟩ := d
    exact ⟨a, C, some dd, rfl, hC, hS, fun d2 z => (by cases z; exact ⟨_, hd⟩)⟩
  · cases h
section
variable {X : Cx} {p p1 p2 pos : Pos} {R M : List Str}
theorem de_isY1 (i : Nat) {x m : Str} {e : Expr} (xi : XI X.K X.mg R M) (hm : X.mg "isinstance" = none) (hc : ∃ τ, DC X R e τ m)
    (hN : X.N[i]? = some x := by rfl) (hv : Vis X.env.scope x := by first | exact Or.inl rfl | exact Or.inr (Or.inl rfl) | exact Or.inr (Or.inr rfl)) (hd : (x == ("__debug__" : Str)) = false := by decide)
    (hcd : (x == ("__classdict__" : Str)) = false := by decide) (hg : Gl X "isinstance" := by rfl) (he : starEach [.Name x p1, e] X.env = (false, eval (.Name x p1) X.env) :: starEach [e] X.env := by rfl) (he2 : starEach [e] X.env = (false, eval e X.env) :: starEach [] X.env := by rfl) (hpl : (backTo pos (starEach [e] X.env)).any (·.1) = false := by rfl) :
    ∃ τ, DE X (.Call (.Name "isinstance" p) [.Name x p1, e] [] pos) τ (dIsY R i [m]) := by
  obtain ⟨τs, pec, c, u, hcv, hks, hqs⟩ := hc
  have ha : PA X [.Name x p1, e] (tCons (tVar i) (tCons τs tNil)) := pa_cons (pe_var hN hv hd hcd) (pa_cons pec pa_nil he2) he
  refine ⟨_, pe_callB call_isG1 hg hm (by decide +kernel) ha (by decide) (by decide) he hpl, fun al S F H σ g Q QV R0 q k => ?_⟩
  unfold dIsY at q
  split at q
  · rename_i x hs
    obtain ⟨n, hn, hxn, q⟩ := q
    obtain ⟨v, h1, d⟩ := R0.slot i _ hs
    obtain ⟨a, C, dO, rfl, hC, hS, hdx⟩ := den_exc d hxn
    refine ⟨.ref a, h1, hqs σ H _ ⟨C, xi.exc n hn C hC, a, dO, c, u, _, rfl, R0.same _ _ hS, (fun dd ed => by obtain ⟨fs, hfs⟩ := hdx dd ed; exact ⟨fs, R0.same _ _ hfs⟩), hcv, hks n hn C hC, ?_⟩⟩
    rw [List.any_cons, List.any_nil, Bool.or_false] at q
    exact k al S H g (.bl (subX n m)) (.t (.bl (subX n m))) R0 (Grow.refl _ _) (by unfold DenW Den; rfl) q
  · exact q.elim
end
/-! a field of what was caught -/
structure XfF (K : PySem.W.Frag) (R : List Str) (f : Str) : Prop where
  ok : ∀ n ∈ R, ∀ C, IsC K n C → XfC K C ∧ PySem.W.findIn K (.ref C) f = some none
section
variable {X : Cx} {R : List Str} {e : Expr} {τe : TE} {te : Dt} {pos : Pos}
end
/-! a def that refuses, as the derivations hand it on -/
structure KnY (P : Program) (w : World) (K : PySem.W.Frag) (mg : Str → Option Value) (base : Heap) (k : Nat) (x : Str) (ps : List Str) (C : RY) : Prop where
  ex : ∃ f fd, FnOk P w K mg base (L2.CX P w) k f fd ps (spy K C) ∧ mg x = some (.ref f) ∧ PySem.W.keepIn K (.ref f) = true ∧ Binds K fd ps []
theorem KnY.mono {P : Program} {w : World} {K : PySem.W.Frag} {mg : Str → Option Value} {base : Heap} {j k : Nat} {x : Str} {ps : List Str} {C : RY} (h : KnY P w K mg base j x ps C) (hk : j ≤ k) : KnY P w K mg base k x ps C := by
  obtain ⟨f, fd, a, b, c, d⟩ := h.ex
  exact ⟨f, fd, a.mono hk, b, c, d⟩
/-! steps -/
section
variable {D : De} {E : DEy} {g : G} {t : DYt}
theorem y_try {R : List Str} {i j : Nat} (h : t D (fun x g' => (∃ n ∈ R, x.xn = some n) ∧ i < g'.sl.length ∧ D.nx ((g'.set j (.t x)).wipe [i])) g) : dTryY R i j t D g := h
theorem i_isY {R ms : List Str} {i : Nat} {x : T} {n : Str} {Q : W → G → Prop} (e : g.sl[i]? = some (some (.t x))) (hx : x.xn = some n) (hn : n ∈ R) (h : Q (.t (.bl (ms.any (subX n)))) g) : dIsY R i ms g Q := by
  unfold dIsY
  rw [e]
  exact ⟨n, hn, hx, h⟩
end
/-! an exception's own __init__ -/
structure OwX (K : PySem.W.Frag) (mg : Str → Option Value) (n f qual : Str) (st : Stmt) (ps : List Str) : Prop where
  ex : ∃ (C fI : Addr) (fd : FuncData), PySem.W.nsIn K mainGlobals n = some (some (.ref C)) ∧ mg n = some (.ref C) ∧ OexC K C ∧ PySem.W.findIn K (.ref C) "__init__" = some (some (.ref fI)) ∧ PySem.W.typeIn K (.ref fI) = some (.type "function") ∧ PySem.W.findIn K (.ref C) f = some none ∧ Fun K "__init__" qual st fI fd ∧ Binds K fd ps []
structure CeF (K : PySem.W.Frag) (mg : Str → Option Value) : Prop where
  ex : ∃ (Cc : Addr) (mc : Value), mg "CountError" = some (.ref Cc) ∧ PySem.W.readsIn K Cc mc = true ∧ PySem.W.specialIn K (.ref Cc) "__getattribute__" = some (some (.builtin "type.__getattribute__")) ∧ PySem.W.findCls K (.ref Cc) mc "__init__" = some (.val (.builtin "ValueError.__init__"))
end DL

namespace DL
open PySem PySem.Spec L2
/-! zip of two trees: two lists or two tuples -/
section
variable {X : Cx} {e e2 : Expr} {elts : List Expr} {kk : Nat} {τs : TA} {ts : DAt} {p pos tpos : Pos}
end
end DL

/-! zip of a tuple and a text -/
namespace RZ
open PySem PySem.Spec PyProof.Rows L2
/-- the tuple at a and the text x, turn by turn, in new pairs -/
def ItzTS (K : PySem.W.Frag) (a : Addr) (x : Str) (n1 : Nat) : It :=
  ⟨fun i H => ∃ (xs : List V) (u : V), SqT K H a xs ∧ xs.length = n1 ∧ xs[i]? = some u ∧ i < x.cps.size,
    fun i H v H' => ∃ T u c, v = .ref T ∧ H T = none ∧ H' = upd H T (.tup [u, .str ⟨#[c]⟩]) ∧ (∀ xs, SqT K H a xs → xs[i]? = some u) ∧ x.cps[i]? = some c,
    fun i H => ∃ xs : List V, SqT K H a xs ∧ xs.length = n1 ∧ min n1 x.cps.size ≤ i⟩
theorem turn_zipTS {P : Program} {w : World} {K : PySem.W.Frag} {elts : List Expr} {kk : Nat} {tpos : Pos} {a z TI TO i1 i2 : Addr} {x : Str} {t : Tok} {n1 : Nat} (D : ZipSep2 z TI TO i1 i2 [i1, a] [i2]) (hne : a ≠ i1) :
    Turn P w K (.Tuple elts kk tpos) (ItzTS K a x n1) [z, TI, TO, i1, i2] z (fun i h => (i ≤ n1 ∧ i ≤ x.cps.size) ∧ IsZip h z TI TO .none ∧ IsTupOf2 h TI (.ref i1) (.ref i2) ∧ (∃ p q, IsTupOf2 h TO p q) ∧ h.IsTupleIter i1 a i ∧ h.IsStrIter i2 (strIterType x) x t i) where
  mem := by simp
  obj := fun i h st c hc => by
    obtain ⟨_, hz, hTI, ⟨p, q, hTO⟩, ⟨o1, e1, _, d1⟩, ⟨o2, e2, _, d2⟩⟩ := st
    have e' : c = z ∨ c = TI ∨ c = TO ∨ c = i1 ∨ c = i2 := by simpa using hc
    rcases e' with q | q | q | q | q
    · rw [q]; exact ⟨_, hz, fun v q => nomatch q⟩
    · rw [q]; exact ⟨_, hTI, fun v q => nomatch q⟩
    · rw [q]; exact ⟨_, hTO, fun v q => nomatch q⟩
    · rw [q]; exact ⟨o1, e1, fun v q => by rw [d1] at q; cases q⟩
    · rw [q]; exact ⟨o2, e2, fun v q => by rw [d2] at q; cases q⟩
  keep := fun i h h' st k => by
    obtain ⟨hb, hz, hTI, ⟨p, q, hTO⟩, h1, ⟨o2, e2, r2⟩⟩ := st
    exact ⟨hb, k z (by simp) _ hz, k TI (by simp) _ hTI, ⟨p, q, k TO (by simp) _ hTO⟩, h1.at fun o q => k i1 (by simp) o q, ⟨o2, k i2 (by simp) o2 e2, r2⟩⟩
  item := by
    intro X hP hw hK hc i pins s σ H E I hf st hg
    subst hP hw hK
    obtain ⟨hb, hz, hTI, ⟨p0, q0, hTO⟩, h1, h2⟩ := st
    obtain ⟨xs, u, hq, hxl, hu, hlt2⟩ := hg
    have hul := (List.getElem?_eq_some_iff.mp hu).1
    obtain ⟨its, rv, p, _⟩ := I.tuple hq
    have hlt1 : i < its.toArray.size := by
      have := rv.length
      have := (List.getElem?_eq_some_iff.mp hu).1
      simp only [List.size_toArray]
      omega
    have hzl : z < s.heap.objs.size := Heap.lt_size hz
    refine wpAny_pyNext_zipD2_item D (Draws.tuple (A := X.A.in1) (I.ok.hd hc) i1 a hne its.toArray) (Draws.text (A := X.A.in1) (I.ok.hd hc) i2 x t) hz hTI hTO ⟨h1, p⟩ h2 hlt1 hlt2 fun x1 x2 h' tk y1 y2 z' TO' st1 st2 hT hsz hk => ?_
    obtain ⟨c, tu, hcx, rfl⟩ := y2
    obtain ⟨v1, hv1, ru⟩ := rv.get hu
    have e1 : x1 = v1 := by
      have : its.toArray[i]? = some x1 := y1
      rw [List.getElem?_toArray, hv1] at this
      exact (Option.some.inj this).symm
    subst e1
    refine ⟨_, rfl, wpAny_letOwnedTupleGo_zip (s := { s with heap := h', toks := tk }) z' fun h'' z'' sb => ?_⟩
    have hT2 : h''.get? s.heap.objs.size = some { cls := .type "tuple", data := .seq #[x1, .str ⟨#[c]⟩ tu] } := (sb.2 _ (Nat.ne_of_gt hzl)).trans hT
    have new : ObjOk X.prog X.w (upd H s.heap.objs.size (.tup [u, .str ⟨#[c]⟩])) h'' s.heap.objs.size (.tup [u, .str ⟨#[c]⟩]) :=
      ⟨by show 2 ≤ sizeLine; decide, [x1, .str ⟨#[c]⟩ tu], .cons ru (.cons ⟨tu, rfl⟩ .nil), ⟨_, hT2, rfl, _, rfl⟩⟩
    have I1 : Inv X pins σ (upd H s.heap.objs.size (.tup [u, .str ⟨#[c]⟩])) { s with heap := h'', toks := tk } :=
      I.turnedNew (t' := tk) (ch := [z, TI, TO, i1, i2]) (fun c o hb q => (sb.2 c (fun q' => hb (by simp [q']))).trans (hk c o (fun q' => hb (by simp [q'])) (fun q' => hb (by simp [q'])) (fun q' => hb (by simp [q'])) (fun q' => hb (by simp [q'])) q)) hf (Nat.le_refl _) new
    obtain ⟨t1, _⟩ := st1
    obtain ⟨o2, e2, r2⟩ := st2
    refine ⟨.ref s.heap.objs.size, _, I1, rfl, ⟨_, u, c, rfl, I.hok.fresh (Nat.le_refl _), rfl, fun l hl => by rw [I.tuple_inj hl hq]; exact hu, hcx⟩, ⟨⟨by omega, hlt2⟩, z'', ?_, ⟨x1, .str ⟨#[c]⟩ tu, ?_⟩, ?_, ⟨o2, ?_, r2⟩⟩, fun c hcm => ?_⟩
    · exact (sb.2 _ D.TIz).trans (hk _ _ D.TIz D.TITO D.TIi1 D.TIi2 hTI)
    · exact (sb.2 _ D.TOz).trans TO'
    · exact t1.at fun o q => (sb.2 _ (fun z => D.zi1 z.symm)).trans q
    · exact (sb.2 _ (fun z => D.zi2 z.symm)).trans e2
    · have hlt : c < s.heap.objs.size := by
        have e' : c = z ∨ c = TI ∨ c = TO ∨ c = i1 ∨ c = i2 := by simpa using hcm
        rcases e' with q | q | q | q | q
        · rw [q]; exact hzl
        · rw [q]; exact Heap.lt_size hTI
        · rw [q]; exact Heap.lt_size hTO
        · rw [q]; obtain ⟨_, e1, _⟩ := h1; exact Heap.lt_size e1
        · rw [q]; obtain ⟨_, e2, _⟩ := h2; exact Heap.lt_size e2
      rw [upd_ne (Nat.ne_of_lt hlt)]
      exact (hf c hcm).1
  done := by
    intro X hP hw hK hc i pins s σ H E I hf st hg
    subst hP hw hK
    obtain ⟨hb, hz, hTI, ⟨p0, q0, hTO⟩, h1, h2⟩ := st
    obtain ⟨xs, hq, hxl, hend⟩ := hg
    obtain ⟨its, rv, p, _⟩ := I.tuple hq
    have l1 := rv.length
    have es : its.toArray.size = xs.length := by simp only [List.size_toArray]; omega
    exact wpAny_pyNext_zipD2_end D (Draws.tuple (A := X.A.in1) (I.ok.hd hc) i1 a hne its.toArray) (Draws.text (A := X.A.in1) (I.ok.hd hc) i2 x t) hz hTI hTO ⟨h1, p⟩ h2 (by omega) (by omega) (by omega) fun h' tk hk => ⟨rfl, I.turnedL (t' := tk) (ch := [z, TI, TO, i1, i2]) (fun c o hb q =>
      hk c o (fun q' => hb (by simp [q'])) (fun q' => hb (by simp [q'])) (fun q' => hb (by simp [q'])) (fun q' => hb (by simp [q'])) q) hf⟩
  self := fun A i s Q E st h => wpAny_pyIter_zip st.2.1 h
def iZipTS (K : PySem.W.Frag) (ta : TA) : TI := fun σ H R => ta σ H fun vs H1 => ∃ (a : Addr) (xs : List V) (x : Str), vs = [.ref a, .str x] ∧ SqT K H1 a xs ∧ R (ItzTS K a x xs.length) H1
theorem pi_zipTS {X : Cx} {e e2 : Expr} {ta : TA} {p pos tpos : Pos} {elts : List Expr} {kk : Nat} (hg : Gl X "zip") (hm : X.mg "zip" = none) (ha : PA X [e, e2] ta)
    (hs : starEach [e, e2] X.env = (false, eval e X.env) :: starEach [e2] X.env := by rfl) (hpl : (backTo pos (starEach [e2] X.env)).any (·.1) = false := by rfl) :
    PI X (.Tuple elts kk tpos) (.Call (.Name "zip" p) [e, e2] [] pos) (iZipTS X.K ta) := by
  refine ⟨fun pins s σ H R I h => ?_⟩
  refine Call_ (ld_blt I hg hm PyProof.Rows.boot_zip (PyProof.Rows.callWith_type1 (thn (ha.run pos pins s σ H _ I h) fun us s1 ⟨vs, H1, I1, r1, q1⟩ => ?_) hs hpl))
  obtain ⟨a, xs, x, ex, hq, q⟩ := q1
  subst ex
  cases r1 with
  | cons r rr =>
    cases rr with
    | cons r' rr =>
      cases rr
      cases r
      obtain ⟨t, rfl⟩ := r'
      have fresh5 : ∀ c, c ∈ [s1.heap.objs.size + 4, s1.heap.objs.size + 2, s1.heap.objs.size + 3, s1.heap.objs.size, s1.heap.objs.size + 1] → FpOk X pins H1 c := fun c hcm => by
        have e' : c = s1.heap.objs.size + 4 ∨ c = s1.heap.objs.size + 2 ∨ c = s1.heap.objs.size + 3 ∨ c = s1.heap.objs.size ∨ c = s1.heap.objs.size + 1 := by simpa using hcm
        have hle : s1.heap.objs.size ≤ c := by
          rcases e' with z | z | z | z | z <;> rw [z] <;> first | exact Nat.le_add_right _ _ | exact Nat.le_refl _
        exact I1.fpOk hle (I1.hok.fresh hle)
      obtain ⟨its, rv, p1, _⟩ := I1.tuple hq
      obtain ⟨o1, ho1, _⟩ := id p1
      have hal : a < s1.heap.objs.size := Heap.lt_size ho1
      refine zip_begins2 (begins_tuple a its.toArray) (begins_text x t) (show s1.heap.IsTuple a its.toArray from p1) trivial fun h' hz hTI hTO g1 g2 hsz hk => wpAny_pyIter_zip hz ?_
      have I2 : Inv X pins σ H1 { s1 with heap := h' } := I1.kept (t' := s1.toks) hk
      have D : ZipSep2 (s1.heap.objs.size + 4) (s1.heap.objs.size + 2) (s1.heap.objs.size + 3) s1.heap.objs.size (s1.heap.objs.size + 1) [s1.heap.objs.size, a] [s1.heap.objs.size + 1] := by
        have sep : ∀ (n : Nat) (a' : Nat), a' < n → ZipSep2 (n + 4) (n + 2) (n + 3) n (n + 1) [n, a'] [n + 1] := fun n a' hl => by
          have ne : ∀ k : Nat, n ≠ n + (k + 1) := fun k q => absurd q (by omega)
          have two : ∀ c : Nat, c ∈ ([n, a'] : List Nat) → c ≤ n := fun c hc => by
            rcases List.mem_cons.mp hc with z | z
            · exact Nat.le_of_eq z
            · rw [List.mem_singleton] at z; exact z ▸ Nat.le_of_lt hl
          have gt : ∀ k : Nat, (n + (k + 1)) ∉ ([n, a'] : List Nat) := fun k q => absurd (two _ q) (by omega)
          have one1 : ∀ c : Nat, c ∈ ([n + 1] : List Nat) → c = n + 1 := fun c hc => List.mem_singleton.mp hc
          have nn : ∀ i j : Nat, i ≠ j → n + i ≠ n + j := fun i j q q' => q (Nat.add_left_cancel q')
          exact ⟨nn 2 4 (by decide), nn 3 4 (by decide), nn 2 3 (by decide), fun q => ne 1 q.symm, List.mem_cons_self, gt 3, gt 2, nn 2 1 (by decide), List.mem_cons_self, fun q => nn 4 1 (by decide) (one1 _ q), fun q => nn 3 1 (by decide) (one1 _ q), fun q => ne 0 (one1 _ q), gt 0⟩
        exact sep _ _ hal
      exact ⟨s1.heap.objs.size + 4, [s1.heap.objs.size + 4, s1.heap.objs.size + 2, s1.heap.objs.size + 3, s1.heap.objs.size, s1.heap.objs.size + 1], _, _, H1, rfl, I2, turn_zipTS (t := t) D (Nat.ne_of_lt hal), ⟨⟨Nat.zero_le _, Nat.zero_le _⟩, hz, hTI, ⟨_, _, hTO⟩, ⟨_, g1, rfl, rfl⟩, ⟨_, g2, rfl, rfl⟩⟩, fresh5, q⟩
end RZ
namespace DL
open PySem PySem.Spec L2
section
variable {X : Cx} {e e2 : Expr} {elts : List Expr} {kk : Nat} {τs : TA} {ts : DAt} {p pos tpos : Pos}
def signsT (x : Str) : List T := x.cps.toList.map fun c => T.str ⟨#[c]⟩
def onZTS (g1 : G) (ws : List W) (Q : List W → (G → Prop) → Prop) : Prop := match ws with
  | [.t (.tup us), .t (.str x)] => Q ((us.zip (signsT x)).map fun q => W.t (.tup [q.1, q.2])) (fun _ => True)
  | _ => False
def diZTS (t : DAt) : DIt := fun g Q => t g fun ws g1 => onZTS g1 ws fun us St => Q us St g1
theorem di_zipTS (hm : X.mg "zip" = none) (ha : DA X [e, e2] τs ts) (hg : Gl X "zip" := by rfl) (hs : starEach [e, e2] X.env = (false, eval e X.env) :: starEach [e2] X.env := by rfl) (hs2 : ((backTo pos (starEach [e2] X.env)).any fun x => x.fst) = false := by rfl) :
    DI X (.Tuple elts kk tpos) (.Call (.Name "zip" p) [e, e2] [] pos) (RZ.iZipTS X.K τs) (diZTS ts) := by
  refine ⟨RZ.pi_zipTS hg hm ha.pe hs hs2, fun al S F H σ g Q QV R q k => ?_⟩
  refine ha.r al S F H σ g _ _ R q fun al1 S1 H1 g1 vs1 ws R1 gr1 e1 q1 => ?_
  unfold onZTS at q1
  split at q1
  · rename_i us x
    obtain ⟨v1, v2, rfl, d1, d2⟩ := p2 e1
    unfold DenW Den at d1 d2
    obtain ⟨a, xs, rfl, h1, h2⟩ := d1
    subst d2
    have h2 := Dens.iff.mp h2
    refine ⟨a, xs, x, rfl, seqT R1.same h1, k _ _ _ _ _ _ _ R1 gr1 ?_ q1⟩
    intro al' S' F' H' σ' g' i R' gr' st
    have h1' := seqT (gr'.s.trans R'.same) h1
    have h2' := Denp.grow gr'.s h2
    refine ⟨fun w hw => ?_, fun hi => ?_⟩
    · rw [List.getElem?_map] at hw
      cases ez : (us.zip (signsT x))[i]? with
      | none => rw [ez] at hw; cases hw
      | some z =>
        rw [ez] at hw
        cases hw
        rw [List.getElem?_zip_eq_some] at ez
        obtain ⟨vx, ex, dx⟩ := pget h2' ez.1
        have ey := ez.2
        unfold signsT at ey
        rw [List.getElem?_map] at ey
        cases ec : x.cps.toList[i]? with
        | none => rw [ec] at ey; cases ey
        | some c =>
          rw [ec] at ey
          have ez2 : T.str ⟨#[c]⟩ = z.2 := Option.some.inj ey
          have hcs : x.cps[i]? = some c := by rw [← Array.getElem?_toList]; exact ec
          refine ⟨⟨xs, vx, h1', rfl, ex, ?_⟩, ?_⟩
          · exact (Array.getElem?_eq_some_iff.mp hcs).1
          · rintro y H'' ⟨T0, x0, c0, rfl, nT, rfl, hx, hy⟩
            have := hx xs h1'
            rw [ex] at this; cases this
            rw [hcs] at hy; cases hy
            show ∃ al'' S'', _ ∧ _ ∧ DenW X.K al'' S'' (.t (.tup [z.1, z.2])) _
            rw [← ez2]
            exact R'.layTup2 nT dx (by unfold Den; rfl)
    · refine ⟨xs, h1', rfl, ?_⟩
      rw [List.length_map, List.length_zip, h2.length] at hi
      unfold signsT at hi
      rw [List.length_map, Array.length_toList] at hi
      exact hi
  · exact q1.elim
end
theorem i_itZTS {g : G} {t : DAt} {P : List W → (G → Prop) → G → Prop} (h : t g fun ws g1 => onZTS g1 ws fun us St => P us St g1) : diZTS t g P := h
end DL

/-! a dict of the module: its keys and its values are texts -/
namespace DL
open PySem PySem.Spec PyProof.Rows L2
/-- what stands at a key -/
def tblG (tbl : List (Str × Str)) (z : Str) : Option Str := (tbl.find? fun q => q.1 == z).map (·.2)
structure MDict (K : PySem.W.Frag) (w : World) (mg : Str → Option Value) (x : Str) (tbl : List (Str × Str)) : Prop where
  ex : ∃ d es n, mg x = some (.ref d) ∧ KDict K w d es n ∧ ∀ z, ∃ r, PySem.W.nsIn K d z = some r ∧ r.isSome = (tblG tbl z).isSome ∧ ∀ y, tblG tbl z = some y → ∃ u, r = some u ∧ RelV (.str y) u
def dInK (neg : Bool) (tbl : List (Str × Str)) (ta : Dt) : Dt := fun g Q => ta g fun x g1 => match x with | .t (.str z) => Q (.t (.bl (if neg then !(tblG tbl z).isSome else (tblG tbl z).isSome))) g1 | _ => False
def dIxK (tbl : List (Str × Str)) (ta : Dt) : Dt := fun g Q => ta g fun x g1 => match x with | .t (.str z) => ∃ y, tblG tbl z = some y ∧ Q (.t (.str y)) g1 | _ => False
section
variable {X : Cx} {x : Str} {tbl : List (Str × Str)} {a : Expr} {τa : TE} {ta : Dt} {p pos : Pos}
theorem der_inK {d : Addr} {r : R2} {neg : Bool} (hr : ∀ (z : Str) (H : Hp) (Q : VK), Q (.bl (if neg then !(tblG tbl z).isSome else (tblG tbl z).isSome)) H → r (.str z) (.ref d) H Q) (ra : DEr X.K τa ta) :
    DEr X.K (tOp r τa (tC (.ref d))) (dInK neg tbl ta) := by
  intro al S F H σ g Q QV R q k
  refine ra al S F H σ g _ _ R q fun al1 S1 H1 g1 v1 w1 R1 gr1 e1 q1 => ?_
  split at q1
  · rename_i z
    unfold DenW Den at e1
    subst e1
    exact hr z H1 _ ((k.grow gr1).tr R1 (denB _) q1)
  · exact q1.elim
theorem dt_notinK (M : MDict X.K X.w X.mg x tbl) (ha : DE X a τa ta) (hg : Gl X x := by rfl) (hd : (x == ("__debug__" : Str)) = false := by decide) : ∃ τ, DT X (.Compare a [.NotIn] [.Name x p] pos) τ (dB (dInK true tbl ta)) := by
  obtain ⟨d, es, n, hm, D, hz⟩ := M.ex
  refine ⟨_, dt_mk (pt_cmpR (op_notIn_kd D) ha.pe (pe_glob (v := .ref d) hg hm rfl hd) rfl) (der_inK (fun z H Q q => ?_) ha.r)⟩
  obtain ⟨r, e, e2, _⟩ := hz z
  exact ⟨z, r, rfl, rfl, e, by rw [e2]; exact q⟩
theorem de_ixK (M : MDict X.K X.w X.mg x tbl) (ha : DE X a τa ta) (hg : Gl X x := by rfl) (hd : (x == ("__debug__" : Str)) = false := by decide) (hs : PlainIx a := by intro _ _; rfl) : ∃ τ, DE X (.Subscript (.Name x p) a pos) τ (dIxK tbl ta) := by
  obtain ⟨d, es, n, hm, D, hz⟩ := M.ex
  refine ⟨_, pe_ix ix_kdict (pe_glob (v := .ref d) hg hm rfl hd) ha.pe hs, ?_⟩
  intro al S F H σ g Q QV R q k
  refine ha.r al S F H σ g _ _ R q fun al1 S1 H1 g1 v1 w1 R1 gr1 e1 q1 => ?_
  split at q1
  · rename_i z
    obtain ⟨y, ey, q1⟩ := q1
    unfold DenW Den at e1
    subst e1
    obtain ⟨r, e, e2, e3⟩ := hz z
    obtain ⟨u, rfl, ru⟩ := e3 y ey
    exact ⟨d, z, .str y, rfl, rfl, ⟨es, n, u, D.at_, D.lit, e, ru⟩, (k.grow gr1).tr R1 (by unfold Den; rfl) q1⟩
  · exact q1.elim
end
/-! what a written dict's entries say -/
inductive Tbl : List (Str × Str) → List DictEntry → Prop
  | nil : Tbl [] []
  | cons {k v : Str} {e : DictEntry} {tbl es} {t1 t2 : Tok} (h1 : e.key = .str k t1) (h2 : e.val = .str v t2) (h : Tbl tbl es) : Tbl ((k, v) :: tbl) (e :: es)
theorem Tbl.get {tbl es} (h : Tbl tbl es) (z : Str) : ∃ o, es.find? (·.key.isStr z) = o ∧ o.isSome = (tblG tbl z).isSome ∧ (∀ y, tblG tbl z = some y → ∃ e, o = some e ∧ RelV (.str y) e.val) ∧ es.any (·.refKey) = false := by
  induction h with
  | nil => exact ⟨none, rfl, rfl, (fun y h => by simp [tblG] at h), rfl⟩
  | @cons k v e tbl es t1 t2 h1 h2 h ih =>
    obtain ⟨o, e1, e2, e3, e4⟩ := ih
    have hk : e.key.isStr z = (k == z) := by rw [h1]; simp [PySem.W.isStr_of, Value.isStrOf]
    have hr : (e :: es).any (·.refKey) = false := by
      rw [List.any_cons, e4]
      unfold DictEntry.refKey
      rw [h1]; rfl
    cases hz : (k == z) with
    | true =>
      refine ⟨some e, by rw [List.find?_cons, hk, hz], ?_, fun y hy => ⟨e, rfl, ?_⟩, hr⟩
      · unfold tblG; rw [List.find?_cons, hz]; rfl
      · unfold tblG at hy
        rw [List.find?_cons, hz] at hy
        cases hy
        exact ⟨t2, h2⟩
    | false =>
      refine ⟨o, by rw [List.find?_cons, hk, hz]; exact e1, ?_, fun y hy => e3 y ?_, hr⟩
      · rw [e2]; unfold tblG; rw [List.find?_cons, hz]
      · unfold tblG at hy
        rw [List.find?_cons, hz] at hy
        exact hy
theorem mdict_of {K : PySem.W.Frag} {w : World} {mg : Str → Option Value} {x : Str} {tbl : List (Str × Str)} {d : Addr} {es : Array DictEntry} {n : Nat} (hm : mg x = some (.ref d)) (D : KDict K w d es n) (T : Tbl tbl es.toList) : MDict K w mg x tbl := by
  refine ⟨d, es, n, hm, D, fun z => ?_⟩
  obtain ⟨o, e1, e2, e3, e4⟩ := T.get z
  have hn : PySem.W.nsIn K d z = some (o.map (·.val)) := by
    unfold PySem.W.nsIn
    rw [D.at_]
    simp only
    rw [e1]
    cases o with
    | none => simp [e4]
    | some e => rfl
  refine ⟨o.map (·.val), hn, by rw [Option.isSome_map, e2], fun y hy => ?_⟩
  obtain ⟨e, rfl, r⟩ := e3 y hy
  exact ⟨e.val, rfl, r⟩
theorem i_inK {neg : Bool} {tbl : List (Str × Str)} {ta : Dt} {g : G} {Q : W → G → Prop} (h : ta g fun x g1 => match x with | .t (.str z) => Q (.t (.bl (if neg then !(tblG tbl z).isSome else (tblG tbl z).isSome))) g1 | _ => False) : dInK neg tbl ta g Q := h
theorem i_ixK {tbl : List (Str × Str)} {ta : Dt} {g : G} {Q : W → G → Prop} (h : ta g fun x g1 => match x with | .t (.str z) => ∃ y, tblG tbl z = some y ∧ Q (.t (.str y)) g1 | _ => False) : dIxK tbl ta g Q := h
end DL

/-! `+` of tuples; a text's great letters -/
namespace DL
open PySem PySem.Spec PyProof.Rows L2
def fCatT : F2 := fun g x y Q => match x, y with
  | .t (.tup xs), .t (.tup ys) => xs ≠ [] ∧ xs.length + ys.length ≤ sizeLine ∧ Q (.t (.tup (xs ++ ys))) g
  | _, _ => False
theorem op2_catT {K : PySem.W.Frag} : Op2 K (rCatT K) fCatT := by
  intro al S F H σ g x y wx wy Q QV R dx dy q k
  unfold fCatT at q
  split at q
  · rename_i xs ys
    obtain ⟨hx, hz, q⟩ := q
    unfold DenW at dx dy
    have dx0 := dx
    unfold Den at dx dy
    obtain ⟨a, vs, rfl, h1, h2⟩ := dx
    obtain ⟨b, us, rfl, h3, h4⟩ := dy
    have h2 := Dens.iff.mp h2
    have h4 := Dens.iff.mp h4
    refine ⟨a, b, vs, us, rfl, rfl, seqT R.same h1, seqT R.same h3, ?_, by rw [← h2.length, ← h4.length]; exact hz, fun e => ?_, fun _ p np => ?_⟩
    · intro e
      rw [e] at h2
      cases h2
      exact hx rfl
    · rw [e] at h4
      cases h4
      rw [List.append_nil] at q
      exact k.tr R dx0 q
    · obtain ⟨R1, gr, d⟩ := R.layTup np (papp h2 h4)
      exact k _ _ _ _ _ _ R1 gr d q
  · exact q.elim
section
variable {X : Cx} {a b o : Expr} {τa τb τo : TE} {ta tb to : Dt} {pos apos cpos : Pos}
theorem de_addT (ha : DE X a τa ta) (hb : DE X b τb tb) : DE X (.BinOp a .Add b pos) (tOp (rCatT X.K) τa τb) (d2 fCatT ta tb) := de_op op_catT op2_catT ha hb
end
theorem i_catT {g : G} {xs ys : List T} {Q : W → G → Prop} (h1 : xs ≠ []) (h2 : xs.length + ys.length ≤ sizeLine) (h : Q (.t (.tup (xs ++ ys))) g) : fCatT g (.t (.tup xs)) (.t (.tup ys)) Q := ⟨h1, h2, h⟩
end DL

namespace DL
open PySem PySem.Spec PyProof.Rows L2
/-! any part of a tuple, the whole one too -/
def onCutA (g3 : G) (x : W) (lo hi : Option Int) (Q : W → G → Prop) : Prop := match x with
  | .t (.tup ts) => Q (.t (.tup (cut ts lo hi))) g3
  | _ => False
def dSlA (t : Dt) (l u : DOt) : Dt := fun g Q => t g fun x g1 => l g1 fun lo g2 => u g2 fun hi g3 => onCutA g3 x lo hi Q
theorem cut_whole {α : Type} {ts : List α} {lo hi : Option Int} (h : HT.sIx ts.length 0 lo = 0 ∧ HT.sIx ts.length ts.length hi = ts.length) : cut ts lo hi = ts := by
  unfold cut
  rw [h.1, h.2]
  simp
section
variable {X : Cx} {a : Expr} {τa : TE} {ta : Dt} {pos : Pos}
theorem de_slA {lo hi : Option Expr} {τl τh : TO} {tl th : DOt} {p2 : Pos} (ha : DE X a τa ta) (hl : DO X lo τl tl) (hh : DO X hi τh th) : DE X (.Subscript a (.Slice lo hi none p2) pos) (tSl (rSlA X.K) τa τl τh) (dSlA ta tl th) := by
  refine ⟨pe_slice sl_tupA ha.pe hl.pe hh.pe, fun al S F H σ g Q QV R q k => ?_⟩
  refine ha.r al S F H σ g _ _ R q fun al1 S1 H1 g1 v1 w1 R1 gr1 e1 q1 => ?_
  refine hl.r al1 S1 F H1 σ g1 _ _ R1 q1 fun al2 S2 H2 g2 b2 R2 gr2 q2 => ?_
  refine hh.r al2 S2 F H2 σ g2 _ _ R2 q2 fun al3 S3 H3 g3 b3 R3 gr3 q3 => ?_
  unfold onCutA at q3
  split at q3
  · rename_i ts
    have e2 := e1.grow (gr2.trans gr3)
    have e3 := e2
    unfold DenW Den at e2
    obtain ⟨a, vs, rfl, h1, h2⟩ := e2
    have h2 := Dens.iff.mp h2
    refine ⟨a, vs, rfl, seqT R3.same h1, fun hw => ?_, fun _ p np => ?_⟩
    · rw [← h2.length] at hw
      rw [cut_whole hw] at q3
      exact k _ _ _ _ _ _ R3 (gr1.trans (gr2.trans gr3)) e3 q3
    · have hp : Paired (Den X.K S3) (cut ts b2 b3) (cutV vs b2 b3) := by
        unfold cut cutV
        rw [h2.length]
        exact ptake _ (pdrop _ h2)
      obtain ⟨R4, gr4, d⟩ := R3.layTup np hp
      exact k _ _ _ _ _ _ R4 (gr1.trans (gr2.trans (gr3.trans gr4))) d q3
  · exact q3.elim
end
theorem i_slA {g : G} {Q : W → G → Prop} {t : Dt} {l u : DOt} (h : t g fun x g1 => l g1 fun lo g2 => u g2 fun hi g3 => onCutA g3 x lo hi Q) : dSlA t l u g Q := h
end DL

namespace DL
open PySem PySem.Spec L2 PyProof.Rows
/-! lists of pairs of whole numbers: sorted, made a dict, told of a dict -/
abbrev pairT (q : Int × Int) : T := .tup [.int q.1, .int q.2]
/-- sorted of a list of pairs, kept or new -/
def rSortPT (K : PySem.W.Frag) : List V → Hp → VK → Prop := fun vs H Q => ∃ (a : Addr) (zs : List (Addr × Int × Int)), vs = [V.ref a] ∧ SqL K H a (zs.map fun z => V.ref z.1) ∧ (∀ z ∈ zs, SqT K H z.1 [.int z.2.1, .int z.2.2]) ∧
  ∀ (out : List (Addr × Int × Int)) (p : Addr), out.Perm zs → out.Pairwise (fun x y => SrtO.lexB y.2 x.2 = false) → H p = none → Q (.ref p) (upd H p (.lst (out.map fun z => V.ref z.1)))
/-- a value's two numbers, read from the heap -/
noncomputable def pairOf (h : Heap) (v : Value) : Int × Int := open Classical in if q : ∃ p : Int × Int, Srt.IsPair h v p.1 p.2 then q.choose else (0, 0)
theorem pairOf_eq {h : Heap} {v : Value} {x y : Int} (p : Srt.IsPair h v x y) : pairOf h v = (x, y) := by
  have q : ∃ p : Int × Int, Srt.IsPair h v p.1 p.2 := ⟨(x, y), p⟩
  have e : pairOf h v = q.choose := dif_pos q
  obtain ⟨a, o, t, u, n, rfl, ho, _, hd⟩ := p
  obtain ⟨a', o', t', u', n', e', ho', _, hd'⟩ := q.choose_spec
  cases e'
  rw [ho] at ho'
  cases ho'
  rw [hd] at hd'
  injection hd' with e1 e2
  have e3 := congrArg Array.toList e1
  simp at e3
  rw [e]
  exact Prod.ext e3.1.1.symm e3.2.1.symm
section
variable {X : Cx}
theorem isPair_of {pins : List (Addr × Obj)} {σ : L2.St} {H : Hp} {s : Shared} (I : Inv X pins σ H s) {a : Addr} {x y : Int} (h : SqT X.K H a [.int x, .int y]) : Srt.IsPair s.heap (.ref a) x y := by
  obtain ⟨its, rv, ht, _⟩ := I.tuple h
  obtain ⟨u1, u2, rfl, ri, rj⟩ := vals2 rv
  obtain ⟨t1, rfl⟩ := ri
  obtain ⟨t2, rfl⟩ := rj
  obtain ⟨o, ho, hc, n, hd⟩ := ht
  exact ⟨a, o, t1, t2, n, rfl, ho, hc, hd⟩
theorem cr_sortPT : CallR X (.builtin "sorted") (rSortPT X.K) := by
  intro pins s σ H vs us Q I r h
  obtain ⟨a, zs, rfl, hs, hx, q⟩ := h
  obtain ⟨its, rv, hl, hz⟩ := I.list hs
  obtain ⟨u, rfl, ru⟩ := vals1 r
  obtain rfl : u = Value.ref a := ru
  have ei : its = zs.map fun z => Value.ref z.1 := by
    have e : Vals ((zs.map fun z => z.1).map V.ref) its := by rw [List.map_map]; exact rv
    rw [refs_at e, List.map_map]
    rfl
  have hp : ∀ z ∈ zs, Srt.IsPair s.heap (.ref z.1) z.2.1 z.2.2 := fun z hz => isPair_of I (hx z hz)
  have hk : ∀ z ∈ zs, pairOf s.heap (.ref z.1) = z.2 := fun z hz => pairOf_eq (hp z hz)
  refine SrtO.sorted_pairsO (k := pairOf s.heap) hl.isList (by rw [← rv.length]; exact hz) (fun v hv => ?_) fun h' d out h1 h2 kp hd hn => ?_
  · rw [ei] at hv
    obtain ⟨z, hz, rfl⟩ := List.mem_map.mp hv
    rw [hk z hz]
    exact hp z hz
  · have back : ∀ v ∈ out, ∃ z ∈ zs, v = Value.ref z.1 := fun v hv => by
      have := h2.perm.mem_iff.mp hv
      rw [ei] at this
      obtain ⟨z, hz, e⟩ := List.mem_map.mp this
      exact ⟨z, hz, e.symm⟩
    let f : Value → Addr × Int × Int := fun v => ((match v with | .ref a => a | _ => 0), pairOf s.heap v)
    have hf : ∀ z ∈ zs, f (.ref z.1) = z := fun z hz => by
      show (z.1, pairOf s.heap (.ref z.1)) = z
      rw [hk z hz]
    have hperm : (out.map f).Perm zs := by
      have h3 := h2.perm.map f
      rw [ei, List.map_map] at h3
      have e4 : zs.map (f ∘ fun z => Value.ref z.1) = zs := by
        conv => rhs; rw [← List.map_id zs]
        exact List.map_congr_left fun z hz => hf z hz
      rw [e4] at h3
      exact h3
    obtain ⟨n, hn⟩ := hn
    have hv : Vals ((out.map f).map fun z => V.ref z.1) out := by
      rw [List.map_map]
      have : ∀ l : List Value, (∀ v ∈ l, ∃ z ∈ zs, v = Value.ref z.1) → Vals (l.map ((fun z => V.ref z.1) ∘ f)) l := by
        intro l
        induction l with
        | nil => intro _; exact .nil
        | cons v l ih =>
          intro h
          refine .cons ?_ (ih fun u hu => h u (List.mem_cons_of_mem _ hu))
          obtain ⟨z, _, rfl⟩ := h v List.mem_cons_self
          exact rfl
      exact this out back
    refine ⟨.ref d, upd H d (.lst ((out.map f).map fun z => V.ref z.1)), I.laid (t' := s.toks) kp hd ⟨?_, out, n, hv, hn⟩, rfl, q _ d hperm (List.pairwise_map.mpr (List.Pairwise.imp (fun h => h) h1)) (I.hok.fresh hd)⟩
    rw [List.length_map, hperm.length_eq]
    rw [List.length_map] at hz
    exact hz
end
theorem den_pairs {K : PySem.W.Frag} {S : Hp} : ∀ {ps : List (Int × Int)} {vs : List V}, Paired (Den K S) (ps.map pairT) vs →
    ∃ zs : List (Addr × Int × Int), vs = zs.map (fun z => V.ref z.1) ∧ zs.map (·.2) = ps ∧ ∀ z ∈ zs, SqT K S z.1 [.int z.2.1, .int z.2.2]
  | [], _, .nil => ⟨[], rfl, rfl, fun _ h => by cases h⟩
  | p :: ps, _, .cons d t => by
    obtain ⟨zs, h1, h2, h3⟩ := den_pairs t
    unfold Den at d
    obtain ⟨a, us, rfl, hs, hd⟩ := d
    have hu : us = [.int p.1, .int p.2] := by
      unfold Dens at hd
      obtain ⟨v, r, rfl, d1, hd⟩ := hd
      unfold Dens at hd
      obtain ⟨v2, r2, rfl, d2, hd⟩ := hd
      unfold Dens at hd
      unfold Den at d1 d2
      rw [d1, d2, hd]
    subst hu
    refine ⟨(a, p) :: zs, by rw [h1]; rfl, by rw [List.map_cons, h2], fun z hz => ?_⟩
    rcases List.mem_cons.mp hz with rfl | hz
    · exact hs
    · exact h3 z hz
theorem den_pairsB {K : PySem.W.Frag} {S : Hp} : ∀ {zs : List (Addr × Int × Int)}, (∀ z ∈ zs, SqT K S z.1 [.int z.2.1, .int z.2.2]) → Paired (Den K S) ((zs.map (·.2)).map pairT) (zs.map fun z => V.ref z.1)
  | [], _ => .nil
  | z :: zs, h => by
    refine .cons ?_ (den_pairsB fun y hy => h y (List.mem_cons_of_mem _ hy))
    unfold Den
    refine ⟨z.1, _, rfl, h z List.mem_cons_self, ?_⟩
    unfold Dens
    refine ⟨_, _, rfl, by unfold Den; rfl, ?_⟩
    unfold Dens
    refine ⟨_, _, rfl, by unfold Den; rfl, ?_⟩
    unfold Dens
    rfl
def fSortP : FN := fun g ws Q => match ws with
  | [w] => ∃ ps : List (Int × Int), g.lq? w = some (ps.map pairT) ∧ ∀ out : List (Int × Int), out.Perm ps → out.Pairwise (fun x y => SrtO.lexB y x = false) → Q (.t (.lst (out.map pairT))) g
  | _ => False
theorem opN_sortP {K : PySem.W.Frag} : OpN K (rSortPT K) fSortP := by
  intro al S F H σ g xs ws Q QV R ds q k
  unfold fSortP at q
  split at q
  · obtain ⟨v, rfl, d⟩ := p1 ds
    obtain ⟨ps, e, q⟩ := q
    obtain ⟨a, vs, rfl, h1, h2⟩ := R.viewQ d e
    obtain ⟨zs, rfl, rfl, h3⟩ := den_pairs h2
    refine ⟨a, zs, rfl, h1, fun z hz => seqT R.same (h3 z hz), fun out p hp hs np => ?_⟩
    have hd := den_pairsB (K := K) (S := S) (zs := out) fun z hz => h3 z (hp.mem_iff.mp hz)
    obtain ⟨R2, gr2, d2⟩ := R.layL np hd
    exact k _ _ _ _ _ _ R2 gr2 d2 (q _ (hp.map _) (List.pairwise_map.mpr hs))
  · exact q.elim
/-- dict(a list of pairs) -/
def fDictP : FN := fun g ws Q => match ws with
  | [w] => ∃ ps : List (Int × Int), g.lq? w = some (ps.map pairT) ∧ (ps.map (·.1)).Nodup ∧ Q (.h g.mem.length) (g.push (.dt (ps.map fun q => Sum.inl q.1) (ps.map fun q => .int q.2)))
  | _ => False
theorem merge_new : ∀ {kvs acc : List (L2.Key × V)}, ((acc ++ kvs).map (·.1)).Nodup → mergeK acc kvs = acc ++ kvs
  | [], acc, _ => by rw [List.append_nil]; rfl
  | kv :: kvs, acc, h => by
    have e : valV acc kv.1 = none := by
      rw [List.map_append, List.map_cons] at h
      have h1 := (List.nodup_append.mp h).2.2
      have : ∀ l : List (L2.Key × V), (∀ q ∈ l, q.1 ≠ kv.1) → valV l kv.1 = none := by
        intro l
        induction l with
        | nil => intro _; rfl
        | cons q l ih =>
          intro hh
          rw [valV_neg (hh q List.mem_cons_self)]
          exact ih fun r hr => hh r (List.mem_cons_of_mem _ hr)
      refine this acc fun q hq e => ?_
      exact h1 q.1 (List.mem_map.mpr ⟨q, hq, rfl⟩) kv.1 List.mem_cons_self e
    unfold mergeK
    rw [List.foldl_cons, putK_new _ e]
    have ih := merge_new (kvs := kvs) (acc := acc ++ [(kv.1, kv.2)]) (by rw [List.append_assoc]; exact h)
    unfold mergeK at ih
    rw [ih, List.append_assoc]
    rfl
theorem opN_dictP {K : PySem.W.Frag} : OpN K (fun xs H Q => ∃ (a : Addr) (ps : List Addr) (kvs : List (L2.Key × V)), xs = [.ref a] ∧ SqL K H a (ps.map V.ref) ∧ Paired (fun p kv => SqT K H p [kV kv.1, kv.2]) ps kvs ∧
    ∀ p, H p = none → Q (.ref p) (upd H p (.dK (mergeK [] kvs)))) fDictP := by
  intro al S F H σ g xs ws Q QV R ds q k
  unfold fDictP at q
  split at q
  · obtain ⟨v, rfl, d⟩ := p1 ds
    obtain ⟨ps, e, nd, q⟩ := q
    obtain ⟨a, vs, rfl, h1, h2⟩ := R.viewQ d e
    obtain ⟨zs, rfl, rfl, h3⟩ := den_pairs h2
    have em : (zs.map fun z => V.ref z.1) = (zs.map (·.1)).map V.ref := by rw [List.map_map]; rfl
    refine ⟨a, zs.map (·.1), zs.map (fun z => (Sum.inl z.2.1, V.int z.2.2)), rfl, by rw [← em]; exact h1, ?_, fun p np => ?_⟩
    · have : ∀ l : List (Addr × Int × Int), (∀ z ∈ l, SqT K S z.1 [.int z.2.1, .int z.2.2]) → Paired (fun p kv => SqT K H p [kV kv.1, kv.2]) (l.map (·.1)) (l.map (fun z => ((Sum.inl z.2.1 : L2.Key), V.int z.2.2))) := by
        intro l
        induction l with
        | nil => intro _; exact .nil
        | cons z l ih =>
          intro hh
          exact .cons (seqT R.same (hh z List.mem_cons_self)) (ih fun y hy => hh y (List.mem_cons_of_mem _ hy))
      exact this zs h3
    · have hm : mergeK [] (zs.map (fun z => ((Sum.inl z.2.1 : L2.Key), V.int z.2.2))) = zs.map (fun z => ((Sum.inl z.2.1 : L2.Key), V.int z.2.2)) := by
        rw [merge_new, List.nil_append]
        rw [List.nil_append, List.map_map]
        rw [List.map_map] at nd
        have : (zs.map fun z => (Sum.inl z.2.1 : L2.Key)) = (zs.map fun z => z.2.1).map Sum.inl := by rw [List.map_map]; rfl
        show (zs.map fun z => (Sum.inl z.2.1 : L2.Key)).Nodup
        rw [this]
        exact List.Pairwise.map _ (fun a b h e => h (Sum.inl.inj e)) nd
      rw [hm]
      have ez : (((zs.map (·.2)).map fun q => (Sum.inl q.1 : L2.Key)).zip (zs.map fun z => V.int z.2.2)) = zs.map (fun z => ((Sum.inl z.2.1 : L2.Key), V.int z.2.2)) := by
        rw [List.map_map, List.zip_map', ]
        rfl
      have hd : ∀ l : List (Addr × Int × Int), Paired (Den K S) ((l.map (·.2)).map fun q => T.int q.2) (l.map fun z => V.int z.2.2) := by
        intro l
        induction l with
        | nil => exact .nil
        | cons z l ih => exact .cons (by unfold Den; rfl) ih
      obtain ⟨R2, gr2, d2⟩ := R.pushC (c := .dt ((zs.map (·.2)).map fun q => Sum.inl q.1) ((zs.map (·.2)).map fun q => .int q.2)) (o := .dK (zs.map (fun z => (Sum.inl z.2.1, V.int z.2.2)))) np
        ⟨zs.map fun z => V.int z.2.2, by rw [ez], by simp, hd zs⟩
      exact k _ _ _ _ _ _ R2 gr2 d2 q
  · exact q.elim
section
variable {X : Cx} {e : Expr} {es : List Expr} {τs : TA} {ts : DAt} {p pos : Pos}
theorem de_sortP (hm : X.mg "sorted" = none) (ha : DA X (e :: es) τs ts) (hg : Gl X "sorted" := by rfl) (he : starEach (e :: es) X.env = (false, eval e X.env) :: starEach es X.env := by rfl) (hpl : (backTo pos (starEach es X.env)).any (·.1) = false := by rfl) :
    DE X (.Call (.Name "sorted" p) (e :: es) [] pos) (tCB (rSortPT X.K) τs) (dN fSortP ts) := de_cB cr_sortPT opN_sortP hm ha (by decide +kernel) hg (by decide) (by decide) he hpl
theorem de_dictOfP (hc : X.calm = true) (hm : X.mg "dict" = none) (ha : DA X (e :: es) τs ts) (hg : Gl X "dict" := by rfl) (he : starEach (e :: es) X.env = (false, eval e X.env) :: starEach es X.env := by rfl) (hpl : (backTo pos (starEach es X.env)).any (·.1) = false := by rfl) :
    DE X (.Call (.Name "dict" p) (e :: es) [] pos) (tCB (fun xs H Q => ∃ (a : Addr) (ps : List Addr) (kvs : List (L2.Key × V)), xs = [.ref a] ∧ SqL X.K H a (ps.map V.ref) ∧ Paired (fun p kv => SqT X.K H p [kV kv.1, kv.2]) ps kvs ∧
    ∀ p, H p = none → Q (.ref p) (upd H p (.dK (mergeK [] kvs)))) τs) (dN fDictP ts) := de_cT (call_dictP hc) opN_dictP hm ha (by decide +kernel) hg (by decide) (by decide) he hpl
end
theorem i_sortP {g : G} {Q : W → G → Prop} {w : W} {ps : List (Int × Int)} (e : g.lq? w = some (ps.map pairT)) (h : ∀ out : List (Int × Int), out.Perm ps → out.Pairwise (fun x y => SrtO.lexB y x = false) → Q (.t (.lst (out.map pairT))) g) : fSortP g [w] Q := ⟨ps, e, h⟩
theorem i_dictP {g : G} {Q : W → G → Prop} {w : W} {ps : List (Int × Int)} (e : g.lq? w = some (ps.map pairT)) (nd : (ps.map (·.1)).Nodup) (h : Q (.h g.mem.length) (g.push (.dt (ps.map fun q => Sum.inl q.1) (ps.map fun q => .int q.2)))) : fDictP g [w] Q := ⟨ps, e, nd, h⟩
end DL

namespace DL
open PySem PySem.Spec L2 PyProof.Rows LiI
/-! sorted(d.items()), a dict of whole numbers by whole numbers -/
def rSortIt : V → Hp → VK → Prop := fun x H Q => ∃ (d : Addr) (ps : List (Int × Int)), x = .ref d ∧ H d = some (.dK (ps.map fun q => (Sum.inl q.1, V.int q.2))) ∧
  ∀ (H' : Hp) (p : Addr) (zs : List (Addr × Int × Int)), (∀ b o, H b = some o → H' b = some o) → H p = none → (∀ z ∈ zs, H z.1 = none) → p ∉ zs.map (·.1) → (zs.map (·.2)).Perm ps → zs.Pairwise (fun x y => SrtO.lexB y.2 x.2 = false) → (zs.map (·.1)).Nodup →
    H' p = some (.lst (zs.map fun z => V.ref z.1)) → (∀ z ∈ zs, H' z.1 = some (.tup [.int z.2.1, .int z.2.2])) → (∀ b, b ≠ p → b ∉ zs.map (·.1) → H' b = H b) → Q (.ref p) H'
def tSortItems (te : TE) : TE := fun σ H Q => te σ H fun x H1 => rSortIt x H1 Q
section
variable {X : Cx} {e : Expr} {te : TE} {p apos cpos pos : Pos}
theorem items_laid2 {pins : List (Addr × Obj)} {σ : L2.St} {H : Hp} {s : Shared} {h' : Heap} {tk : Nat} {kvs : List (L2.Key × V)} {vs : List (L2.Key × Value)} {as : List Addr} (I : Inv X pins σ H s) (kv : KV kvs vs)
    (hk : ∀ b o, s.heap.get? b = some o → h'.get? b = some o) (hl : as.length = vs.length) (hG : PySem.W.KdxG (mixKind X.prog X.w) vs s.heap.objs.size h' as) :
    ∃ H' : Hp, (∀ b o, H b = some o → H' b = some o) ∧ (∀ t ∈ as, H t = none) ∧ as.Nodup ∧ Paired (fun (t : Addr) (q : L2.Key × V) => H' t = some (.tup [kV q.1, q.2])) as kvs ∧ Inv X pins σ H' { s with heap := h', toks := tk } ∧ (∀ b, b ∉ as → H' b = H b) := by
  have lk : kvs.length = vs.length := Paired.length kv
  have nd : as.Nodup := List.Pairwise.imp (fun {a b} (h : a < b) => Nat.ne_of_lt h) hG.rise
  have new : ∀ t ∈ as, H t = none := fun t ht => I.hok.fresh (Nat.le_of_lt (hG.above t ht))
  have atP := putT_at as kvs H (by omega) nd
  have low : ∀ b o, s.heap.get? b = some o → b ∉ as := fun b o e => fun z => absurd (Heap.lt_size e) (Nat.not_lt.mpr (Nat.le_of_lt (hG.above b z)))
  have kp : ∀ b u, H b = some u → (putT H as kvs) b = some u := fun b u e => by
    rw [putT_off as kvs _ (fun z => by rw [new b z] at e; cases e)]
    exact e
  refine ⟨putT H as kvs, kp, new, nd, atP, ?_, fun b hb => putT_off as kvs _ hb⟩
  refine I.call' (ch := []) rfl ⟨fun b o q _ _ _ => hk b o q, fun b o q _ _ _ => ⟨o.slots, hk b o q⟩, fun b o q n _ => ?_, fun b o q _ => ⟨o, hk b o q⟩, fun b xs q => kp b _ q, fun b o u q => kp b _ q, fun b ps q => ⟨#[], by rw [kp b _ q]; simp⟩⟩ (fun b u q => ?_) I.bare fun b z => by simp at z
  · rw [putT_off as kvs _ (low b o q)]
    exact n
  · by_cases hb : b ∈ as
    · obtain ⟨j, pk, e1, e2, e3⟩ := paired_ix atP hb
      rw [e3] at q
      cases q
      obtain ⟨key, k, x, f1, f2, f3⟩ := hG.pairs j b e1
      obtain ⟨qv, g1, g2, g3⟩ := LiI.paired_get kv e2
      rw [f1] at g1
      cases g1
      have rk : RelV (kV pk.1) key := by
        rw [g2]
        exact relV_key (show keyIs k key = true from f2)
      exact ⟨by show 2 ≤ sizeLine; decide, [key, x], .cons rk (.cons g3 .nil), ⟨_, f3, rfl, _, rfl⟩⟩
    · rw [putT_off as kvs _ hb] at q
      exact (I.hok b u q).stay (fun d v _ y => hk d v y) (fun d y => kp d _ y) fun d xs y => kp d _ y
theorem pe_sortItems (hc : X.calm = true) (he : PE X e te) (hg : Gl X "sorted") (hm : X.mg "sorted" = none) (hbase : attributeBase e "items" X.env (eval e X.env) = eval e X.env := by rfl) (hline : (apos.endLine == cpos.line) = true := by rfl)
    (hs : starEach [.Call (.Attribute e "items" apos) [] [] cpos] X.env = (false, eval (.Call (.Attribute e "items" apos) [] [] cpos) X.env) :: starEach [] X.env := by rfl) :
    PE X (.Call (.Name "sorted" p) [.Call (.Attribute e "items" apos) [] [] cpos] [] pos) (tSortItems te) := by
  refine ⟨fun pins s σ H Q I hq => ?_⟩
  refine wpAny_Call_Name_kw (ld_blt I hg hm (show bootBuiltins "sorted" = some (.builtin "sorted") by decide +kernel) ?_ (by decide) (by decide))
  refine PyProof.Rows.callWith_builtin1 ?_ hs rfl
  rw [hs]
  show wpAny _ _ (spliced ((false, eval (.Call (.Attribute e "items" apos) [] [] cpos) X.env) :: backTo pos (starEach [] X.env))) _ _ s
  refine Calls.spliced_cons ?_
  refine wpAny_Call_method (T := "dict") (id := "dict.items") hbase rfl hline F.plainAttrs_dict F.slot_dict_items F.type_dict_items (thn (he.run pins s σ H _ I hq) fun u s1 ⟨x, H1, I1, rx, d, ps, ex, hd, q⟩ => ?_)
  subst ex
  obtain rfl : u = Value.ref d := rx
  obtain ⟨hz, hs0, vs, kv, hdo⟩ := I1.hok d _ hd
  obtain ⟨ep, hat⟩ := hdo.dictAt
  have lk : (ps.map fun q => ((Sum.inl q.1 : L2.Key), V.int q.2)).length = vs.length := Paired.length kv
  have I2 : Inv X pins σ H1 { s1 with heap := s1.heap.push { cls := .type "dict_items", data := .fields #[.ref d] } } := I1.kept (t' := s1.toks) fun b ob q => Heap.get?_push_of_some _ q
  refine ⟨hdo.typeIs, hdo.mapOf.noDict, ?_⟩
  show wpAny _ _ (callWith cpos (.builtin "dict.items") [.ref d] [] []) _ X.xe s1
  refine method_meetsIn F.slot_dict_items F.entry_dict_items rfl (PySem.evalArgs_none ⟨rfl, hdo.typeIs, F.args_dict_items_1 _, _, meets_dict_items (mixKind X.prog X.w) d hs0, ⟨vs, hdo⟩, ?_⟩)
  refine Calls.spliced_nil ?_
  refine Calls.call_function_entry PyProof.Rows.kind_sorted PyProof.Rows.plain_sorted PyProof.Rows.entry_sorted (PyProof.Rows.args_sorted1 _) ?_
  unfold Builtin.«sorted»
  refine wpAny_bind (m := checkCount "sorted" 1 1 _) (wpAny_pure ?_)
  refine wpAny_bind (PySem.W.kdx_collect (knd := mixKind X.prog X.w) (kvs := vs) (ep := ep) (A := X.A.in1) (I1.ok.hd hc) ⟨_, Heap.get?_push_size _ rfl, rfl, rfl⟩ (hat.push _) (by omega) fun h' tk as hk hl hG => ?_)
  obtain ⟨H', k1, k2, k3, k4, J, k5⟩ := items_laid2 (tk := tk) I2 kv hk hl hG
  have hal : (as.map Value.ref).length ≤ sizeLine := by rw [List.length_map, hl]; omega
  refine wpAny_bind (wpAny_newList ?_ hal)
  have hoL : (h'.push (seqObj "list" (as.map Value.ref).toArray 0)).get? h'.objs.size = some (seqObj "list" (as.map Value.ref).toArray 0) := Heap.get?_push_size _ rfl
  show wpAny _ _ _ _ _ { s1 with heap := h'.push (seqObj "list" (as.map Value.ref).toArray 0), toks := tk }
  -- the tuples' numbers
  have hat' : ∀ (j : Nat) (a : Addr), as[j]? = some a → ∃ q, ps[j]? = some q ∧ H' a = some (.tup [.int q.1, .int q.2]) := fun j a ea => by
    obtain ⟨y, e1, e2⟩ := LiI.paired_get k4 ea
    rw [List.getElem?_map] at e1
    cases e3 : ps[j]? with
    | none => rw [e3] at e1; cases e1
    | some q' =>
      rw [e3] at e1
      cases e1
      exact ⟨q', rfl, e2⟩
  have hlen : as.length = ps.length := by rw [hl, ← lk, List.length_map]
  let zs : List (Addr × Int × Int) := as.zip ps
  have hz1 : zs.map (·.1) = as := List.map_fst_zip (by omega)
  have hz2 : zs.map (·.2) = ps := List.map_snd_zip (by omega)
  have hzt : ∀ z ∈ zs, H' z.1 = some (.tup [.int z.2.1, .int z.2.2]) := fun z hz => by
    obtain ⟨j, hj⟩ := List.mem_iff_getElem?.mp hz
    have e1 : as[j]? = some z.1 := by rw [← hz1, List.getElem?_map, hj]; rfl
    have e2 : ps[j]? = some z.2 := by rw [← hz2, List.getElem?_map, hj]; rfl
    obtain ⟨q', e3, e4⟩ := hat' j _ e1
    rw [e2] at e3
    cases e3
    exact e4
  have J2 : Inv X pins σ H' { s1 with heap := h'.push (seqObj "list" (as.map Value.ref).toArray 0), toks := tk } := J.kept (t' := tk) fun b ob q => Heap.get?_push_of_some _ q
  have hp : ∀ z ∈ zs, Srt.IsPair (h'.push (seqObj "list" (as.map Value.ref).toArray 0)) (.ref z.1) z.2.1 z.2.2 := fun z hz => isPair_of J2 (.inl (.inl (hzt z hz)))
  have hkk : ∀ z ∈ zs, pairOf (h'.push (seqObj "list" (as.map Value.ref).toArray 0)) (.ref z.1) = z.2 := fun z hz => pairOf_eq (hp z hz)
  have ei : as.map Value.ref = zs.map fun z => Value.ref z.1 := by rw [← hz1, List.map_map]; rfl
  have hp2 : ∀ v ∈ as.map Value.ref, Srt.IsPair (h'.push (seqObj "list" (as.map Value.ref).toArray 0)) v (pairOf (h'.push (seqObj "list" (as.map Value.ref).toArray 0)) v).1 (pairOf (h'.push (seqObj "list" (as.map Value.ref).toArray 0)) v).2 := fun v hv => by
    rw [ei] at hv
    obtain ⟨z, hz, rfl⟩ := List.mem_map.mp hv
    rw [hkk z hz]
    exact hp z hz
  refine wpAny_bind (wpAny_holding (wpAny_call_entry PyProof.Rows.slot_list_sort ⟨_, hoL, rfl⟩ PyProof.Rows.entry_list_sort
    (SrtO.list_sort_ord (s := { s1 with heap := h'.push (seqObj "list" (as.map Value.ref).toArray 0), toks := tk }) (SrtO.swo_lex (pairOf (h'.push (seqObj "list" (as.map Value.ref).toArray 0)))) hoL hal (fun h2 => SrtO.pairs_sortableO (s := { s1 with heap := h'.push (seqObj "list" (as.map Value.ref).toArray 0), toks := tk }) (by omega) hp2 fun o e => ?_) fun out h1 h2 => ⟨_, rfl, ?_⟩) (PyProof.Rows.args_list_sort _)))
  · have e' : some o = some (seqObj "list" (as.map Value.ref).toArray 0) := e.symm.trans hoL
    cases e'
    intro c
    exact absurd (Value.type.inj c) (by decide)
  obtain ⟨e', he'⟩ := PyProof.Rows.sortedHeap_at (vs := as.map Value.ref) (out := out.toArray) hoL
  let f : Value → Addr × Int × Int := fun v => ((match v with | .ref a => a | _ => 0), pairOf (h'.push (seqObj "list" (as.map Value.ref).toArray 0)) v)
  have hf : ∀ z ∈ zs, f (.ref z.1) = z := fun z hz => by
    show (z.1, pairOf (h'.push (seqObj "list" (as.map Value.ref).toArray 0)) (.ref z.1)) = z
    rw [hkk z hz]
  have hperm : (out.map f).Perm zs := by
    have h3 := h2.perm.map f
    rw [ei, List.map_map] at h3
    have e4 : zs.map (f ∘ fun z => Value.ref z.1) = zs := by
      conv => rhs; rw [← List.map_id zs]
      exact List.map_congr_left fun z hz => hf z hz
    rw [e4] at h3
    exact h3
  have back : ∀ v ∈ out, ∃ z ∈ zs, v = Value.ref z.1 := fun v hv => by
    have := h2.perm.mem_iff.mp hv
    rw [ei] at this
    obtain ⟨z, hz, e⟩ := List.mem_map.mp this
    exact ⟨z, hz, e.symm⟩
  have hv : Vals ((out.map f).map fun z => V.ref z.1) out := by
    rw [List.map_map]
    have : ∀ l : List Value, (∀ v ∈ l, ∃ z ∈ zs, v = Value.ref z.1) → Vals (l.map ((fun z => V.ref z.1) ∘ f)) l := by
      intro l
      induction l with
      | nil => intro _; exact .nil
      | cons v l ih =>
        intro h
        refine .cons ?_ (ih fun u hu => h u (List.mem_cons_of_mem _ hu))
        obtain ⟨z, _, rfl⟩ := h v List.mem_cons_self
        exact rfl
    exact this out back
  have hlen2 : ((out.map f).map fun z => V.ref z.1).length ≤ sizeLine := by
    rw [List.length_map, hperm.length_eq]
    have : zs.length = as.length := by rw [← hz1, List.length_map]
    rw [this]
    rw [List.length_map] at hal
    exact hal
  have np : H' h'.objs.size = none := J.hok.fresh (Nat.le_refl _)
  have hzn : ∀ z ∈ out.map f, z ∈ zs := fun z hz => hperm.mem_iff.mp hz
  have asz : ∀ z ∈ zs, z.1 ∈ as := fun z hz => by rw [← hz1]; exact List.mem_map.mpr ⟨z, hz, rfl⟩
  have npn : ∀ z ∈ zs, z.1 ≠ h'.objs.size := fun z hz e => by
    have := hzt z hz
    rw [e, np] at this
    cases this
  refine wpAny_pure ⟨_, rfl, .ref h'.objs.size, upd H' h'.objs.size (.lst ((out.map f).map fun z => V.ref z.1)), J.laid (t' := tk) (fun b u e => ?_) (Nat.le_refl _)
    (show ObjOk X.prog X.w _ _ _ (.lst ((out.map f).map fun z => V.ref z.1)) from ⟨hlen2, out, e', hv, he'⟩), rfl, ?_⟩
  · have hb : b < h'.objs.size := Heap.lt_size e
    rw [PyProof.Rows.sortedHeap_old (Nat.ne_of_lt hb) (by rw [size_push']; exact Nat.lt_succ_of_lt hb)]
    exact Heap.get?_push_of_some _ e
  · refine q _ h'.objs.size (out.map f) (fun b o e => ?_) ?_ (fun z hz => k2 _ (asz z (hzn z hz))) (fun hm => ?_) ?_ ?_ ?_ upd_same (fun z hz => ?_) (fun b h1 h2 => ?_)
    · rw [upd_ne (fun z => by subst z; rw [k1 _ _ e] at np; cases np)]
      exact k1 _ _ e
    · cases e3 : H1 h'.objs.size with
      | none => rfl
      | some o => rw [k1 _ _ e3] at np; cases np
    · obtain ⟨z, hz, e3⟩ := List.mem_map.mp hm
      exact npn z (hzn z hz) e3
    · rw [← hz2]
      exact hperm.map _
    · exact List.pairwise_map.mpr (List.Pairwise.imp (fun h => h) h1)
    · have := (hperm.map (·.1))
      rw [hz1] at this
      exact this.nodup_iff.mpr k3
    · rw [upd_ne (npn z (hzn z hz))]
      exact hzt z (hzn z hz)
    · rw [upd_ne h1]
      refine k5 b fun hb => h2 ?_
      have := (hperm.map (·.1))
      rw [hz1] at this
      exact this.mem_iff.mpr hb
end
end DL
namespace DL
open PySem PySem.Spec L2 PyProof.Rows
/-- many new things at once, taken as stable -/
theorem RepM.layMany {K : PySem.W.Frag} {al : List Addr} {S F H H' : Hp} {m : Sto} (R : RepM K al S F H m) (N : List Addr) (kp : ∀ b o, H b = some o → H' b = some o) (nw : ∀ b ∈ N, H b = none) :
    ∃ S' : Hp, RepM K al S' F H' m ∧ Grow al S al S' ∧ ∀ b ∈ N, S' b = H' b := by
  refine ⟨fun b => if b ∈ N then H' b else S b, ⟨fun b u e => ?_, fun b u e => kp _ _ (R.fr b u e), fun b u e => ?_, R.len, fun n c e => ?_, R.inj⟩, ⟨⟨[], by simp⟩, fun b u e => ?_⟩, fun b hb => if_pos hb⟩
  · by_cases hb : b ∈ N
    · simp only [if_pos hb] at e; exact e
    · simp only [if_neg hb] at e; exact kp _ _ (R.same b u e)
  · by_cases hb : b ∈ N
    · exact R.fr.free (nw b hb)
    · simp only [if_neg hb] at e; exact R.dis b u e
  · obtain ⟨a, o', h1, h2, h3, h4, h5⟩ := R.cell n c e
    have na : a ∉ N := fun h => by rw [nw a h] at h4; cases h4
    refine ⟨a, o', h1, by simp only [if_neg na]; exact h2, h3, kp _ _ h4, h5.grow ⟨⟨[], by simp⟩, fun b u e => ?_⟩⟩
    by_cases hb : b ∈ N
    · have := R.same b u e
      rw [nw b hb] at this
      cases this
    · simp only [if_neg hb]; exact e
  · by_cases hb : b ∈ N
    · have := R.same b u e
      rw [nw b hb] at this
      cases this
    · simp only [if_neg hb]; exact e
def dSortIt (td : Dt) : Dt := fun g Q => td g fun w g1 => ∃ ps : List (Int × Int), g1.dct? w = some (ps.map fun q => Sum.inl q.1, ps.map fun q => T.int q.2) ∧ (∃ n, w = .h n) ∧ ∀ out : List (Int × Int), out.Perm ps → out.Pairwise (fun x y => SrtO.lexB y x = false) → Q (.t (.lst (out.map pairT))) g1
theorem vals_pair {K : PySem.W.Frag} {S : Hp} : ∀ {ps : List (Int × Int)} {vs : List V}, Paired (Den K S) (ps.map fun q => T.int q.2) vs → (ps.map fun q => (Sum.inl q.1 : L2.Key)).zip vs = ps.map fun q => ((Sum.inl q.1 : L2.Key), V.int q.2)
  | [], _, .nil => rfl
  | q :: ps, _, .cons d t => by
    unfold Den at d
    subst d
    exact congrArg (List.cons _) (vals_pair t)
section
variable {X : Cx} {e : Expr} {τ : TE} {t : Dt} {p apos cpos pos : Pos}
theorem de_sortItems (hc : X.calm = true) (hm : X.mg "sorted" = none) (he : DE X e τ t) (hg : Gl X "sorted" := by rfl) (hbase : attributeBase e "items" X.env (eval e X.env) = eval e X.env := by rfl) (hline : (apos.endLine == cpos.line) = true := by rfl)
    (hs : starEach [.Call (.Attribute e "items" apos) [] [] cpos] X.env = (false, eval (.Call (.Attribute e "items" apos) [] [] cpos) X.env) :: starEach [] X.env := by rfl) :
    DE X (.Call (.Name "sorted" p) [.Call (.Attribute e "items" apos) [] [] cpos] [] pos) (tSortItems τ) (dSortIt t) := by
  refine ⟨pe_sortItems hc he.pe hg hm hbase hline hs, fun al S F H σ g Q QV R q k => ?_⟩
  refine he.r al S F H σ g _ _ R q fun al1 S1 H1 g1 v w R1 gr1 d1 q1 => ?_
  obtain ⟨ps, e1, ⟨n, rfl⟩, q2⟩ := q1
  obtain ⟨a, vs, rfl, h1, h2, h3⟩ := R1.viewD d1 e1
  rw [vals_pair h3] at h1
  refine ⟨a, ps, rfl, h1, fun H' b zs k1 k2 k3 k4 k5 k6 k7 k8 k9 _ => ?_⟩
  obtain ⟨S', M, gr, hS⟩ := R1.toRepM.layMany (H' := H') (b :: zs.map (·.1)) k1 fun c hc => by
    rcases List.mem_cons.mp hc with rfl | hc
    · exact k2
    · obtain ⟨z, hz, rfl⟩ := List.mem_map.mp hc
      exact k3 z hz
  refine k _ _ _ _ _ (.t (.lst ((zs.map (·.2)).map pairT))) (R1.withM2 gr M) (gr1.trans gr) ?_ (q2 _ k5 (List.pairwise_map.mpr k6))
  unfold DenW Den
  refine ⟨b, zs.map fun z => V.ref z.1, rfl, by rw [hS b List.mem_cons_self]; exact k8, Dens.iff.mpr (den_pairsB fun z hz => ?_)⟩
  exact .inl (.inl (by rw [hS z.1 (List.mem_cons_of_mem _ (List.mem_map.mpr ⟨z, hz, rfl⟩))]; exact k9 z hz))
end
theorem i_sortIt {g : G} {Q : W → G → Prop} {td : Dt} (h : td g fun w g1 => ∃ ps : List (Int × Int), g1.dct? w = some (ps.map fun q => Sum.inl q.1, ps.map fun q => T.int q.2) ∧ (∃ n, w = .h n) ∧ ∀ out : List (Int × Int), out.Perm ps → out.Pairwise (fun x y => SrtO.lexB y x = false) → Q (.t (.lst (out.map pairT))) g1) : dSortIt td g Q := h
end DL

namespace DL
open PySem PySem.Spec L2
/-- classes that are raised: all are asked for, those of N are made without an __init__ of their own -/
structure XFY (K : PySem.W.Frag) (mg : Str → Option Value) (R M N : List Str) : Prop where
  xi : XI K mg R M
  nm : ∀ n ∈ N, ∃ C, XM K mg n C
end DL

namespace DL
open PySem PySem.Spec L2
/-! tuple(x), x a list that holds handles -/
def fTupOfW : FN := fun g ws Q => match ws with
  | [w] => (match g.wl? w with | some us => Q (.h g.mem.length) (g.push (.tw us)) | none => False)
  | _ => False
theorem opN_tupOfW {K : PySem.W.Frag} : OpN K (fun xs H Q => ∃ p ys, xs = [.ref p] ∧ ((SqL K H p ys ∧ ∀ l, H l = none → Q (.ref l) (upd H l (.tup ys))) ∨ (SqT K H p ys ∧ Q (.ref p) H))) fTupOfW := by
  intro al S F H σ g xs ws Q QV R ds q k
  unfold fTupOfW at q
  split at q
  · obtain ⟨v, rfl, d⟩ := p1 ds
    split at q
    · rename_i us e
      obtain ⟨a, vs, rfl, h1, h2⟩ := R.viewWl d e
      refine ⟨a, vs, rfl, .inl ⟨.inl (.inl h1), fun p np => ?_⟩⟩
      obtain ⟨R2, gr2, d2⟩ := R.pushC (c := .tw us) (o := .tup vs) np ⟨vs, rfl, DenWs.grow ⟨⟨[p], rfl⟩, Same.refl _⟩ h2⟩
      exact k _ _ _ _ _ _ R2 gr2 d2 q
    · exact q.elim
  · exact q.elim
section
variable {X : Cx} {e : Expr} {es : List Expr} {τs : TA} {ts : DAt} {p pos : Pos}
theorem de_tupOfW (hm : X.mg "tuple" = none) (ha : DA X (e :: es) τs ts) (hg : Gl X "tuple" := by rfl) (he : starEach (e :: es) X.env = (false, eval e X.env) :: starEach es X.env := by rfl) (hpl : (backTo pos (starEach es X.env)).any (·.1) = false := by rfl) :
    DE X (.Call (.Name "tuple" p) (e :: es) [] pos) (tCB (fun xs H Q => ∃ p ys, xs = [.ref p] ∧ ((SqL X.K H p ys ∧ ∀ l, H l = none → Q (.ref l) (upd H l (.tup ys))) ∨ (SqT X.K H p ys ∧ Q (.ref p) H))) τs) (dN fTupOfW ts) := de_cT call_tuple_of opN_tupOfW hm ha (by decide +kernel) hg (by decide) (by decide) he hpl
end
theorem i_tupOfW {g : G} {Q : W → G → Prop} {w : W} {us : List W} (e : g.wl? w = some us) (h : Q (.h g.mem.length) (g.push (.tw us))) : fTupOfW g [w] Q := by unfold fTupOfW; dsimp only; rw [e]; exact h
end DL

namespace DL
open PySem PySem.Spec L2
local macro_rules | `(tactic| walk_at "dn") => `(tactic| simp only [purse_set2, purse_set3, purse_set4, purse_set5, purse_app, purse_len, purse_start, purse_l, G.set, G.put, G.push, G.wipe, wipeW, G.rs, rsW, List.set_cons_zero, List.set_cons_succ, List.map_cons, List.map_nil, List.length_cons, List.length_nil, List.nil_append, List.cons_append, List.replicate_succ, List.replicate_zero, Nat.reduceAdd, Nat.reduceSub, List.getD_cons_zero, List.getD_cons_succ, Option.getD_some, Option.getD_none])
local macro_rules | `(tactic| walk_at "d1") => `(tactic| first
  | with_reducible refine i_seq ?_
  | with_reducible refine i_asg ?_
  | with_reducible refine i_d2 ?_
  | ((with_reducible refine' i_var ?e ?_); (case e => rfl))
  | with_reducible refine i_c ?_
  | ((with_reducible refine' i_ix ?e ?v ?_); (case e => rfl); (case v => first | assumption | rfl))
  | with_reducible refine i_fI0 ?_
  | with_reducible refine i_gN ?_
  | with_reducible refine i_cons ?_
  | with_reducible refine i_nil ?_
  | with_reducible refine i_dN ?_
  | ((with_reducible refine' i_len ?e ?_); (case e => rfl))
  | with_reducible refine i_d1 ?_
  | with_reducible refine i_neg ?_
  | with_reducible refine i_B ?_
  | with_reducible refine o_B ?_
  | with_reducible refine o_I ?_
  | with_reducible refine i_ifS ?_
  | with_reducible refine i_or ?_
  | with_reducible refine i_and ?_
  | with_reducible refine i_not ?_
  | with_reducible refine i_andV ?_
  | with_reducible refine i_orV ?_
  | with_reducible refine i_notV ?_
  | with_reducible refine i_if ?_
  | with_reducible refine i_yes ?_
  | with_reducible refine k_T ?_
  | with_reducible refine k_F ?_
  | with_reducible refine k_True ?_
  | with_reducible refine k_False ?_
  | with_reducible refine i_eqI ?_
  | with_reducible refine i_neI ?_
  | with_reducible refine i_addI ?_
  | with_reducible refine i_addHI ?_
  | with_reducible refine i_callT ?_
  | with_reducible refine i_callH ?_
  | ((with_reducible refine' o_Ts ?e ?_); (case e => rfl))
  | with_reducible refine o_T ?_
  | ((with_reducible refine' o_TF ?e ?_); (case e => rfl))
  | with_reducible refine o_H ?_
  | ((with_reducible refine' o_HF ?e ?_); (case e => rfl))
  | with_reducible refine i_next ?_
  | with_reducible refine i_drop ?_
  | with_reducible refine i_ret ?_
  | with_reducible refine i_retN ?_
  | ((with_reducible refine' i_gTup ?e ?_); (case e => rfl))
  | with_reducible refine i_gCons ?_
  | with_reducible refine i_gNil ?_
  | with_reducible refine i_min2 ?_
  | with_reducible refine i_max2 ?_
  | with_reducible refine i_par ?_
  | with_reducible refine o_W2 ?_
  | ((with_reducible refine' i_aug ?e ?_); (case e => rfl))
  | with_reducible refine i_intI ?_
  | with_reducible refine i_intB ?_
  | with_reducible refine i_lc ?_
  | with_reducible refine i_for ?_
  | with_reducible refine i_while ?_
  | with_reducible refine i_itL ?_
  | ((with_reducible refine' o_Lq ?e ?_); (case e => rfl))
  | with_reducible refine i_itR1 ?_
  | with_reducible refine i_itR2 ?_
  | with_reducible refine o_I1 ?_
  | with_reducible refine o_I2 ?_
  | with_reducible refine e_t ?_
  | ((with_reducible refine' e_h ?e ?p ?_); (case e => rfl); (case p => rfl))
  | with_reducible refine i_M ?_
  | with_reducible refine i_M0 ?_
  | with_reducible refine i_gSub ?_
  | with_reducible refine i_finH ?_
  | with_reducible refine i_finT ?_
  | with_reducible refine i_sl ?_
  | with_reducible refine i_slH ?_
  | with_reducible refine i_slT ?_
  | with_reducible refine i_noPart ?_
  | with_reducible refine i_part ?_
  | ((with_reducible refine' i_frzT ?e ?_); (case e => rfl))
  | ((with_reducible refine' i_frzH ?e ?m ?t ?_); (case e => rfl); (case m => rfl); (case t => rfl))
  | ((with_reducible refine' i_din ?k ?e ?_); (case k => rfl); (case e => rfl))
  | ((with_reducible refine' i_dnotin ?k ?e ?_); (case k => rfl); (case e => rfl))
  | with_reducible refine i_dput ?_
  | with_reducible refine i_newD ?_
  | with_reducible refine i_lstH ?_
  | with_reducible refine i_lst ?_
  | with_reducible refine i_tup ?_
  | with_reducible refine i_break ?_
  | with_reducible refine i_cont ?_
  | with_reducible refine i_callS ?_
  | ((with_reducible refine' i_ixHW ?e ?v ?_); (case e => first | rfl | assumption); (case v => first | assumption | rfl))
  | ((with_reducible refine' i_ixHT ?e ?v ?_); (case e => first | rfl | assumption); (case v => first | assumption | rfl))
  | ((with_reducible refine' i_lenHT ?e ?_); (case e => first | rfl | assumption))
  | ((with_reducible refine' i_lenHW ?e ?_); (case e => first | rfl | assumption))
  | ((with_reducible refine' i_frzH ?e ?m ?t ?_); (case e => rfl); (case m => rfl); (case t => rfl))
  | ((with_reducible refine' i_unw ?e ?n ?_); (case e => rfl); (case n => rfl))
  | with_reducible refine i_gwCons ?_
  | with_reducible refine i_gwNil ?_
  | with_reducible refine i_lstW ?_
  | ((with_reducible refine' i_gList ?e ?n ?_); (case e => rfl); (case n => rfl))
  | with_reducible refine i_listRgH ?_
  | with_reducible refine i_listRg ?_
  | with_reducible refine i_R1 ?_
  | with_reducible refine i_getD ?_
  | ((with_reducible refine' i_none ?k ?_); (case k => rfl))
  | walk_at "dn")
local macro_rules | `(tactic| walk_at "dl") => `(tactic| ((try walk_at "dn"); repeat walk_at "d1"))
/-! codes looked at: what a machine's tuple is -/
inductive KT : T → Prop
  | non : KT .non
  | bl (b : Bool) : KT (.bl b)
  | int (i : Int) : KT (.int i)
  | str (x : Str) : KT (.str x)
  | lst (xs : List T) : KT (.lst xs)
  | tup (xs : List T) : KT (.tup xs)
def numT : T → Bool | .int _ => true | _ => false
def C_is_number : PC := fun ts Q => ∃ t, ts = [t] ∧ KT t ∧ Q (.t (.bl (numT t)))
theorem ln_is_number : ∀ ts Q, C_is_number ts Q → ts.length = ["thing"].length := by rintro ts Q ⟨_, rfl, _⟩; rfl
def rd_is_number : DSt :=
  dRet (dAndV (dN fIsi (dCons (dVar 0) (dCons (dC (.raw (.ty "int"))) (dNil)))) (dNotV (dN fIsi (dCons (dVar 0) (dCons (dC (.raw (.ty "bool"))) (dNil))))))

theorem rp_is_number : ∀ ts Q, C_is_number ts Q → rd_is_number ⟨FinP Q (.t .non), FinP Q, fun _ => False, fun _ => False⟩ ⟨ts.map (fun t => some (W.t t)) ++ List.replicate (1 - ts.length) none, []⟩ := by
  rintro ts Q ⟨t, rfl, k, hQ⟩
  unfold rd_is_number
  cases k with
  | int i =>
    walk_at "dl"
    refine i_isi (a := "int") (b := true) rfl rfl ?_
    walk_at "dl"
    refine i_isi (a := "int") (b := false) rfl rfl ?_
    walk_at "dl"
    exact hQ
  | bl b =>
    walk_at "dl"
    refine i_isi (a := "bool") (b := true) rfl rfl ?_
    walk_at "dl"
    refine i_isi (a := "bool") (b := true) rfl rfl ?_
    walk_at "dl"
    exact hQ
  | non =>
    walk_at "dl"
    refine i_isi (a := "NoneType") (b := false) rfl rfl ?_
    walk_at "dl"
    exact hQ
  | str x =>
    walk_at "dl"
    refine i_isi (a := "str") (b := false) rfl rfl ?_
    walk_at "dl"
    exact hQ
  | lst xs =>
    walk_at "dl"
    refine i_isi (a := "list") (b := false) rfl rfl ?_
    walk_at "dl"
    exact hQ
  | tup xs =>
    walk_at "dl"
    refine i_isi (a := "tuple") (b := false) rfl rfl ?_
    walk_at "dl"
    exact hQ
def sgT : Str := ⟨#[116]⟩
def sgZ : Str := ⟨#[122]⟩
def fitsT (many : Int) (c : Str) : T → Bool
  | .int i => if c = sgT then decide (0 ≤ i) && decide (i < many) else decide (c = sgZ) || decide (0 ≤ i)
  | _ => false
def C_fits : PC := fun ts Q => ∃ t c many, ts = [t, .str c, .int many] ∧ KT t ∧ Q (.t (.bl (fitsT many c t)))
theorem ln_fits : ∀ ts Q, C_fits ts Q → ts.length = ["thing", "mark", "many"].length := by rintro ts Q ⟨_, _, _, rfl, _⟩; rfl
def rd_fits : DSt :=
  dSeq (dIfS (dNot (dB (dCallT C_is_number (dCons (dVar 0) (dNil))))) (dRet (dC (.bl false))) (dNext))
  (dSeq (dIfS (dB (d2 (fEq false) (dVar 1) (dC (.str (PySem.Str.ofString "t"))))) (dRet (dAndV (d2 (fI0 fun i j => .bl (decide (i ≤ j))) (dC (.int 0)) (dVar 0)) (d2 (fI0 fun i j => .bl (decide (i < j))) (dVar 0) (dVar 2)))) (dNext))
  (dRet (dOrV (d2 (fEq false) (dVar 1) (dC (.str (PySem.Str.ofString "z")))) (d2 (fI0 fun i j => .bl (decide (j ≤ i))) (dVar 0) (dC (.int 0))))))

theorem rp_fits : ∀ ts Q, C_fits ts Q → rd_fits ⟨FinP Q (.t .non), FinP Q, fun _ => False, fun _ => False⟩ ⟨ts.map (fun t => some (W.t t)) ++ List.replicate (3 - ts.length) none, []⟩ := by
  rintro ts Q ⟨t, c, many, rfl, k, hQ⟩
  unfold rd_fits
  walk_at "dl"
  refine ⟨t, rfl, k, ?_⟩
  walk_at "dl"
  cases hn : numT t with
  | false =>
    have hq : fitsT many c t = false := by cases k <;> first | rfl | cases hn
    rw [hq] at hQ
    walk_at "dl"
    exact hQ
  | true =>
    cases k with
    | int i =>
      rw [show (!true) = false from rfl]
      walk_at "dl"
      refine i_eqS ?_
      rw [show (PySem.Str.ofString "t" : Str) = sgT by decide +kernel]
      by_cases h1 : c = sgT
      · rw [decide_eq_true h1]
        walk_at "dl"
        have hf : fitsT many c (.int i) = if c = sgT then decide (0 ≤ i) && decide (i < many) else decide (c = sgZ) || decide (0 ≤ i) := rfl
        rw [hf] at hQ
        rw [if_pos h1] at hQ
        refine k_d (fun h2 => ?_) (fun h2 => ?_)
        · walk_at "dl"
          rw [decide_eq_true h2, Bool.true_and] at hQ
          exact hQ
        · rw [decide_eq_false h2, Bool.false_and] at hQ
          exact hQ
      · rw [decide_eq_false h1]
        walk_at "dl"
        have hf : fitsT many c (.int i) = if c = sgT then decide (0 ≤ i) && decide (i < many) else decide (c = sgZ) || decide (0 ≤ i) := rfl
        rw [hf] at hQ
        rw [if_neg h1] at hQ
        refine i_eqS ?_
        rw [show (PySem.Str.ofString "z" : Str) = sgZ by decide +kernel]
        walk_at "dl"
        refine k_d (fun h2 => ?_) (fun h2 => ?_)
        · rw [decide_eq_true h2, Bool.true_or] at hQ
          exact hQ
        · walk_at "dl"
          rw [decide_eq_false h2, Bool.false_or] at hQ
          exact hQ
    | _ => cases hn
/-! the words and their marks -/
def tbl_SHAPES : List (Str × Str) := [(PySem.Str.ofString "row", PySem.Str.ofString "n"), (PySem.Str.ofString "ask", PySem.Str.ofString "nnt"), (PySem.Str.ofString "jump", PySem.Str.ofString "t"), (PySem.Str.ofString "call", PySem.Str.ofString "ntz"), (PySem.Str.ofString "back", PySem.Str.ofString ""), (PySem.Str.ofString "count", PySem.Str.ofString "n"), (PySem.Str.ofString "add", PySem.Str.ofString "z"), (PySem.Str.ofString "tell", PySem.Str.ofString "nz")]
def partsT (many : Int) (xs : List T) (m : Str) : Bool := (xs.zip m.cps.toList).all fun q => fitsT many ⟨#[q.2]⟩ q.1
/-- whether a tuple is one of a code of so many -/
def doneT (many : Int) : T → Bool
  | .tup (.str w :: xs) => match tblG tbl_SHAPES w with
    | some m => decide (xs.length = m.cps.size) && partsT many xs m
    | none => false
  | _ => false
/-- what may stand in a code that is looked at -/
inductive LT : T → Prop
  | non : LT .non
  | bl (b : Bool) : LT (.bl b)
  | int (i : Int) : LT (.int i)
  | str (x : Str) : LT (.str x)
  | lst (xs : List T) : LT (.lst xs)
  | tup (xs : List T) (h : ∀ x ∈ xs, KT x) (hs : ∀ x ∈ xs, x.sh 7 = true) (hl : xs.length ≤ 100) : LT (.tup xs)
theorem tbl_le {w m : Str} (h : tblG tbl_SHAPES w = some m) : m.cps.size ≤ 3 := by
  unfold tblG at h
  cases hf : tbl_SHAPES.find? (fun q => q.1 == w) with
  | none => rw [hf] at h; cases h
  | some q =>
    rw [hf] at h
    cases h
    have : ∀ q ∈ tbl_SHAPES, q.2.cps.size ≤ 3 := by decide +kernel
    exact this q (List.mem_of_find?_eq_some hf)
theorem i_cutA {g : G} {ts : List T} {lo hi : Option Int} {Q : W → G → Prop} (h : Q (.t (.tup (cut ts lo hi))) g) : onCutA g (.t (.tup ts)) lo hi Q := h
theorem i_onZTS {g1 : G} {us : List T} {x : Str} {Q : List W → (G → Prop) → Prop} (h : Q ((us.zip (signsT x)).map fun q => W.t (.tup [q.1, q.2])) (fun _ => True)) : onZTS g1 [.t (.tup us), .t (.str x)] Q := h
theorem cut_one {α : Type} (x : α) (xs : List α) : cut (x :: xs) (some 1) none = xs := by
  unfold cut HT.sIx
  simp
def C_is_done : PC := fun ts Q => ∃ t many, ts = [t, .int many] ∧ LT t ∧ Q (.t (.bl (doneT many t)))
theorem ln_is_done : ∀ ts Q, C_is_done ts Q → ts.length = ["line", "many"].length := by rintro ts Q ⟨_, _, rfl, _⟩; rfl
def rd_is_done : DSt :=
  dSeq (dIfS (dOr (dNot (dB (dN fIsi (dCons (dVar 0) (dCons (dC (.raw (.ty "tuple"))) (dNil)))))) (dOr (dB (d2 (fEq false) (dVar 0) (dTup (dNil)))) (dOr (dNot (dB (dN fIsi (dCons (d2 fIx (dVar 0) (dC (.int 0))) (dCons (dC (.raw (.ty "str"))) (dNil)))))) (dB (dInK true tbl_SHAPES (d2 fIx (dVar 0) (dC (.int 0)))))))) (dRet (dC (.bl false))) (dNext))
  (dSeq (dAsg (dIxK tbl_SHAPES (d2 fIx (dVar 0) (dC (.int 0)))) (dgN 2))
  (dSeq (dIfS (dB (d2 (fEq true) (dN fLen (dCons (dVar 0) (dNil))) (d2 fAdd (dN fLenS (dCons (dVar 2) (dNil))) (dC (.int 1))))) (dRet (dC (.bl false))) (dNext))
  (dRet (dN fAll (dCons (dLc finT (diZTS (dCons (dSlA (dVar 0) (dPart (dC (.int 1))) (dNoPart)) (dCons (dVar 2) (dNil)))) (dgTup 2 (dgCons (dgN 3) (dgCons (dgN 4) (dgNil)))) (dYes) (dCallT C_fits (dCons (dVar 3) (dCons (dVar 4) (dCons (dVar 1) (dNil))))) [3, 4]) (dNil))))))

theorem rp_is_done : ∀ ts Q, C_is_done ts Q → rd_is_done ⟨FinP Q (.t .non), FinP Q, fun _ => False, fun _ => False⟩ ⟨ts.map (fun t => some (W.t t)) ++ List.replicate (5 - ts.length) none, []⟩ := by
  rintro ts Q ⟨t, many, rfl, k, hQ⟩
  unfold rd_is_done
  cases k with
  | non =>
    walk_at "dl"
    refine i_isi (a := "NoneType") (b := false) rfl rfl ?_
    walk_at "dl"
    exact hQ
  | bl b =>
    walk_at "dl"
    refine i_isi (a := "bool") (b := false) rfl rfl ?_
    walk_at "dl"
    exact hQ
  | int i =>
    walk_at "dl"
    refine i_isi (a := "int") (b := false) rfl rfl ?_
    walk_at "dl"
    exact hQ
  | str x =>
    walk_at "dl"
    refine i_isi (a := "str") (b := false) rfl rfl ?_
    walk_at "dl"
    exact hQ
  | lst xs =>
    walk_at "dl"
    refine i_isi (a := "list") (b := false) rfl rfl ?_
    walk_at "dl"
    exact hQ
  | tup xs hk hs hl =>
    walk_at "dl"
    refine i_isi (a := "tuple") (b := true) rfl rfl ?_
    walk_at "dl"
    rw [show (!true) = false from rfl]
    walk_at "dl"
    cases xs with
    | nil =>
      refine ⟨Nat.zero_le _, ?_⟩
      refine i_eqT (u := .tup []) (v := .tup []) rfl rfl rfl rfl ?_
      rw [show teq (.tup []) (.tup []) = true by simp [teq, T.pd, PyData.eqv, PyData.eqvAll]]
      walk_at "dl"
      exact hQ
    | cons x xs =>
      have h0 : atI (x :: xs) 0 = some x := atI_nat (xs := x :: xs) (j := 0) (v := x) rfl
      refine ⟨Nat.zero_le _, ?_⟩
      refine i_eqT (u := .tup (x :: xs)) (v := .tup []) rfl rfl (show ((x :: xs).all (T.sh 7)) = true from List.all_eq_true.mpr hs) rfl ?_
      rw [show teq (.tup (x :: xs)) (.tup []) = false by simp [teq, T.pd, PyData.eqv, PyData.eqvAll]]
      walk_at "dl"
      have kx := hk x List.mem_cons_self
      cases kx with
      | non =>
        refine i_isi (a := "NoneType") (b := false) rfl rfl ?_
        walk_at "dl"
        exact hQ
      | bl b =>
        refine i_isi (a := "bool") (b := false) rfl rfl ?_
        walk_at "dl"
        exact hQ
      | int i =>
        refine i_isi (a := "int") (b := false) rfl rfl ?_
        walk_at "dl"
        exact hQ
      | lst ys =>
        refine i_isi (a := "list") (b := false) rfl rfl ?_
        walk_at "dl"
        exact hQ
      | tup ys =>
        refine i_isi (a := "tuple") (b := false) rfl rfl ?_
        walk_at "dl"
        exact hQ
      | str w =>
        refine i_isi (a := "str") (b := true) rfl rfl ?_
        walk_at "dl"
        rw [show (!true) = false from rfl]
        walk_at "dl"
        refine i_inK ?_
        walk_at "dl"
        have hd : doneT many (.tup (.str w :: xs)) = match tblG tbl_SHAPES w with | some m => decide (xs.length = m.cps.size) && partsT many xs m | none => false := rfl
        cases hm : tblG tbl_SHAPES w with
        | none =>
          rw [hm] at hd
          rw [hd] at hQ
          rw [show (if True then !(none : Option Str).isSome else (none : Option Str).isSome) = true from rfl]
          walk_at "dl"
          exact hQ
        | some m =>
          have h3 := tbl_le hm
          rw [hm] at hd
          rw [hd] at hQ
          replace hQ : Q (.t (.bl (decide (xs.length = m.cps.size) && partsT many xs m))) := hQ
          rw [show (if True then !(some m).isSome else (some m).isSome) = false from rfl]
          walk_at "dl"
          refine i_ixK ?_
          walk_at "dl"
          refine ⟨m, hm, ?_⟩
          walk_at "dl"
          refine ⟨Nat.le_trans (show m.cps.size ≤ 3 from h3) (by show 3 ≤ sizeLine; decide), ?_⟩
          walk_at "dl"
          refine k_n (fun h => ?_) (fun h => ?_)
          · walk_at "dl"
            have hl2 : ¬ xs.length = m.cps.size := fun e => h (by rw [e]; exact Int.natCast_succ _)
            rw [decide_eq_false hl2, Bool.false_and] at hQ
            exact hQ
          · have hl2 : xs.length = m.cps.size := by
              have : ((xs.length + 1 : Nat) : Int) = ((m.cps.size : Nat) : Int) + 1 := h
              omega
            rw [decide_eq_true hl2, Bool.true_and] at hQ
            walk_at "dl"
            refine i_itZTS ?_
            walk_at "dl"
            refine i_slA ?_
            walk_at "dl"
            have hcut : cut (T.str w :: xs) (some 1) none = xs := cut_one _ _
            refine i_cutA ?_
            rw [hcut]
            walk_at "dl"
            refine i_onZTS ?_
            refine lcP (xs.zip m.cps.toList) (fun q => W.t (.tup [q.1, .str ⟨#[q.2]⟩])) (fun _ => true) (fun q => T.bl (fitsT many ⟨#[q.2]⟩ q.1)) ?_ ?_ trivial ?_ rfl ?_
            · unfold signsT
              rw [List.zip_map_right, List.map_map]
              rfl
            · rw [List.length_zip]
              exact Nat.le_trans (Nat.min_le_right _ _) (Nat.le_trans (show m.cps.toList.length ≤ 3 by rw [Array.length_toList]; exact h3) (by show 3 ≤ sizeLine; decide))
            · rintro ⟨u, c⟩ hp Y N hY hN
              have hu := (List.of_mem_zip hp).1
              walk_at "dl"
              refine ⟨u, ⟨#[c]⟩, many, rfl, hk u (List.mem_cons_of_mem _ hu), ?_⟩
              walk_at "dl"
              exact hY rfl _ rfl
            · rw [List.filter_eq_self.mpr (fun _ _ => rfl)]
              walk_at "dl"
              refine i_all (ns := (xs.zip m.cps.toList).map fun q => fitsT many ⟨#[q.2]⟩ q.1) (by rw [List.map_map]; rfl) ?_
              unfold partsT at hQ
              rw [List.all_map]
              exact hQ
/-! codes that are let by -/
theorem teq_lst_nil {x : T} {xs : List T} : teq (.lst (x :: xs)) (.lst []) = false := by simp [teq, T.pd, PyData.eqv, PyData.eqvAll]
theorem teq_nil_nil : teq (.lst []) (.lst []) = true := by simp [teq, T.pd, PyData.eqv, PyData.eqvAll]
def C_look_code : PC := fun ts Q => ∃ xs : List T, ts = [.lst xs] ∧ xs ≠ [] ∧ xs.length ≤ 2000 ∧ (∀ x ∈ xs, LT x) ∧ (∀ x ∈ xs, x.sh 7 = true) ∧ (∀ x ∈ xs, doneT xs.length x = true) ∧ Q (.t .non)
theorem ln_look_code : ∀ ts Q, C_look_code ts Q → ts.length = ["code"].length := by rintro ts Q ⟨_, rfl, _⟩; rfl
def rd_look_code : DSt :=
  dSeq (dIfS (dB (d2 (fEq false) (dVar 0) (dLst (dNil)))) (dNever) (dNext))
  (dFor (diR1 (dCons (dN fLen (dCons (dVar 0) (dNil))) (dNil))) (dgN 1) (dIfS (dNot (dB (dCallT C_is_done (dCons (d2 fIx (dVar 0) (dVar 1)) (dCons (dN fLen (dCons (dVar 0) (dNil))) (dNil)))))) (dNever) (dNext)))

theorem rp_look_code : ∀ ts Q, C_look_code ts Q → rd_look_code ⟨FinP Q (.t .non), FinP Q, fun _ => False, fun _ => False⟩ ⟨ts.map (fun t => some (W.t t)) ++ List.replicate (2 - ts.length) none, []⟩ := by
  rintro ts Q ⟨xs, rfl, hne, hl, hk, hs, hd, hQ⟩
  unfold rd_look_code
  walk_at "dl"
  refine ⟨Nat.zero_le _, ?_⟩
  refine i_eqT (u := .lst xs) (v := .lst []) rfl rfl (show (xs.all (T.sh 7)) = true from List.all_eq_true.mpr hs) rfl ?_
  rw [show teq (.lst xs) (.lst []) = false by cases xs with | nil => exact absurd rfl hne | cons x xs => exact teq_lst_nil]
  walk_at "dl"
  refine ⟨by omega, ?_⟩
  refine forP (List.range xs.length) (fun k => W.t (.int ((k : Nat) : Int))) (fun _ _ => ()) (fun _ g' => ∃ o : Option W, g' = ⟨[some (.t (.lst xs)), o], []⟩) () (by rw [Int.toNat_natCast, rgW0]) ⟨_, rfl⟩ (fun _ _ _ => trivial) ?_ ?_
  · rintro pre k post hsp g' ⟨o, rfl⟩ N hN
    have hk' : k < xs.length := by
      have : k ∈ List.range xs.length := by rw [hsp]; simp
      simpa using this
    have hx : atI xs ((k : Nat) : Int) = some xs[k] := atI_nat (List.getElem?_eq_getElem hk')
    walk_at "dl"
    refine ⟨xs[k], (xs.length : Int), rfl, hk _ (List.getElem_mem hk'), ?_⟩
    rw [hd _ (List.getElem_mem hk')]
    walk_at "dl"
    rw [show (!true) = false from rfl]
    walk_at "dl"
    exact hN _ ⟨_, rfl⟩
  · rintro g' ⟨o, rfl⟩
    exact hQ
def Ans (as : List Int) : Prop := (∀ a ∈ as, a = 0 ∨ a = 1) ∧ as.length ≤ 1000
def C_look_answers : PC := fun ts Q => ∃ (as : List Int) (b : Int), ts = [.lst (as.map T.int), .int b] ∧ Ans as ∧ 0 ≤ b ∧ Q (.t .non)
theorem ln_look_answers : ∀ ts Q, C_look_answers ts Q → ts.length = ["answers", "bound"].length := by rintro ts Q ⟨_, _, rfl, _⟩; rfl
def rd_look_answers : DSt :=
  dIfS (dOr (dB (d2 (fI0 fun i j => .bl (decide (i < j))) (dVar 1) (dC (.int 0)))) (dB (d2 (fEq true) (dLc finT (diL (dVar 0)) (dgN 2) (dAnd (dB (d2 (fEq true) (dVar 2) (dC (.int 0)))) (dB (d2 (fEq true) (dVar 2) (dC (.int 1))))) (dVar 2) [2]) (dLst (dNil))))) (dNever) (dNext)

theorem rp_look_answers : ∀ ts Q, C_look_answers ts Q → rd_look_answers ⟨FinP Q (.t .non), FinP Q, fun _ => False, fun _ => False⟩ ⟨ts.map (fun t => some (W.t t)) ++ List.replicate (3 - ts.length) none, []⟩ := by
  rintro ts Q ⟨as, b, rfl, ha, hb, hQ⟩
  unfold rd_look_answers
  walk_at "dl"
  refine k_dF (by omega) ?_
  walk_at "dl"
  refine lcP as (fun i => W.t (.int i)) (fun _ => false) (fun i => T.int i) ?_ (Nat.le_trans ha.2 (by show 1000 ≤ sizeLine; decide)) ?_ (fun x hx Y N hY hN => ?_) rfl ?_
  · rw [List.map_map]; rfl
  · trivial
  · walk_at "dl"
    rcases ha.1 x hx with rfl | rfl
    · refine k_nF (by trivial) ?_
      exact hN rfl _ rfl
    · refine k_nT (by decide) ?_
      walk_at "dl"
      refine k_nF (by trivial) ?_
      exact hN rfl _ rfl
  · rw [List.filter_eq_nil_iff.mpr (fun _ _ => by decide)]
    walk_at "dl"
    refine ⟨[], rfl, ?_⟩
    walk_at "dl"
    refine ⟨Nat.zero_le _, ?_⟩
    refine i_neT (u := .lst []) (v := .lst []) rfl rfl rfl rfl ?_
    rw [teq_nil_nil]
    walk_at "dl"
    exact hQ
/-! the first state, and the machine's words -/
def st0 : T := .tup [.int 0, .lst [.tup [.int (-1), .int 0, .int 0]], .lst [], .lst [], .int 0, .lst [], .int 0, .int 0]
def C_begun : PC := fun ts Q => ts = [] ∧ Q (.t st0)
theorem ln_begun : ∀ ts Q, C_begun ts Q → ts.length = ([] : List Str).length := by rintro ts Q ⟨rfl, _⟩; rfl
def rd_begun : DSt :=
  dRet (dTup (dCons (dC (.int 0)) (dCons (dLst (dCons (dTup (dCons (d1 fNeg (dC (.int 1))) (dCons (dC (.int 0)) (dCons (dC (.int 0)) (dNil))))) (dNil))) (dCons (dLst (dNil)) (dCons (dLst (dNil)) (dCons (dC (.int 0)) (dCons (dLst (dNil)) (dCons (dC (.int 0)) (dCons (dC (.int 0)) (dNil))))))))))

theorem rp_begun : ∀ ts Q, C_begun ts Q → rd_begun ⟨FinP Q (.t .non), FinP Q, fun _ => False, fun _ => False⟩ ⟨ts.map (fun t => some (W.t t)) ++ List.replicate (0 - ts.length) none, []⟩ := by
  rintro ts Q ⟨rfl, hQ⟩
  unfold rd_begun
  walk_at "dl"
  repeat (first | exact hQ | (refine ⟨(by show _ ≤ sizeLine; decide), ?_⟩; try walk_at "dl"))
def C__law_whole : PC := fun ts Q => ∃ t, ts = [t] ∧ KT t ∧ Q (.t (.bl (numT t)))
theorem ln__law_whole : ∀ ts Q, C__law_whole ts Q → ts.length = ["_law_found"].length := by rintro ts Q ⟨_, rfl, _⟩; rfl
def rd__law_whole : DSt :=
  dRet (dAndV (dN fIsi (dCons (dVar 0) (dCons (dC (.raw (.ty "int"))) (dNil)))) (dNotV (dN fIsi (dCons (dVar 0) (dCons (dC (.raw (.ty "bool"))) (dNil))))))

theorem rp__law_whole : ∀ ts Q, C__law_whole ts Q → rd__law_whole ⟨FinP Q (.t .non), FinP Q, fun _ => False, fun _ => False⟩ ⟨ts.map (fun t => some (W.t t)) ++ List.replicate (1 - ts.length) none, []⟩ := rp_is_number
/-! the law's tuples -/
inductive Ln (many : Int) : T → Prop
  | row (n : Int) (h : 0 ≤ n) : Ln many (.tup [.str (PySem.Str.ofString "row"), .int n])
  | ask (a b t : Int) (ha : 0 ≤ a) (hb : 0 ≤ b) (ht : 0 ≤ t) (htm : t < many) : Ln many (.tup [.str (PySem.Str.ofString "ask"), .int a, .int b, .int t])
  | jump (t : Int) (ht : 0 ≤ t) (htm : t < many) : Ln many (.tup [.str (PySem.Str.ofString "jump"), .int t])
  | call (a t z : Int) (ha : 0 ≤ a) (ht : 0 ≤ t) (htm : t < many) : Ln many (.tup [.str (PySem.Str.ofString "call"), .int a, .int t, .int z])
  | back : Ln many (.tup [.str (PySem.Str.ofString "back")])
  | count (n : Int) (h : 0 ≤ n) : Ln many (.tup [.str (PySem.Str.ofString "count"), .int n])
  | add (z : Int) : Ln many (.tup [.str (PySem.Str.ofString "add"), .int z])
  | tell (n z : Int) (h : 0 ≤ n) : Ln many (.tup [.str (PySem.Str.ofString "tell"), .int n, .int z])
theorem fmodR {a n : Int} (h : 0 < n) : 0 ≤ a.fmod n ∧ a.fmod n < n := ⟨Int.fmod_nonneg_of_pos a h, Int.fmod_lt_of_pos a h⟩
def C__law_line : PC := fun ts Q => ∃ n m : Int, ts = [.int n, .int m] ∧ 0 < m ∧ ∀ t, Ln m t → Q (.t t)
theorem ln__law_line : ∀ ts Q, C__law_line ts Q → ts.length = ["_law_number", "_law_many"].length := by rintro ts Q ⟨_, _, rfl, _⟩; rfl
def rd__law_line : DSt :=
  dSeq (dAsg (d2 (fI (fun _ j => j ≠ 0) fun i j => .int (i.fmod j)) (dVar 0) (dC (.int 11))) (dgN 2))
  (dSeq (dAsg (d2 (fI CDivN fun i j => .int (i.fdiv j)) (dVar 0) (dC (.int 11))) (dgN 3))
  (dSeq (dIfS (dB (d2 (fI0 fun i j => .bl (decide (i < j))) (dVar 2) (dC (.int 3)))) (dRet (dTup (dCons (dC (.str (PySem.Str.ofString "row"))) (dCons (d2 (fI (fun _ j => j ≠ 0) fun i j => .int (i.fmod j)) (dVar 3) (dC (.int 30))) (dNil))))) (dNext))
  (dSeq (dIfS (dB (d2 (fEq false) (dVar 2) (dC (.int 3)))) (dRet (dTup (dCons (dC (.str (PySem.Str.ofString "ask"))) (dCons (d2 (fI (fun _ j => j ≠ 0) fun i j => .int (i.fmod j)) (dVar 3) (dC (.int 30))) (dCons (d2 (fI (fun _ j => j ≠ 0) fun i j => .int (i.fmod j)) (d2 (fI CDivN fun i j => .int (i.fdiv j)) (dVar 3) (dC (.int 30))) (dC (.int 30))) (dCons (d2 (fI (fun _ j => j ≠ 0) fun i j => .int (i.fmod j)) (d2 (fI CDivN fun i j => .int (i.fdiv j)) (dVar 3) (dC (.int 90))) (dVar 1)) (dNil))))))) (dNext))
  (dSeq (dIfS (dB (d2 (fEq false) (dVar 2) (dC (.int 4)))) (dRet (dTup (dCons (dC (.str (PySem.Str.ofString "jump"))) (dCons (d2 (fI (fun _ j => j ≠ 0) fun i j => .int (i.fmod j)) (dVar 3) (dVar 1)) (dNil))))) (dNext))
  (dSeq (dIfS (dB (d2 (fEq false) (dVar 2) (dC (.int 5)))) (dRet (dTup (dCons (dC (.str (PySem.Str.ofString "call"))) (dCons (d2 (fI (fun _ j => j ≠ 0) fun i j => .int (i.fmod j)) (dVar 3) (dC (.int 30))) (dCons (d2 (fI (fun _ j => j ≠ 0) fun i j => .int (i.fmod j)) (d2 (fI CDivN fun i j => .int (i.fdiv j)) (dVar 3) (dC (.int 30))) (dVar 1)) (dCons (d2 (fI0 fun i j => .int (i - j)) (d2 (fI (fun _ j => j ≠ 0) fun i j => .int (i.fmod j)) (d2 (fI CDivN fun i j => .int (i.fdiv j)) (dVar 3) (dC (.int 90))) (dC (.int 9))) (dC (.int 4))) (dNil))))))) (dNext))
  (dSeq (dIfS (dB (d2 (fEq false) (dVar 2) (dC (.int 6)))) (dRet (dTup (dCons (dC (.str (PySem.Str.ofString "back"))) (dNil)))) (dNext))
  (dSeq (dIfS (dB (d2 (fI0 fun i j => .bl (decide (i < j))) (dVar 2) (dC (.int 9)))) (dRet (dTup (dCons (dC (.str (PySem.Str.ofString "count"))) (dCons (d2 (fI (fun _ j => j ≠ 0) fun i j => .int (i.fmod j)) (dVar 3) (dC (.int 5))) (dNil))))) (dNext))
  (dSeq (dIfS (dB (d2 (fEq false) (dVar 2) (dC (.int 9)))) (dRet (dTup (dCons (dC (.str (PySem.Str.ofString "add"))) (dCons (d2 (fI0 fun i j => .int (i - j)) (d2 (fI (fun _ j => j ≠ 0) fun i j => .int (i.fmod j)) (dVar 3) (dC (.int 41))) (dC (.int 20))) (dNil))))) (dNext))
  (dRet (dTup (dCons (dC (.str (PySem.Str.ofString "tell"))) (dCons (d2 (fI (fun _ j => j ≠ 0) fun i j => .int (i.fmod j)) (dVar 3) (dC (.int 4))) (dCons (d2 (fI0 fun i j => .int (i - j)) (d2 (fI (fun _ j => j ≠ 0) fun i j => .int (i.fmod j)) (d2 (fI CDivN fun i j => .int (i.fdiv j)) (dVar 3) (dC (.int 4))) (dC (.int 9))) (dC (.int 4))) (dNil))))))))))))))

theorem rp__law_line : ∀ ts Q, C__law_line ts Q → rd__law_line ⟨FinP Q (.t .non), FinP Q, fun _ => False, fun _ => False⟩ ⟨ts.map (fun t => some (W.t t)) ++ List.replicate (4 - ts.length) none, []⟩ := by
  rintro ts Q ⟨n, m, rfl, hm, hQ⟩
  have hm0 : m ≠ 0 := by omega
  unfold rd__law_line
  walk_at "dl"
  refine i_fI (by decide) ?_
  walk_at "dl"
  refine i_fI (by unfold CDivN; decide) ?_
  walk_at "dl"
  refine k_d (fun h => ?_) (fun h => ?_)
  · walk_at "dl"
    repeat (first | (refine i_fI (by decide) ?_; try walk_at "dl") | (refine i_fI (by unfold CDivN; decide) ?_; try walk_at "dl") | (refine i_fI hm0 ?_; try walk_at "dl") | (refine ⟨(by show _ ≤ sizeLine; decide), ?_⟩; try walk_at "dl"))
    exact hQ _ (.row _ (fmodR (by decide)).1)
  walk_at "dl"
  refine k_d (fun h => ?_) (fun h => ?_)
  · walk_at "dl"
    repeat (first | (refine i_fI (by decide) ?_; try walk_at "dl") | (refine i_fI (by unfold CDivN; decide) ?_; try walk_at "dl") | (refine i_fI hm0 ?_; try walk_at "dl") | (refine ⟨(by show _ ≤ sizeLine; decide), ?_⟩; try walk_at "dl"))
    exact hQ _ (.ask _ _ _ (fmodR (by decide)).1 (fmodR (by decide)).1 (fmodR hm).1 (fmodR hm).2)
  walk_at "dl"
  refine k_d (fun h => ?_) (fun h => ?_)
  · walk_at "dl"
    repeat (first | (refine i_fI (by decide) ?_; try walk_at "dl") | (refine i_fI (by unfold CDivN; decide) ?_; try walk_at "dl") | (refine i_fI hm0 ?_; try walk_at "dl") | (refine ⟨(by show _ ≤ sizeLine; decide), ?_⟩; try walk_at "dl"))
    exact hQ _ (.jump _ (fmodR hm).1 (fmodR hm).2)
  walk_at "dl"
  refine k_d (fun h => ?_) (fun h => ?_)
  · walk_at "dl"
    repeat (first | (refine i_fI (by decide) ?_; try walk_at "dl") | (refine i_fI (by unfold CDivN; decide) ?_; try walk_at "dl") | (refine i_fI hm0 ?_; try walk_at "dl") | (refine ⟨(by show _ ≤ sizeLine; decide), ?_⟩; try walk_at "dl"))
    exact hQ _ (.call _ _ _ (fmodR (by decide)).1 (fmodR hm).1 (fmodR hm).2)
  walk_at "dl"
  refine k_d (fun h => ?_) (fun h => ?_)
  · walk_at "dl"
    repeat (first | (refine ⟨(by show _ ≤ sizeLine; decide), ?_⟩; try walk_at "dl"))
    exact hQ _ .back
  walk_at "dl"
  refine k_d (fun h => ?_) (fun h => ?_)
  · walk_at "dl"
    repeat (first | (refine i_fI (by decide) ?_; try walk_at "dl") | (refine ⟨(by show _ ≤ sizeLine; decide), ?_⟩; try walk_at "dl"))
    exact hQ _ (.count _ (fmodR (by decide)).1)
  walk_at "dl"
  refine k_d (fun h => ?_) (fun h => ?_)
  · walk_at "dl"
    repeat (first | (refine i_fI (by decide) ?_; try walk_at "dl") | (refine ⟨(by show _ ≤ sizeLine; decide), ?_⟩; try walk_at "dl"))
    exact hQ _ (.add _)
  walk_at "dl"
  repeat (first | (refine i_fI (by decide) ?_; try walk_at "dl") | (refine i_fI (by unfold CDivN; decide) ?_; try walk_at "dl") | (refine ⟨(by show _ ≤ sizeLine; decide), ?_⟩; try walk_at "dl"))
  exact hQ _ (.tell _ _ (fmodR (by decide)).1)
/-! the law's tuples are such -/
theorem done_of {many : Int} {w mk : Str} {xs : List T} (cs : List Nat) (h1 : tblG tbl_SHAPES w = some mk) (h2 : mk.cps.toList = cs) (h3 : xs.length = cs.length) (h4 : (xs.zip cs).all (fun q => fitsT many ⟨#[q.2]⟩ q.1) = true) : doneT many (.tup (.str w :: xs)) = true := by
  have e : doneT many (.tup (.str w :: xs)) = match tblG tbl_SHAPES w with | some m => decide (xs.length = m.cps.size) && partsT many xs m | none => false := rfl
  rw [e, h1]
  show (decide (xs.length = mk.cps.size) && partsT many xs mk) = true
  unfold partsT
  rw [h2, h4, Bool.and_true]
  refine decide_eq_true ?_
  rw [h3, ← h2, Array.length_toList]
theorem fits_n {many i : Int} (h : 0 ≤ i) : fitsT many ⟨#[110]⟩ (.int i) = true := by
  show (if (⟨#[110]⟩ : Str) = sgT then decide (0 ≤ i) && decide (i < many) else decide ((⟨#[110]⟩ : Str) = sgZ) || decide (0 ≤ i)) = true
  rw [if_neg (by decide), decide_eq_true h, Bool.or_true]
theorem fits_t {many i : Int} (h : 0 ≤ i) (h2 : i < many) : fitsT many ⟨#[116]⟩ (.int i) = true := by
  show (if (⟨#[116]⟩ : Str) = sgT then decide (0 ≤ i) && decide (i < many) else decide ((⟨#[116]⟩ : Str) = sgZ) || decide (0 ≤ i)) = true
  rw [if_pos (by decide), decide_eq_true h, decide_eq_true h2]; rfl
theorem fits_z {many i : Int} : fitsT many ⟨#[122]⟩ (.int i) = true := by
  show (if (⟨#[122]⟩ : Str) = sgT then decide (0 ≤ i) && decide (i < many) else decide ((⟨#[122]⟩ : Str) = sgZ) || decide (0 ≤ i)) = true
  rw [if_neg (by decide), decide_eq_true (show (⟨#[122]⟩ : Str) = sgZ from rfl), Bool.true_or]
theorem Ln.done {m : Int} {t : T} (h : Ln m t) : doneT m t = true := by
  cases h with
  | row n h => exact done_of [110] (mk := PySem.Str.ofString "n") (by decide +kernel) (by decide +kernel) rfl (by simp [fits_n h])
  | ask a b t ha hb ht htm => exact done_of [110, 110, 116] (mk := PySem.Str.ofString "nnt") (by decide +kernel) (by decide +kernel) rfl (by simp [fits_n ha, fits_n hb, fits_t ht htm])
  | jump t ht htm => exact done_of [116] (mk := PySem.Str.ofString "t") (by decide +kernel) (by decide +kernel) rfl (by simp [fits_t ht htm])
  | call a t z ha ht htm => exact done_of [110, 116, 122] (mk := PySem.Str.ofString "ntz") (by decide +kernel) (by decide +kernel) rfl (by simp [fits_n ha, fits_t ht htm, fits_z])
  | back => exact done_of [] (mk := PySem.Str.ofString "") (by decide +kernel) (by decide +kernel) rfl rfl
  | count n h => exact done_of [110] (mk := PySem.Str.ofString "n") (by decide +kernel) (by decide +kernel) rfl (by simp [fits_n h])
  | add z => exact done_of [122] (mk := PySem.Str.ofString "z") (by decide +kernel) (by decide +kernel) rfl (by simp [fits_z])
  | tell n z h => exact done_of [110, 122] (mk := PySem.Str.ofString "nz") (by decide +kernel) (by decide +kernel) rfl (by simp [fits_n h, fits_z])
/-- a tuple of a text and whole numbers -/
theorem Ln.form {m : Int} {t : T} (h : Ln m t) : ∃ (w : Str) (is : List Int), t = .tup (.str w :: is.map T.int) ∧ is.length ≤ 3 ∧ PyData.strOk w = true := by
  cases h with
  | row n h => exact ⟨_, [n], rfl, by simp, by decide +kernel⟩
  | ask a b t ha hb ht htm => exact ⟨_, [a, b, t], rfl, by simp, by decide +kernel⟩
  | jump t ht htm => exact ⟨_, [t], rfl, by simp, by decide +kernel⟩
  | call a t z ha ht htm => exact ⟨_, [a, t, z], rfl, by simp, by decide +kernel⟩
  | back => exact ⟨_, [], rfl, by simp, by decide +kernel⟩
  | count n h => exact ⟨_, [n], rfl, by simp, by decide +kernel⟩
  | add z => exact ⟨_, [z], rfl, by simp, by decide +kernel⟩
  | tell n z h => exact ⟨_, [n, z], rfl, by simp, by decide +kernel⟩
theorem Ln.sh {m : Int} {t : T} (h : Ln m t) : t.sh 7 = true := by
  obtain ⟨w, is, rfl, _, hw⟩ := h.form
  show ((T.str w :: is.map T.int).all (T.sh 6)) = true
  rw [List.all_cons, List.all_map]
  refine Bool.and_eq_true_iff.mpr ⟨hw, List.all_eq_true.mpr fun i _ => rfl⟩
theorem Ln.lt {m : Int} {t : T} (h : Ln m t) : LT t := by
  obtain ⟨w, is, rfl, hl, hw⟩ := h.form
  refine .tup _ (fun x hx => ?_) (fun x hx => ?_) (by rw [List.length_cons, List.length_map]; omega)
  · rcases List.mem_cons.mp hx with rfl | hx
    · exact .str _
    · obtain ⟨i, _, rfl⟩ := List.mem_map.mp hx
      exact .int i
  · rcases List.mem_cons.mp hx with rfl | hx
    · exact hw
    · obtain ⟨i, _, rfl⟩ := List.mem_map.mp hx
      rfl
/-! the machine, plain -/
abbrev P3 := Int × Int × Int
abbrev tripT (q : P3) : T := .tup [.int q.1, .int q.2.1, .int q.2.2]
inductive Ins
  | row (n : Int) | ask (a b t : Int) | jump (t : Int) | call (a t z : Int) | back | count (n : Int) | add (z : Int) | tell (n z : Int)
def Ins.w : Ins → Str
  | .row _ => PySem.Str.ofString "row" | .ask _ _ _ => PySem.Str.ofString "ask" | .jump _ => PySem.Str.ofString "jump" | .call _ _ _ => PySem.Str.ofString "call"
  | .back => PySem.Str.ofString "back" | .count _ => PySem.Str.ofString "count" | .add _ => PySem.Str.ofString "add" | .tell _ _ => PySem.Str.ofString "tell"
def Ins.ns : Ins → List Int
  | .row n => [n] | .ask a b t => [a, b, t] | .jump t => [t] | .call a t z => [a, t, z] | .back => [] | .count n => [n] | .add z => [z] | .tell n z => [n, z]
def Ins.t (i : Ins) : T := .tup (.str i.w :: i.ns.map T.int)
def Ins.ok (many : Int) : Ins → Prop
  | .row n => 0 ≤ n | .ask a b t => 0 ≤ a ∧ 0 ≤ b ∧ 0 ≤ t ∧ t < many | .jump t => 0 ≤ t ∧ t < many | .call a t _ => 0 ≤ a ∧ 0 ≤ t ∧ t < many
  | .back => True | .count n => 0 ≤ n | .add _ => True | .tell n _ => 0 ≤ n
def Ins.rowy : Ins → Bool | .row _ => true | .ask _ _ _ => true | .call _ _ _ => true | _ => false
def Ins.isAsk : Ins → Bool | .ask _ _ _ => true | _ => false
def Ins.isBack : Ins → Bool | .back => true | _ => false
theorem Ln.ins {many : Int} {t : T} (h : Ln many t) : ∃ i : Ins, t = i.t ∧ i.ok many := by
  cases h with
  | row n h => exact ⟨.row n, rfl, h⟩
  | ask a b t ha hb ht htm => exact ⟨.ask a b t, rfl, ha, hb, ht, htm⟩
  | jump t ht htm => exact ⟨.jump t, rfl, ht, htm⟩
  | call a t z ha ht htm => exact ⟨.call a t z, rfl, ha, ht, htm⟩
  | back => exact ⟨.back, rfl, trivial⟩
  | count n h => exact ⟨.count n, rfl, h⟩
  | add z => exact ⟨.add z, rfl, trivial⟩
  | tell n z h => exact ⟨.tell n z, rfl, h⟩
theorem Ins.ln {many : Int} {i : Ins} (h : i.ok many) : Ln many i.t := by
  cases i with
  | row n => exact .row n h
  | ask a b t => exact .ask a b t h.1 h.2.1 h.2.2.1 h.2.2.2
  | jump t => exact .jump t h.1 h.2
  | call a t z => exact .call a t z h.1 h.2.1 h.2.2
  | back => exact .back
  | count n => exact .count n h
  | add z => exact .add z
  | tell n z => exact .tell n z h
structure MS where
  at_ : Int
  fr : List P3
  bx : List (Int × Int)
  tl : List P3
  ch : Int
  rw_ : List Int
  us : Int
  idle : Int
def MS.t (s : MS) : T := .tup [.int s.at_, .lst (s.fr.map tripT), .lst (s.bx.map pairT), .lst (s.tl.map tripT), .int s.ch, .lst (s.rw_.map T.int), .int s.us, .int s.idle]
def s0 : MS := ⟨0, [(-1, 0, 0)], [], [], 0, [], 0, 0⟩
inductive Wd | astray | bound | wanting | ended
def Wd.s : Wd → Str
  | .astray => PySem.Str.ofString "astray" | .bound => PySem.Str.ofString "bound" | .wanting => PySem.Str.ofString "wanting" | .ended => PySem.Str.ofString "ended"
/-- where it stands still -/
def stM (cs : List Ins) (s : MS) (ans : List Int) (bd : Int) : Option Wd :=
  match cs[s.at_.toNat]? with
  | none => some .astray
  | some i => if 1000 ≤ s.idle then some .astray else if i.rowy = true ∧ bd ≤ (s.rw_.length : Int) then some .bound else if i.isAsk = true ∧ (ans.length : Int) ≤ s.us then some .wanting
    else if i.isBack = true ∧ s.fr.length = 1 then some .ended else none
/-- one more in a box -/
def incB (k : Int) : List (Int × Int) → List (Int × Int)
  | [] => [(k, 1)]
  | (a, n) :: r => if k < a then (k, 1) :: (a, n) :: r else if k = a then (a, n + 1) :: r else (a, n) :: incB k r
def BxOk (l : List (Int × Int)) : Prop := l.Pairwise fun x y => x.1 < y.1
def setL (l : List P3) (x : P3) : List P3 := l.dropLast ++ [x]
/-- the state behind a tuple, where it doesn't stand still -/
def nxM (cs : List Ins) (s : MS) (ans : List Int) : MS :=
  match cs[s.at_.toNat]?, s.fr.getLast? with
  | some (.row n), _ => { s with at_ := s.at_ + 1, rw_ := s.rw_ ++ [n], idle := 0 }
  | some (.ask a b t), _ => if ans[s.us.toNat]? = some 1 then { s with at_ := s.at_ + 1, rw_ := s.rw_ ++ [a], us := s.us + 1, idle := 0 } else { s with at_ := t, rw_ := s.rw_ ++ [b], us := s.us + 1, idle := 0 }
  | some (.call a t z), _ => { s with at_ := t, fr := s.fr ++ [(s.at_ + 1, 0, s.ch)], ch := s.ch + z, rw_ := s.rw_ ++ [a], idle := 0 }
  | some (.jump t), _ => { s with at_ := t, idle := s.idle + 1 }
  | some (.count n), _ => { s with at_ := s.at_ + 1, bx := incB n s.bx, idle := s.idle + 1 }
  | some (.add z), some (l, m, k) => { s with at_ := s.at_ + 1, fr := setL s.fr (l, m + z, k), idle := s.idle + 1 }
  | some (.tell n z), some (l, m, k) => { s with at_ := s.at_ + 1, tl := s.tl ++ [(n, s.ch, m)], fr := setL s.fr (l, z, k), idle := s.idle + 1 }
  | some .back, some (l, _, k) => { s with at_ := l, fr := s.fr.dropLast, ch := k, idle := s.idle + 1 }
  | _, _ => s
/-- what stays true of a state -/
structure MS.Ok (s : MS) : Prop where
  a0 : 0 ≤ s.at_
  fne : s.fr ≠ []
  fr : ∀ x ∈ s.fr.drop 1, 0 ≤ x.1
  u0 : 0 ≤ s.us
  bx : BxOk s.bx
  i0 : 0 ≤ s.idle
  i1 : s.idle ≤ 1000
  lf : s.fr.length ≤ 1 + s.rw_.length
  lb : (s.bx.length : Int) ≤ 1000 * s.rw_.length + s.idle
  lt : (s.tl.length : Int) ≤ 1000 * s.rw_.length + s.idle
theorem s0_ok : s0.Ok := ⟨by decide, by decide, (by intro x hx; cases hx), by decide, List.Pairwise.nil, by decide, by decide, by decide, by decide, by decide⟩
theorem incB_keys {k : Int} : ∀ {l : List (Int × Int)} {x : Int × Int}, x ∈ incB k l → x.1 = k ∨ ∃ y ∈ l, y.1 = x.1
  | [], x, h => by
    rw [incB, List.mem_singleton] at h
    subst h
    exact .inl rfl
  | (a, n) :: r, x, h => by
    rw [incB] at h
    by_cases h1 : k < a
    · rw [if_pos h1] at h
      rcases List.mem_cons.mp h with rfl | h
      · exact .inl rfl
      · exact .inr ⟨x, h, rfl⟩
    · rw [if_neg h1] at h
      by_cases h2 : k = a
      · rw [if_pos h2] at h
        rcases List.mem_cons.mp h with rfl | h
        · exact .inl h2.symm
        · exact .inr ⟨x, List.mem_cons_of_mem _ h, rfl⟩
      · rw [if_neg h2] at h
        rcases List.mem_cons.mp h with rfl | h
        · exact .inr ⟨_, List.mem_cons_self, rfl⟩
        · rcases incB_keys h with e | ⟨y, hy, e⟩
          · exact .inl e
          · exact .inr ⟨y, List.mem_cons_of_mem _ hy, e⟩
theorem incB_ok {k : Int} : ∀ {l : List (Int × Int)}, BxOk l → BxOk (incB k l)
  | [], _ => List.pairwise_singleton _ _
  | (a, n) :: r, h => by
    obtain ⟨h1, h2⟩ := List.pairwise_cons.mp h
    rw [incB]
    by_cases h3 : k < a
    · rw [if_pos h3]
      refine List.pairwise_cons.mpr ⟨fun y hy => ?_, h⟩
      rcases List.mem_cons.mp hy with rfl | hy
      · exact h3
      · have := h1 y hy
        show k < y.1
        have h4 : a < y.1 := this
        omega
    · rw [if_neg h3]
      by_cases h4 : k = a
      · rw [if_pos h4]
        exact List.pairwise_cons.mpr ⟨h1, h2⟩
      · rw [if_neg h4]
        refine List.pairwise_cons.mpr ⟨fun y hy => ?_, incB_ok h2⟩
        rcases incB_keys hy with e | ⟨z, hz, e⟩
        · show a < y.1
          omega
        · have h5 : a < z.1 := h1 z hz
          show a < y.1
          omega
theorem incB_len {k : Int} : ∀ {l : List (Int × Int)}, (incB k l).length ≤ l.length + 1
  | [] => Nat.le_refl _
  | (a, n) :: r => by
    rw [incB]
    split
    · simp
    · split
      · simp
      · simp only [List.length_cons]
        have := incB_len (k := k) (l := r)
        omega
theorem setL_len {l : List P3} {x : P3} (h : l ≠ []) : (setL l x).length = l.length := by
  unfold setL
  rw [List.length_append, List.length_dropLast, List.length_singleton]
  have : 0 < l.length := List.length_pos_iff.mpr h
  omega
theorem drop1_dropLast {l : List P3} {x : P3} (h : x ∈ l.dropLast.drop 1) : x ∈ l.drop 1 := by
  cases l with
  | nil => simp at h
  | cons a l =>
    cases l with
    | nil => simp at h
    | cons b l =>
      rw [List.dropLast_cons_cons] at h
      simp only [List.drop_succ_cons, List.drop_zero] at h ⊢
      exact (List.dropLast_sublist _).mem h
theorem last_drop1 {l : List P3} {x : P3} (h : l.getLast? = some x) (h2 : l.length ≠ 1) : x ∈ l.drop 1 := by
  cases l with
  | nil => cases h
  | cons a l =>
    cases l with
    | nil => exact absurd rfl h2
    | cons b l =>
      rw [List.getLast?_cons_cons] at h
      exact List.mem_of_getLast? h
theorem setL_drop1 {l : List P3} {x y : P3} (h : l.getLast? = some x) (hx : y.1 = x.1) (hf : ∀ z ∈ l.drop 1, 0 ≤ z.1) : ∀ z ∈ (setL l y).drop 1, 0 ≤ z.1 := by
  intro z hz
  unfold setL at hz
  by_cases h1 : l.length = 1
  · have : l.dropLast = [] := by
      apply List.length_eq_zero_iff.mp
      rw [List.length_dropLast, h1]
    rw [this] at hz
    cases hz
  · rw [List.drop_append_of_le_length (by
      have : l ≠ [] := fun e => by rw [e] at h; cases h
      have := List.length_pos_iff.mpr this
      rw [List.length_dropLast]; omega)] at hz
    rcases List.mem_append.mp hz with hz | hz
    · exact hf z (drop1_dropLast hz)
    · rw [List.mem_singleton] at hz
      subst hz
      rw [hx]
      exact hf x (last_drop1 h h1)
/-- a state behind an Ok one is Ok -/
theorem nxM_ok {cs : List Ins} {s : MS} {ans : List Int} {bd : Int} (hc : ∀ i ∈ cs, i.ok cs.length) (h : s.Ok) (hs : stM cs s ans bd = none) : (nxM cs s ans).Ok := by
  obtain ⟨x, hx⟩ : ∃ x, s.fr.getLast? = some x := by
    cases e : s.fr.getLast? with
    | none => exact absurd (List.getLast?_eq_none_iff.mp e) h.fne
    | some x => exact ⟨x, rfl⟩
  obtain ⟨l, m, k⟩ := x
  unfold stM at hs
  unfold nxM
  cases hi : cs[s.at_.toNat]? with
  | none => rw [hi] at hs; cases hs
  | some i =>
    rw [hi] at hs
    dsimp only at hs
    have hik := hc i (List.mem_of_getElem? hi)
    by_cases h1 : 1000 ≤ s.idle
    · rw [if_pos h1] at hs; cases hs
    rw [if_neg h1] at hs
    by_cases h2 : i.rowy = true ∧ bd ≤ (s.rw_.length : Int)
    · rw [if_pos h2] at hs; cases hs
    rw [if_neg h2] at hs
    by_cases h3 : i.isAsk = true ∧ (ans.length : Int) ≤ s.us
    · rw [if_pos h3] at hs; cases hs
    rw [if_neg h3] at hs
    by_cases h4 : i.isBack = true ∧ s.fr.length = 1
    · rw [if_pos h4] at hs; cases hs
    have a0 := h.a0
    have u0 := h.u0
    have i0 := h.i0
    have i1 := h.i1
    have lf := h.lf
    have lb := h.lb
    have lt := h.lt
    cases i with
    | row n =>
      refine ⟨by show 0 ≤ s.at_ + 1; omega, h.fne, h.fr, u0, h.bx, (by show (0 : Int) ≤ 0; decide), (by show (0 : Int) ≤ 1000; decide), ?_, ?_, ?_⟩ <;> (simp only [List.length_append, List.length_singleton]; omega)
    | ask a b t =>
      dsimp only
      by_cases h5 : ans[s.us.toNat]? = some 1
      · rw [if_pos h5]
        refine ⟨by show 0 ≤ s.at_ + 1; omega, h.fne, h.fr, by show 0 ≤ s.us + 1; omega, h.bx, (by show (0 : Int) ≤ 0; decide), (by show (0 : Int) ≤ 1000; decide), ?_, ?_, ?_⟩ <;> (simp only [List.length_append, List.length_singleton]; omega)
      · rw [if_neg h5]
        refine ⟨hik.2.2.1, h.fne, h.fr, by show 0 ≤ s.us + 1; omega, h.bx, (by show (0 : Int) ≤ 0; decide), (by show (0 : Int) ≤ 1000; decide), ?_, ?_, ?_⟩ <;> (simp only [List.length_append, List.length_singleton]; omega)
    | call a t z =>
      refine ⟨hik.2.1, by simp, fun y hy => ?_, u0, h.bx, (by show (0 : Int) ≤ 0; decide), (by show (0 : Int) ≤ 1000; decide), ?_, ?_, ?_⟩
      · rw [List.drop_append_of_le_length (List.length_pos_iff.mpr h.fne)] at hy
        rcases List.mem_append.mp hy with hy | hy
        · exact h.fr y hy
        · rw [List.mem_singleton] at hy
          subst hy
          show 0 ≤ s.at_ + 1
          omega
      all_goals (simp only [List.length_append, List.length_singleton]; omega)
    | jump t =>
      refine ⟨hik.1, h.fne, h.fr, u0, h.bx, by show 0 ≤ s.idle + 1; omega, by show s.idle + 1 ≤ 1000; omega, lf, ?_, ?_⟩ <;> (dsimp only; omega)
    | count n =>
      refine ⟨by show 0 ≤ s.at_ + 1; omega, h.fne, h.fr, u0, incB_ok h.bx, by show 0 ≤ s.idle + 1; omega, by show s.idle + 1 ≤ 1000; omega, lf, ?_, ?_⟩
      · have := incB_len (k := n) (l := s.bx)
        dsimp only
        omega
      · dsimp only
        omega
    | add z =>
      rw [hx]
      refine ⟨by show 0 ≤ s.at_ + 1; omega, by unfold setL; simp, setL_drop1 hx rfl h.fr, u0, h.bx, by show 0 ≤ s.idle + 1; omega, by show s.idle + 1 ≤ 1000; omega, ?_, ?_, ?_⟩
      · show (setL s.fr _).length ≤ _
        rw [setL_len h.fne]
        exact lf
      all_goals (dsimp only; omega)
    | tell n z =>
      rw [hx]
      refine ⟨by show 0 ≤ s.at_ + 1; omega, by unfold setL; simp, setL_drop1 hx rfl h.fr, u0, h.bx, by show 0 ≤ s.idle + 1; omega, by show s.idle + 1 ≤ 1000; omega, ?_, ?_, ?_⟩
      · show (setL s.fr _).length ≤ _
        rw [setL_len h.fne]
        exact lf
      · dsimp only; omega
      · simp only [List.length_append, List.length_singleton]; omega
    | back =>
      rw [hx]
      have h5 : s.fr.length ≠ 1 := fun e => h4 ⟨rfl, e⟩
      have h6 := List.length_pos_iff.mpr h.fne
      refine ⟨h.fr _ (last_drop1 hx h5), ?_, fun y hy => h.fr y (drop1_dropLast hy), u0, h.bx, by show 0 ≤ s.idle + 1; omega, by show s.idle + 1 ≤ 1000; omega, ?_, ?_, ?_⟩
      · intro e
        have := congrArg List.length e
        rw [List.length_dropLast, List.length_nil] at this
        omega
      · show s.fr.dropLast.length ≤ 1 + s.rw_.length
        rw [List.length_dropLast]
        omega
      all_goals (dsimp only; omega)
/-- steps till it stands still -/
inductive Runs (cs : List Ins) (ans : List Int) (bd : Int) : MS → Wd → MS → Prop
  | stop {s : MS} {w : Wd} (h : stM cs s ans bd = some w) : Runs cs ans bd s w s
  | go {s s' : MS} {w : Wd} (h : stM cs s ans bd = none) (r : Runs cs ans bd (nxM cs s ans) w s') : Runs cs ans bd s w s'
/-! sorted pairs are told by what they hold -/
theorem lex_anti {x y : Int × Int} (h1 : SrtO.lexB y x = false) (h2 : SrtO.lexB x y = false) : x = y := by
  have a := SrtO.lexB_no.mp h1
  have b := SrtO.lexB_no.mp h2
  apply Prod.ext <;> omega
theorem srt_uniq {l m : List (Int × Int)} (p : l.Perm m) (hl : l.Pairwise fun x y => SrtO.lexB y x = false) (hm : m.Pairwise fun x y => SrtO.lexB y x = false) : l = m :=
  List.Perm.eq_of_pairwise (le := fun x y => SrtO.lexB y x = false) (fun x y _ _ h1 h2 => lex_anti h1 h2) hl hm p
theorem BxOk.srt {l : List (Int × Int)} (h : BxOk l) : l.Pairwise fun x y => SrtO.lexB y x = false :=
  List.Pairwise.imp (S := fun x y => SrtO.lexB y x = false) (fun {x y : Int × Int} (hxy : x.1 < y.1) => SrtO.lexB_no.mpr (by omega)) (show l.Pairwise (fun x y => x.1 < y.1) from h)
/-- put into the pairs of a dict -/
def putB (k v : Int) : List (Int × Int) → List (Int × Int)
  | [] => [(k, v)]
  | (a, n) :: r => if a = k then (a, v) :: r else (a, n) :: putB k v r
def getB (k : Int) (l : List (Int × Int)) : Int := ((l.find? fun q => q.1 == k).map (·.2)).getD 0
theorem getB_cons {k a n : Int} {r : List (Int × Int)} : getB k ((a, n) :: r) = if a = k then n else getB k r := by
  unfold getB
  rw [List.find?_cons]
  by_cases h : a = k
  · rw [if_pos h, show ((a, n).1 == k) = true by simpa using h]; rfl
  · rw [if_neg h, show ((a, n).1 == k) = false by simpa using h]
theorem getB_no {k : Int} : ∀ {l : List (Int × Int)}, (∀ x ∈ l, x.1 ≠ k) → getB k l = 0
  | [], _ => rfl
  | (a, n) :: r, h => by
    rw [getB_cons, if_neg (h _ List.mem_cons_self)]
    exact getB_no fun x hx => h x (List.mem_cons_of_mem _ hx)
theorem putB_no {k v : Int} : ∀ {l : List (Int × Int)}, (∀ x ∈ l, x.1 ≠ k) → putB k v l = l ++ [(k, v)]
  | [], _ => rfl
  | (a, n) :: r, h => by
    rw [putB, if_neg (h _ List.mem_cons_self), putB_no fun x hx => h x (List.mem_cons_of_mem _ hx)]
    rfl
theorem incB_perm {k : Int} : ∀ {l : List (Int × Int)}, BxOk l → (incB k l).Perm (putB k (getB k l + 1) l)
  | [], _ => List.Perm.refl _
  | (a, n) :: r, h => by
    obtain ⟨h1, h2⟩ := List.pairwise_cons.mp h
    rw [incB]
    by_cases h3 : k < a
    · rw [if_pos h3]
      have hne : ∀ x ∈ (a, n) :: r, x.1 ≠ k := fun x hx => by
        rcases List.mem_cons.mp hx with rfl | hx
        · show a ≠ k; omega
        · have : a < x.1 := h1 x hx
          omega
      rw [getB_no hne, putB_no hne]
      exact (List.perm_append_singleton _ _).symm
    · rw [if_neg h3]
      by_cases h4 : k = a
      · subst h4
        rw [if_pos rfl, getB_cons, if_pos rfl, putB, if_pos rfl]
      · rw [if_neg h4, getB_cons, if_neg (fun e => h4 e.symm), putB, if_neg (fun e => h4 e.symm)]
        exact (incB_perm h2).cons _
/-! one more in a box -/
theorem look_B {k : Int} : ∀ {l : List (Int × Int)}, (∃ x ∈ l, x.1 = k) → look (l.map fun q => (Sum.inl q.1 : Key)) (l.map fun q => T.int q.2) (Sum.inl k) = some (.int (getB k l))
  | [], h => by obtain ⟨_, h, _⟩ := h; cases h
  | (a, n) :: r, h => by
    show (if (Sum.inl a : Key) = Sum.inl k then some (T.int n) else look _ _ _) = _
    rw [getB_cons]
    by_cases e : a = k
    · rw [if_pos (by rw [e]), if_pos e]
    · rw [if_neg (fun z => e (Sum.inl.inj z)), if_neg e]
      refine look_B ?_
      obtain ⟨x, hx, hk⟩ := h
      rcases List.mem_cons.mp hx with rfl | hx
      · exact absurd hk e
      · exact ⟨x, hx, hk⟩
theorem look_BN {k : Int} : ∀ {l : List (Int × Int)}, (∀ x ∈ l, x.1 ≠ k) → look (l.map fun q => (Sum.inl q.1 : Key)) (l.map fun q => T.int q.2) (Sum.inl k) = none
  | [], h => rfl
  | (a, n) :: r, h => by
    show (if (Sum.inl a : Key) = Sum.inl k then some (T.int n) else look _ _ _) = _
    rw [if_neg (fun z => h _ List.mem_cons_self (Sum.inl.inj z))]
    exact look_BN fun x hx => h x (List.mem_cons_of_mem _ hx)
theorem hasK_B {k : Int} {l : List (Int × Int)} : hasK (l.map fun q => (Sum.inl q.1 : Key)) (Sum.inl k) = true ↔ ∃ x ∈ l, x.1 = k := by
  unfold hasK
  rw [List.any_map, List.any_eq_true]
  constructor
  · rintro ⟨x, hx, h⟩
    exact ⟨x, hx, Sum.inl.inj (of_decide_eq_true h)⟩
  · rintro ⟨x, hx, h⟩
    exact ⟨x, hx, decide_eq_true (congrArg Sum.inl h)⟩
theorem putB_fst {k v : Int} : ∀ {l : List (Int × Int)}, (∃ x ∈ l, x.1 = k) → (putB k v l).map (fun q => (Sum.inl q.1 : Key)) = l.map fun q => (Sum.inl q.1 : Key)
  | [], h => by obtain ⟨_, h, _⟩ := h; cases h
  | (a, n) :: r, h => by
    rw [putB]
    by_cases e : a = k
    · rw [if_pos e]; rfl
    · rw [if_neg e, List.map_cons, List.map_cons, putB_fst]
      obtain ⟨x, hx, hk⟩ := h
      rcases List.mem_cons.mp hx with rfl | hx
      · exact absurd hk e
      · exact ⟨x, hx, hk⟩
/-- in a dict whose keys are apart -/
theorem putAll_B {k v : Int} : ∀ {l : List (Int × Int)}, (l.map (·.1)).Nodup → putAll (Sum.inl k : Key) (T.int v) (l.map fun q => (Sum.inl q.1 : Key)) (l.map fun q => T.int q.2) = (if ∃ x ∈ l, x.1 = k then putB k v l else l).map fun q => T.int q.2
  | [], _ => by rw [if_neg (by rintro ⟨_, h, _⟩; cases h)]; rfl
  | (a, n) :: r, h => by
    obtain ⟨h1, h2⟩ := List.nodup_cons.mp h
    show (if (Sum.inl a : Key) = Sum.inl k then T.int v else T.int n) :: putAll _ _ _ _ = _
    rw [putAll_B h2]
    by_cases e : a = k
    · have i1 : ¬ ∃ x ∈ r, x.1 = k := by
        rintro ⟨x, hx, hk⟩
        exact h1 (by show a ∈ _; rw [e, ← hk]; exact List.mem_map.mpr ⟨x, hx, rfl⟩)
      have i2 : ∃ x ∈ (a, n) :: r, x.1 = k := ⟨(a, n), List.mem_cons_self, e⟩
      rw [if_pos (by rw [e]), if_neg i1, if_pos i2, putB, if_pos e]
      rfl
    · rw [if_neg (fun z => e (Sum.inl.inj z))]
      by_cases e2 : ∃ x ∈ r, x.1 = k
      · obtain ⟨x, hx, hk⟩ := e2
        have i1 : ∃ x ∈ r, x.1 = k := ⟨x, hx, hk⟩
        have i2 : ∃ x ∈ (a, n) :: r, x.1 = k := ⟨x, List.mem_cons_of_mem _ hx, hk⟩
        rw [if_pos i1, if_pos i2, putB, if_neg e]
        rfl
      · have i2 : ¬ ∃ x ∈ (a, n) :: r, x.1 = k := by
          rintro ⟨x, hx, hk⟩
          rcases List.mem_cons.mp hx with rfl | hx
          · exact e hk
          · exact e2 ⟨x, hx, hk⟩
        rw [if_neg e2, if_neg i2]
        rfl
theorem put_BK {k v : Int} {l : List (Int × Int)} : putKs (l.map fun q => (Sum.inl q.1 : Key)) (Sum.inl k) = (putB k v l).map fun q => (Sum.inl q.1 : Key) := by
  unfold putKs
  by_cases h : ∃ x ∈ l, x.1 = k
  · rw [if_pos (hasK_B.mpr h), putB_fst h]
  · rw [if_neg (fun e => h (hasK_B.mp e)), putB_no (fun x hx e => h ⟨x, hx, e⟩), List.map_append]
    rfl
theorem put_BX {k v : Int} {l : List (Int × Int)} (nd : (l.map (·.1)).Nodup) : putXs (l.map fun q => (Sum.inl q.1 : Key)) (l.map fun q => T.int q.2) (Sum.inl k) (.int v) = (putB k v l).map fun q => T.int q.2 := by
  unfold putXs
  by_cases h : ∃ x ∈ l, x.1 = k
  · rw [if_pos (hasK_B.mpr h), putAll_B nd, if_pos h]
  · rw [if_neg (fun e => h (hasK_B.mp e)), putB_no (fun x hx e => h ⟨x, hx, e⟩), List.map_append]
    rfl
theorem BxOk.nd {l : List (Int × Int)} (h : BxOk l) : (l.map (·.1)).Nodup :=
  List.pairwise_map.mpr (List.Pairwise.imp (S := fun x y : Int × Int => x.1 ≠ y.1) (fun {x y : Int × Int} (hxy : x.1 < y.1) => by omega) (show l.Pairwise (fun x y => x.1 < y.1) from h))
def C_one_more : PC := fun ts Q => ∃ (l : List (Int × Int)) (k : Int), ts = [.lst (l.map pairT), .int k] ∧ BxOk l ∧ l.length < sizeLine ∧ Q (.t (.lst ((incB k l).map pairT)))
theorem ln_one_more : ∀ ts Q, C_one_more ts Q → ts.length = ["boxes", "box"].length := by rintro ts Q ⟨_, _, rfl, _⟩; rfl
def rd_one_more : DSt :=
  dSeq (dAsg (dN fDictP (dCons (dVar 0) (dNil))) (dgN 2))
  (dSeq (dDput (dVar 2) (dVar 1) (d2 fAdd (dGetD (dVar 2) (dVar 1) (dC (.int 0))) (dC (.int 1))))
  (dRet (dSortIt (dVar 2))))

theorem rp_one_more : ∀ ts Q, C_one_more ts Q → rd_one_more ⟨FinP Q (.t .non), FinP Q, fun _ => False, fun _ => False⟩ ⟨ts.map (fun t => some (W.t t)) ++ List.replicate (3 - ts.length) none, []⟩ := by
  rintro ts Q ⟨l, k, rfl, hb, hl, hQ⟩
  unfold rd_one_more
  walk_at "dl"
  refine i_dictP (ps := l) rfl hb.nd ?_
  walk_at "dl"
  have hfin : ∀ out : List (Int × Int), out.Perm (putB k (getB k l + 1) l) → out.Pairwise (fun x y => SrtO.lexB y x = false) → Q (.t (.lst (out.map pairT))) := fun out hp hs => by
    rw [srt_uniq (hp.trans (incB_perm hb).symm) hs (incB_ok hb).srt]
    exact hQ
  refine ⟨rfl, ?_⟩
  walk_at "dl"
  by_cases h : ∃ x ∈ l, x.1 = k
  · refine o_getS (k := Sum.inl k) rfl rfl (look_B h) ?_
    walk_at "dl"
    refine o_dput (k := Sum.inl k) rfl rfl (by rw [List.length_map]; exact hl) ?_
    rw [put_BK (v := getB k l + 1), put_BX hb.nd]
    walk_at "dl"
    refine i_sortIt ?_
    walk_at "dl"
    exact ⟨_, rfl, ⟨_, rfl⟩, hfin⟩
  · have hn : ∀ x ∈ l, x.1 ≠ k := fun x hx e => h ⟨x, hx, e⟩
    refine o_getN (k := Sum.inl k) rfl rfl (look_BN hn) ?_
    walk_at "dl"
    refine o_dput (k := Sum.inl k) rfl rfl (by rw [List.length_map]; exact hl) ?_
    rw [put_BK (v := 0 + 1), put_BX hb.nd]
    walk_at "dl"
    refine i_sortIt ?_
    walk_at "dl"
    rw [getB_no hn] at hfin
    exact ⟨_, rfl, ⟨_, rfl⟩, hfin⟩
/-! where it stands still -/
def codeT (cs : List Ins) : T := .lst (cs.map Ins.t)
def wT : Option Wd → T | some w => .str w.s | none => .non
theorem rowyW (i : Ins) : inT (.str i.w) [.str (PySem.Str.ofString "row"), .str (PySem.Str.ofString "ask"), .str (PySem.Str.ofString "call")] = i.rowy := by
  cases i <;> (simp only [Ins.w, Ins.rowy]; decide +kernel)
theorem askW (i : Ins) : decide (i.w = PySem.Str.ofString "ask") = i.isAsk := by cases i <;> first | exact decide_eq_true rfl | (refine decide_eq_false ?_; simp only [Ins.w]; decide +kernel)
theorem backW (i : Ins) : decide (i.w = PySem.Str.ofString "back") = i.isBack := by cases i <;> first | exact decide_eq_true rfl | (refine decide_eq_false ?_; simp only [Ins.w]; decide +kernel)
theorem at_nat {s : MS} (h : 0 ≤ s.at_) : ∃ n : Nat, s.at_ = (n : Int) := ⟨s.at_.toNat, (Int.toNat_of_nonneg h).symm⟩
def C_stands : PC := fun ts Q => ∃ (cs : List Ins) (s : MS) (as : List Int) (bd : Int), ts = [codeT cs, s.t, .lst (as.map T.int), .int bd] ∧ s.Ok ∧ Q (.t (wT (stM cs s as bd)))
theorem ln_stands : ∀ ts Q, C_stands ts Q → ts.length = ["code", "state", "answers", "bound"].length := by rintro ts Q ⟨_, _, _, _, rfl, _⟩; rfl
def rd_stands : DSt :=
  dSeq (dAsg (dVar 1) (dgTup 8 (dgCons (dgN 4) (dgCons (dgN 5) (dgCons (dgN 6) (dgCons (dgN 7) (dgCons (dgN 8) (dgCons (dgN 9) (dgCons (dgN 10) (dgCons (dgN 11) (dgNil)))))))))))
  (dSeq (dIfS (dOr (dB (d2 (fI0 fun i j => .bl (decide (j ≤ i))) (dVar 4) (dN fLen (dCons (dVar 0) (dNil))))) (dB (d2 (fI0 fun i j => .bl (decide (j ≤ i))) (dVar 11) (dC (.int 1000))))) (dRet (dC (.str (PySem.Str.ofString "astray")))) (dNext))
  (dSeq (dAsg (d2 fIx (d2 fIx (dVar 0) (dVar 4)) (dC (.int 0))) (dgN 12))
  (dSeq (dIfS (dAnd (dB (d2 (fIn false) (dVar 12) (dLst (dCons (dC (.str (PySem.Str.ofString "row"))) (dCons (dC (.str (PySem.Str.ofString "ask"))) (dCons (dC (.str (PySem.Str.ofString "call"))) (dNil))))))) (dB (d2 (fI0 fun i j => .bl (decide (j ≤ i))) (dN fLen (dCons (dVar 9) (dNil))) (dVar 3)))) (dRet (dC (.str (PySem.Str.ofString "bound")))) (dNext))
  (dSeq (dIfS (dAnd (dB (d2 (fEq false) (dVar 12) (dC (.str (PySem.Str.ofString "ask"))))) (dB (d2 (fI0 fun i j => .bl (decide (j ≤ i))) (dVar 10) (dN fLen (dCons (dVar 2) (dNil)))))) (dRet (dC (.str (PySem.Str.ofString "wanting")))) (dNext))
  (dSeq (dIfS (dAnd (dB (d2 (fEq false) (dVar 12) (dC (.str (PySem.Str.ofString "back"))))) (dB (d2 (fEq false) (dN fLen (dCons (dVar 5) (dNil))) (dC (.int 1))))) (dRet (dC (.str (PySem.Str.ofString "ended")))) (dNext))
  (dRet (dC .non)))))))

theorem rp_stands : ∀ ts Q, C_stands ts Q → rd_stands ⟨FinP Q (.t .non), FinP Q, fun _ => False, fun _ => False⟩ ⟨ts.map (fun t => some (W.t t)) ++ List.replicate (13 - ts.length) none, []⟩ := by
  rintro ts Q ⟨cs, ⟨at_, fr, bx, tl, ch, rw_, us, idle⟩, as, bd, rfl, ok, hQ⟩
  obtain ⟨n, hn⟩ := at_nat ok.a0
  dsimp only at hn
  subst hn
  unfold rd_stands
  unfold codeT MS.t
  unfold stM at hQ
  dsimp only at hQ
  rw [Int.toNat_natCast] at hQ
  walk_at "dl"
  refine k_d (fun h => ?_) (fun h => ?_)
  · walk_at "dl"
    rw [List.length_map] at h
    rw [List.getElem?_eq_none (by omega)] at hQ
    exact hQ
  rw [List.length_map] at h
  have hlt : n < cs.length := by omega
  rw [List.getElem?_eq_getElem hlt] at hQ
  dsimp only at hQ
  have hx : atI (cs.map Ins.t) (n : Int) = some cs[n].t := atI_nat (by rw [List.getElem?_map, List.getElem?_eq_getElem hlt]; rfl)
  generalize cs[n] = i at hQ hx
  have h0 : atI (T.str i.w :: i.ns.map T.int) 0 = some (.str i.w) := atI_nat (j := 0) rfl
  walk_at "dl"
  refine k_d (fun h1 => ?_) (fun h1 => ?_)
  · rw [if_pos h1] at hQ
    walk_at "dl"
    exact hQ
  rw [if_neg h1] at hQ
  walk_at "dl"
  refine ⟨by decide, ?_⟩
  refine i_in rfl rfl (fun t ht => ?_) ?_
  · rcases List.mem_cons.mp ht with rfl | ht
    · rfl
    rcases List.mem_cons.mp ht with rfl | ht
    · rfl
    rcases List.mem_cons.mp ht with rfl | ht
    · rfl
    · cases ht
  rw [rowyW]
  have rest : Q (.t (wT (if i.isAsk = true ∧ (as.length : Int) ≤ us then some .wanting else if i.isBack = true ∧ fr.length = 1 then some .ended else none))) →
      dSeq (dIfS (dAnd (dB (d2 (fEq false) (dVar 12) (dC (.str (PySem.Str.ofString "ask"))))) (dB (d2 (fI0 fun i j => .bl (decide (j ≤ i))) (dVar 10) (dN fLen (dCons (dVar 2) (dNil)))))) (dRet (dC (.str (PySem.Str.ofString "wanting")))) (dNext))
            (dSeq (dIfS (dAnd (dB (d2 (fEq false) (dVar 12) (dC (.str (PySem.Str.ofString "back"))))) (dB (d2 (fEq false) (dN fLen (dCons (dVar 5) (dNil))) (dC (.int 1))))) (dRet (dC (.str (PySem.Str.ofString "ended")))) (dNext))
            (dRet (dC .non))) ⟨FinP Q (.t .non), FinP Q, fun _ => False, fun _ => False⟩ ⟨[some (W.t (T.lst (List.map Ins.t cs))), some (W.t (T.tup [T.int (n : Int), T.lst (List.map tripT fr), T.lst (List.map pairT bx), T.lst (List.map tripT tl), T.int ch, T.lst (List.map T.int rw_), T.int us, T.int idle])),
            some (W.t (T.lst (List.map T.int as))), some (W.t (T.int bd)), some (W.t (T.int (n : Int))),
            some (W.t (T.lst (List.map tripT fr))), some (W.t (T.lst (List.map pairT bx))),
            some (W.t (T.lst (List.map tripT tl))), some (W.t (T.int ch)), some (W.t (T.lst (List.map T.int rw_))),
            some (W.t (T.int us)), some (W.t (T.int idle)), some (W.t (T.str i.w))], []⟩ := by
    intro hQ
    walk_at "dl"
    refine i_eqS ?_
    rw [askW]
    walk_at "dl"
    have rest2 : Q (.t (wT (if i.isBack = true ∧ fr.length = 1 then some .ended else none))) →
      dSeq (dIfS (dAnd (dB (d2 (fEq false) (dVar 12) (dC (.str (PySem.Str.ofString "back"))))) (dB (d2 (fEq false) (dN fLen (dCons (dVar 5) (dNil))) (dC (.int 1))))) (dRet (dC (.str (PySem.Str.ofString "ended")))) (dNext))
            (dRet (dC .non)) ⟨FinP Q (.t .non), FinP Q, fun _ => False, fun _ => False⟩ ⟨[some (W.t (T.lst (List.map Ins.t cs))), some (W.t (T.tup [T.int (n : Int), T.lst (List.map tripT fr), T.lst (List.map pairT bx), T.lst (List.map tripT tl), T.int ch, T.lst (List.map T.int rw_), T.int us, T.int idle])),
            some (W.t (T.lst (List.map T.int as))), some (W.t (T.int bd)), some (W.t (T.int (n : Int))),
            some (W.t (T.lst (List.map tripT fr))), some (W.t (T.lst (List.map pairT bx))),
            some (W.t (T.lst (List.map tripT tl))), some (W.t (T.int ch)), some (W.t (T.lst (List.map T.int rw_))),
            some (W.t (T.int us)), some (W.t (T.int idle)), some (W.t (T.str i.w))], []⟩ := by
      intro hQ
      walk_at "dl"
      refine i_eqS ?_
      rw [backW]
      walk_at "dl"
      cases hb : i.isBack with
      | false =>
        rw [hb, if_neg (fun z => Bool.false_ne_true z.1)] at hQ
        walk_at "dl"
        exact hQ
      | true =>
        rw [hb] at hQ
        walk_at "dl"
        refine k_d (fun h => ?_) (fun h => ?_)
        · rw [List.length_map] at h
          rw [if_pos ⟨rfl, by omega⟩] at hQ
          walk_at "dl"
          exact hQ
        · rw [List.length_map] at h
          rw [if_neg (fun z => h (by omega))] at hQ
          walk_at "dl"
          exact hQ
    cases ha : i.isAsk with
    | false =>
      rw [ha, if_neg (fun z => Bool.false_ne_true z.1)] at hQ
      walk_at "dl"
      exact rest2 hQ
    | true =>
      rw [ha] at hQ
      walk_at "dl"
      refine k_d (fun h => ?_) (fun h => ?_)
      · rw [List.length_map] at h
        rw [if_pos ⟨rfl, by omega⟩] at hQ
        walk_at "dl"
        exact hQ
      · rw [List.length_map] at h
        rw [if_neg (fun z => h (by omega))] at hQ
        walk_at "dl"
        exact rest2 hQ
  cases hr : i.rowy with
  | false =>
    rw [hr, if_neg (fun z => Bool.false_ne_true z.1)] at hQ
    walk_at "dl"
    exact rest hQ
  | true =>
    rw [hr] at hQ
    walk_at "dl"
    refine k_d (fun h => ?_) (fun h => ?_)
    · rw [List.length_map] at h
      rw [if_pos ⟨rfl, by omega⟩] at hQ
      walk_at "dl"
      exact hQ
    · rw [List.length_map] at h
      rw [if_neg (fun z => h (by omega))] at hQ
      walk_at "dl"
      exact rest hQ
/-! a tuple that goes through a row -/
local macro_rules | `(tactic| walk_at "sq") => `(tactic| (refine i_eqS ?_; (try walk_at "dl"); first | refine k_dT trivial ?_ | refine k_dT rfl ?_ | refine k_dF (by decide +kernel) ?_ | skip))
theorem szM {n : Nat} (h : Nat.ble n 100 = true) : n ≤ sizeLine := Nat.le_trans (Nat.le_of_ble_eq_true h) (by show 100 ≤ sizeLine; decide)
theorem szN {n : Nat} (h : n ≤ 11000000) : n ≤ sizeLine := Nat.le_trans h (by show 11000000 ≤ sizeLine; decide)
def C_gone_through : PC := fun ts Q => ∃ (s : MS) (row at_ ch asked : Int) (fr : List P3), ts = [s.t, .int row, .int at_, .lst (fr.map tripT), .int ch, .int asked] ∧ s.rw_.length ≤ 10000 ∧ Q (.t (MS.t ⟨at_, fr, s.bx, s.tl, ch, s.rw_ ++ [row], s.us + asked, 0⟩))
theorem ln_gone_through : ∀ ts Q, C_gone_through ts Q → ts.length = ["state", "row", "at", "frames", "chain", "asked"].length := by rintro ts Q ⟨_, _, _, _, _, _, rfl, _⟩; rfl
def rd_gone_through : DSt :=
  dSeq (dAsg (dTup (dCons (d2 fIx (dVar 0) (dC (.int 2))) (dCons (d2 fIx (dVar 0) (dC (.int 3))) (dCons (d2 fIx (dVar 0) (dC (.int 5))) (dCons (d2 fIx (dVar 0) (dC (.int 6))) (dNil)))))) (dgTup 4 (dgCons (dgN 6) (dgCons (dgN 7) (dgCons (dgN 8) (dgCons (dgN 9) (dgNil)))))))
  (dRet (dTup (dCons (dVar 2) (dCons (dVar 3) (dCons (dN fListOf (dCons (dVar 6) (dNil))) (dCons (dN fListOf (dCons (dVar 7) (dNil))) (dCons (dVar 4) (dCons (d2 fAdd (dVar 8) (dLst (dCons (dVar 1) (dNil)))) (dCons (d2 fAdd (dVar 9) (dVar 5)) (dCons (dC (.int 0)) (dNil)))))))))))

theorem rp_gone_through : ∀ ts Q, C_gone_through ts Q → rd_gone_through ⟨FinP Q (.t .non), FinP Q, fun _ => False, fun _ => False⟩ ⟨ts.map (fun t => some (W.t t)) ++ List.replicate (10 - ts.length) none, []⟩ := by
  rintro ts Q ⟨⟨a0, fr0, bx, tl, ch0, rw_, us, idle⟩, row, at_, ch, asked, fr, rfl, hl, hQ⟩
  dsimp only at hl
  unfold rd_gone_through MS.t
  walk_at "dl"
  refine ⟨szM rfl, ?_⟩
  walk_at "dl"
  refine i_listOf (us := bx.map pairT) rfl ?_
  walk_at "dl"
  refine i_listOf (us := tl.map tripT) rfl ?_
  walk_at "dl"
  refine ⟨szM rfl, ?_⟩
  refine i_addL (xs := rw_.map T.int) (ys := [.int row]) rfl rfl (szN (by rw [List.length_map, List.length_singleton]; omega)) ?_
  walk_at "dl"
  refine ⟨szM rfl, ?_⟩
  unfold MS.t at hQ
  rw [List.map_append] at hQ
  exact hQ
def C_row_done : PC := fun ts Q => ∃ (cs : List Ins) (s : MS) (as : List Int) (bd : Int), ts = [codeT cs, s.t, .lst (as.map T.int)] ∧ s.Ok ∧ Ans as ∧ bd ≤ 10000 ∧ stM cs s as bd = none ∧ (∃ i, cs[s.at_.toNat]? = some i ∧ i.rowy = true) ∧ Q (.t (nxM cs s as).t)
theorem ln_row_done : ∀ ts Q, C_row_done ts Q → ts.length = ["code", "state", "answers"].length := by rintro ts Q ⟨_, _, _, _, rfl, _⟩; rfl
def rd_row_done : DSt :=
  dSeq (dAsg (dVar 1) (dgTup 8 (dgCons (dgN 3) (dgCons (dgN 4) (dgCons (dgN 5) (dgCons (dgN 6) (dgCons (dgN 7) (dgCons (dgN 8) (dgCons (dgN 9) (dgCons (dgN 10) (dgNil)))))))))))
  (dSeq (dAsg (d2 fIx (dVar 0) (dVar 3)) (dgN 11))
  (dSeq (dIfS (dB (d2 (fEq false) (d2 fIx (dVar 11) (dC (.int 0))) (dC (.str (PySem.Str.ofString "row"))))) (dRet (dCallH C_gone_through (dCons (dVar 1) (dCons (d2 fIx (dVar 11) (dC (.int 1))) (dCons (d2 fAdd (dVar 3) (dC (.int 1))) (dCons (dN fListOf (dCons (dVar 4) (dNil))) (dCons (dVar 7) (dCons (dC (.int 0)) (dNil))))))))) (dNext))
  (dSeq (dIfS (dB (d2 (fEq false) (d2 fIx (dVar 11) (dC (.int 0))) (dC (.str (PySem.Str.ofString "call"))))) (dSeq (dAsg (d2 fAdd (dVar 4) (dLst (dCons (dTup (dCons (d2 fAdd (dVar 3) (dC (.int 1))) (dCons (dC (.int 0)) (dCons (dVar 7) (dNil))))) (dNil)))) (dgN 12))
  (dRet (dCallH C_gone_through (dCons (dVar 1) (dCons (d2 fIx (dVar 11) (dC (.int 1))) (dCons (d2 fIx (dVar 11) (dC (.int 2))) (dCons (dVar 12) (dCons (d2 fAdd (dVar 7) (d2 fIx (dVar 11) (dC (.int 3)))) (dCons (dC (.int 0)) (dNil)))))))))) (dNext))
  (dSeq (dIfS (dB (d2 (fEq false) (d2 fIx (dVar 2) (dVar 9)) (dC (.int 1)))) (dRet (dCallH C_gone_through (dCons (dVar 1) (dCons (d2 fIx (dVar 11) (dC (.int 1))) (dCons (d2 fAdd (dVar 3) (dC (.int 1))) (dCons (dN fListOf (dCons (dVar 4) (dNil))) (dCons (dVar 7) (dCons (dC (.int 1)) (dNil))))))))) (dNext))
  (dRet (dCallH C_gone_through (dCons (dVar 1) (dCons (d2 fIx (dVar 11) (dC (.int 2))) (dCons (d2 fIx (dVar 11) (dC (.int 3))) (dCons (dN fListOf (dCons (dVar 4) (dNil))) (dCons (dVar 7) (dCons (dC (.int 1)) (dNil)))))))))))))

theorem rp_row_done : ∀ ts Q, C_row_done ts Q → rd_row_done ⟨FinP Q (.t .non), FinP Q, fun _ => False, fun _ => False⟩ ⟨ts.map (fun t => some (W.t t)) ++ List.replicate (13 - ts.length) none, []⟩ := by
  rintro ts Q ⟨cs, ⟨at_, fr, bx, tl, ch, rw_, us, idle⟩, as, bd, rfl, ok, ha, hbd, hs, ⟨i, hi, hr⟩, hQ⟩
  obtain ⟨n, hn⟩ := at_nat ok.a0
  dsimp only at hn
  subst hn
  have lf := ok.lf
  have u0 := ok.u0
  unfold stM at hs
  unfold nxM at hQ
  dsimp only at hQ hs hi lf u0
  rw [Int.toNat_natCast] at hQ hs hi
  rw [hi] at hQ hs
  dsimp only at hs
  by_cases h1 : 1000 ≤ idle
  · rw [if_pos h1] at hs; cases hs
  rw [if_neg h1] at hs
  by_cases h2 : i.rowy = true ∧ bd ≤ (rw_.length : Int)
  · rw [if_pos h2] at hs; cases hs
  rw [if_neg h2] at hs
  have hrl : (rw_.length : Int) < bd := by
    rcases Int.lt_or_le (rw_.length : Int) bd with h | h
    · exact h
    · exact absurd ⟨hr, h⟩ h2
  by_cases h3 : i.isAsk = true ∧ (as.length : Int) ≤ us
  · rw [if_pos h3] at hs; cases hs
  have hx : atI (cs.map Ins.t) (n : Int) = some i.t := atI_nat (by rw [List.getElem?_map, hi]; rfl)
  unfold rd_row_done codeT MS.t
  cases i with
  | row r =>
    unfold Ins.t Ins.w Ins.ns at hx
    walk_at "dl"
    walk_at "sq"
    walk_at "dl"
    refine i_listOf (us := fr.map tripT) rfl ?_
    walk_at "dl"
    refine ⟨⟨n, fr, bx, tl, ch, rw_, us, idle⟩, r, (n : Int) + 1, ch, 0, fr, rfl, by show rw_.length ≤ 10000; omega, ?_⟩
    walk_at "dl"
    rw [Int.add_zero]
    exact hQ
  | call a t z =>
    unfold Ins.t Ins.w Ins.ns at hx
    walk_at "dl"
    walk_at "sq"
    walk_at "dl"
    walk_at "sq"
    walk_at "dl"
    refine ⟨szM rfl, ?_⟩
    walk_at "dl"
    refine ⟨szM rfl, ?_⟩
    refine i_addL (xs := fr.map tripT) (ys := [.tup [.int ((n : Int) + 1), .int 0, .int ch]]) rfl rfl (szN (by rw [List.length_map, List.length_singleton]; omega)) ?_
    walk_at "dl"
    refine ⟨⟨n, fr, bx, tl, ch, rw_, us, idle⟩, a, t, ch + z, 0, fr ++ [((n : Int) + 1, 0, ch)], by rw [List.map_append]; rfl, by show rw_.length ≤ 10000; omega, ?_⟩
    walk_at "dl"
    rw [Int.add_zero]
    exact hQ
  | ask a b t =>
    unfold Ins.t Ins.w Ins.ns at hx
    obtain ⟨m, rfl⟩ : ∃ m : Nat, us = (m : Int) := ⟨us.toNat, (Int.toNat_of_nonneg u0).symm⟩
    have hm : m < as.length := by
      rcases Nat.lt_or_ge m as.length with h | h
      · exact h
      · exact absurd ⟨rfl, by omega⟩ h3
    have hy : atI (as.map T.int) (m : Int) = some (.int as[m]) := atI_nat (by rw [List.getElem?_map, List.getElem?_eq_getElem hm]; rfl)
    dsimp only at hQ
    rw [Int.toNat_natCast, List.getElem?_eq_getElem hm] at hQ
    walk_at "dl"
    walk_at "sq"
    walk_at "dl"
    walk_at "sq"
    walk_at "dl"
    refine k_d (fun h => ?_) (fun h => ?_)
    · rw [if_pos (by rw [h])] at hQ
      walk_at "dl"
      refine i_listOf (us := fr.map tripT) rfl ?_
      walk_at "dl"
      refine ⟨⟨n, fr, bx, tl, ch, rw_, m, idle⟩, a, (n : Int) + 1, ch, 1, fr, rfl, by show rw_.length ≤ 10000; omega, ?_⟩
      walk_at "dl"
      exact hQ
    · rw [if_neg (fun z => h (Option.some.inj z))] at hQ
      walk_at "dl"
      refine i_listOf (us := fr.map tripT) rfl ?_
      walk_at "dl"
      refine ⟨⟨n, fr, bx, tl, ch, rw_, m, idle⟩, b, t, ch, 1, fr, rfl, by show rw_.length ≤ 10000; omega, ?_⟩
      walk_at "dl"
      exact hQ
  | _ => cases hr
/-! a tuple that goes through no row -/
local macro_rules | `(tactic| walk_at "sq") => `(tactic| (refine i_eqS ?_; (try walk_at "dl"); first | refine k_dT trivial ?_ | refine k_dT rfl ?_ | refine k_dF (by decide +kernel) ?_ | skip))
theorem snoc_last {l : List P3} {x : P3} (h : l.getLast? = some x) : ∃ r, l = r ++ [x] := List.getLast?_eq_some_iff.mp h
theorem atI_m1 {α : Type} (ys : List α) (y : α) : atI (ys ++ [y]) (-1) = some y := by
  unfold atI ixN
  rw [List.length_append, List.length_singleton, if_neg (by decide), if_pos (by omega)]
  show (ys ++ [y])[((-1 : Int) + ((ys.length + 1 : Nat) : Int)).toNat]? = some y
  rw [show ((-1 : Int) + ((ys.length + 1 : Nat) : Int)).toNat = ys.length by omega, List.getElem?_append_right (Nat.le_refl _), Nat.sub_self]
  rfl
theorem ixN_m1 {n : Nat} : ixN (n + 1) (-1) = some n := by
  unfold ixN
  rw [if_neg (by decide), if_pos (by omega)]
  exact congrArg some (by omega)
def C_other_done : PC := fun ts Q => ∃ (cs : List Ins) (s : MS) (as : List Int) (bd : Int), ts = [codeT cs, s.t] ∧ s.Ok ∧ s.rw_.length ≤ 10000 ∧ stM cs s as bd = none ∧ (∃ i, cs[s.at_.toNat]? = some i ∧ i.rowy = false) ∧ Q (.t (nxM cs s as).t)
theorem ln_other_done : ∀ ts Q, C_other_done ts Q → ts.length = ["code", "state"].length := by rintro ts Q ⟨_, _, _, _, rfl, _⟩; rfl
def rd_other_done : DSt :=
  dSeq (dAsg (dVar 1) (dgTup 8 (dgCons (dgN 2) (dgCons (dgN 3) (dgCons (dgN 4) (dgCons (dgN 5) (dgCons (dgN 6) (dgCons (dgN 7) (dgCons (dgN 8) (dgCons (dgN 9) (dgNil)))))))))))
  (dSeq (dAsg (d2 fIx (dVar 0) (dVar 2)) (dgN 10))
  (dSeq (dAsg (d2 fIx (dVar 3) (d1 fNeg (dC (.int 1)))) (dgTup 3 (dgCons (dgN 11) (dgCons (dgN 12) (dgCons (dgN 13) (dgNil))))))
  (dSeq (dAsg (d2 fAdd (dVar 2) (dC (.int 1))) (dgN 14))
  (dSeq (dAsg (dN fListOfH (dCons (dVar 3) (dNil))) (dgN 3))
  (dSeq (dAsg (dN fListOfH (dCons (dVar 5) (dNil))) (dgN 5))
  (dSeq (dAsg (dN fListOf (dCons (dVar 4) (dNil))) (dgN 4))
  (dSeq (dIfS (dB (d2 (fEq false) (d2 fIx (dVar 10) (dC (.int 0))) (dC (.str (PySem.Str.ofString "jump"))))) (dAsg (d2 fIx (dVar 10) (dC (.int 1))) (dgN 14)) (dNext))
  (dSeq (dIfS (dB (d2 (fEq false) (d2 fIx (dVar 10) (dC (.int 0))) (dC (.str (PySem.Str.ofString "count"))))) (dAsg (dCallT C_one_more (dCons (dVar 4) (dCons (d2 fIx (dVar 10) (dC (.int 1))) (dNil)))) (dgN 4)) (dNext))
  (dSeq (dIfS (dB (d2 (fEq false) (d2 fIx (dVar 10) (dC (.int 0))) (dC (.str (PySem.Str.ofString "add"))))) (dAsg (dTup (dCons (dVar 11) (dCons (d2 fAdd (dVar 12) (d2 fIx (dVar 10) (dC (.int 1)))) (dCons (dVar 13) (dNil))))) (dgSub (dVar 3) (d1 fNeg (dC (.int 1))))) (dNext))
  (dSeq (dIfS (dB (d2 (fEq false) (d2 fIx (dVar 10) (dC (.int 0))) (dC (.str (PySem.Str.ofString "tell"))))) (dSeq (dDrop (dM fAppend (dVar 5) (dCons (dTup (dCons (d2 fIx (dVar 10) (dC (.int 1))) (dCons (dVar 6) (dCons (dVar 12) (dNil))))) (dNil))))
  (dAsg (dTup (dCons (dVar 11) (dCons (d2 fIx (dVar 10) (dC (.int 2))) (dCons (dVar 13) (dNil))))) (dgSub (dVar 3) (d1 fNeg (dC (.int 1)))))) (dNext))
  (dSeq (dIfS (dB (d2 (fEq false) (d2 fIx (dVar 10) (dC (.int 0))) (dC (.str (PySem.Str.ofString "back"))))) (dSeq (dDrop (dM0 fPop (dVar 3)))
  (dSeq (dAsg (dVar 13) (dgN 6))
  (dAsg (dVar 11) (dgN 14)))) (dNext))
  (dRet (dTup (dCons (dVar 14) (dCons (dFrz 3) (dCons (dVar 4) (dCons (dFrz 5) (dCons (dVar 6) (dCons (dN fListOf (dCons (dVar 7) (dNil))) (dCons (dVar 8) (dCons (d2 fAdd (dVar 9) (dC (.int 1))) (dNil))))))))))))))))))))))

theorem rp_other_done : ∀ ts Q, C_other_done ts Q → rd_other_done ⟨FinP Q (.t .non), FinP Q, fun _ => False, fun _ => False⟩ ⟨ts.map (fun t => some (W.t t)) ++ List.replicate (15 - ts.length) none, []⟩ := by
  rintro ts Q ⟨cs, ⟨at_, fr, bx, tl, ch, rw_, us, idle⟩, as, bd, rfl, ok, hrl, hs, ⟨i, hi, hr⟩, hQ⟩
  obtain ⟨n, hn⟩ := at_nat ok.a0
  dsimp only at hn
  subst hn
  have lf := ok.lf
  have lb := ok.lb
  have lt := ok.lt
  have i1 := ok.i1
  have hbx := ok.bx
  obtain ⟨⟨l, m, k⟩, hx0⟩ : ∃ x, fr.getLast? = some x := by
    cases e : fr.getLast? with
    | none => exact absurd (List.getLast?_eq_none_iff.mp e) ok.fne
    | some x => exact ⟨x, rfl⟩
  obtain ⟨r, rfl⟩ := snoc_last hx0
  unfold stM at hs
  unfold nxM at hQ
  dsimp only at hQ hs hi lf lb lt hrl hbx i1
  rw [Int.toNat_natCast] at hQ hs hi
  rw [hi, hx0] at hQ
  rw [hi] at hs
  dsimp only at hs
  have hset : ∀ y : P3, (setL (r ++ [(l, m, k)]) y).map tripT = ((r ++ [(l, m, k)]).map tripT).set r.length (tripT y) := fun y => by
    unfold setL
    rw [List.dropLast_concat, List.map_append, List.map_append, List.set_append_right _ _ (by rw [List.length_map]; exact Nat.le_refl _), List.length_map, Nat.sub_self]
    rfl
  have hla : atI ((r ++ [(l, m, k)]).map tripT) (-1) = some (tripT (l, m, k)) := by rw [List.map_append]; exact atI_m1 _ _
  have hx : atI (cs.map Ins.t) (n : Int) = some i.t := atI_nat (by rw [List.getElem?_map, hi]; rfl)
  unfold rd_other_done codeT MS.t
  cases i with
  | jump t =>
    unfold Ins.t Ins.w Ins.ns at hx
    walk_at "dl"
    refine i_listOfH (us := (r ++ [(l, m, k)]).map tripT) rfl ?_
    walk_at "dl"
    refine i_listOfH (us := tl.map tripT) rfl ?_
    walk_at "dl"
    refine i_listOf (us := bx.map pairT) rfl ?_
    walk_at "dl"
    walk_at "sq"
    walk_at "dl"
    walk_at "sq"
    walk_at "dl"
    walk_at "sq"
    walk_at "dl"
    walk_at "sq"
    walk_at "dl"
    walk_at "sq"
    walk_at "dl"
    refine i_listOf (us := rw_.map T.int) rfl ?_
    walk_at "dl"
    refine ⟨szM rfl, ?_⟩
    exact hQ
  | count n1 =>
    unfold Ins.t Ins.w Ins.ns at hx
    walk_at "dl"
    refine i_listOfH (us := (r ++ [(l, m, k)]).map tripT) rfl ?_
    walk_at "dl"
    refine i_listOfH (us := tl.map tripT) rfl ?_
    walk_at "dl"
    refine i_listOf (us := bx.map pairT) rfl ?_
    walk_at "dl"
    walk_at "sq"
    walk_at "dl"
    walk_at "sq"
    walk_at "dl"
    refine ⟨bx, n1, rfl, hbx, Nat.lt_of_le_of_lt (show bx.length ≤ 11000000 by omega) (by show 11000000 < sizeLine; decide), ?_⟩
    walk_at "dl"
    walk_at "sq"
    walk_at "dl"
    walk_at "sq"
    walk_at "dl"
    walk_at "sq"
    walk_at "dl"
    refine i_listOf (us := rw_.map T.int) rfl ?_
    walk_at "dl"
    refine ⟨szM rfl, ?_⟩
    exact hQ
  | add z =>
    unfold Ins.t Ins.w Ins.ns at hx
    walk_at "dl"
    refine i_listOfH (us := (r ++ [(l, m, k)]).map tripT) rfl ?_
    walk_at "dl"
    refine i_listOfH (us := tl.map tripT) rfl ?_
    walk_at "dl"
    refine i_listOf (us := bx.map pairT) rfl ?_
    walk_at "dl"
    walk_at "sq"
    walk_at "dl"
    walk_at "sq"
    walk_at "dl"
    walk_at "sq"
    walk_at "dl"
    refine ⟨szM rfl, ?_⟩
    walk_at "dl"
    refine ⟨r.length, by rw [List.length_map, List.length_append]; exact ixN_m1, ?_⟩
    rw [← hset (l, m + z, k)]
    walk_at "dl"
    walk_at "sq"
    walk_at "dl"
    walk_at "sq"
    walk_at "dl"
    refine i_listOf (us := rw_.map T.int) rfl ?_
    walk_at "dl"
    refine ⟨szM rfl, ?_⟩
    exact hQ
  | tell n1 z =>
    unfold Ins.t Ins.w Ins.ns at hx
    walk_at "dl"
    refine i_listOfH (us := (r ++ [(l, m, k)]).map tripT) rfl ?_
    walk_at "dl"
    refine i_listOfH (us := tl.map tripT) rfl ?_
    walk_at "dl"
    refine i_listOf (us := bx.map pairT) rfl ?_
    walk_at "dl"
    walk_at "sq"
    walk_at "dl"
    walk_at "sq"
    walk_at "dl"
    walk_at "sq"
    walk_at "dl"
    walk_at "sq"
    walk_at "dl"
    refine ⟨trivial, ?_⟩
    walk_at "dl"
    refine ⟨szM rfl, ?_⟩
    walk_at "dl"
    refine i_append rfl (Nat.lt_of_le_of_lt (show (tl.map tripT).length ≤ 11000000 by rw [List.length_map]; omega) (by show 11000000 < sizeLine; decide)) ?_
    walk_at "dl"
    refine ⟨szM rfl, ?_⟩
    walk_at "dl"
    refine ⟨r.length, by rw [List.length_map, List.length_append]; exact ixN_m1, ?_⟩
    rw [← hset (l, z, k)]
    walk_at "dl"
    walk_at "sq"
    walk_at "dl"
    refine i_listOf (us := rw_.map T.int) rfl ?_
    walk_at "dl"
    refine ⟨szM rfl, ?_⟩
    unfold MS.t at hQ
    rw [List.map_append] at hQ
    exact hQ
  | back =>
    unfold Ins.t Ins.w Ins.ns at hx
    walk_at "dl"
    refine i_listOfH (us := (r ++ [(l, m, k)]).map tripT) rfl ?_
    walk_at "dl"
    refine i_listOfH (us := tl.map tripT) rfl ?_
    walk_at "dl"
    refine i_listOf (us := bx.map pairT) rfl ?_
    walk_at "dl"
    walk_at "sq"
    walk_at "dl"
    walk_at "sq"
    walk_at "dl"
    walk_at "sq"
    walk_at "dl"
    walk_at "sq"
    walk_at "dl"
    walk_at "sq"
    walk_at "dl"
    refine ⟨trivial, ?_⟩
    walk_at "dl"
    refine i_pop (x := tripT (l, m, k)) rfl ?_ ?_
    · rw [List.map_append]
      simp
    walk_at "dl"
    refine i_listOf (us := rw_.map T.int) rfl ?_
    walk_at "dl"
    refine ⟨szM rfl, ?_⟩
    unfold MS.t at hQ
    dsimp only at hQ
    rw [List.map_dropLast] at hQ
    exact hQ
  | _ => cases hr
/-! a step, and all of them -/
def stpT (cs : List Ins) (s : MS) (as : List Int) (bd : Int) : T := match stM cs s as bd with | some w => .str w.s | none => (nxM cs s as).t
def C_stepped : PC := fun ts Q => ∃ (cs : List Ins) (s : MS) (as : List Int) (bd : Int), ts = [codeT cs, s.t, .lst (as.map T.int), .int bd] ∧ s.Ok ∧ Ans as ∧ (s.rw_.length : Int) ≤ bd ∧ bd ≤ 10000 ∧ Q (.t (stpT cs s as bd))
theorem ln_stepped : ∀ ts Q, C_stepped ts Q → ts.length = ["code", "state", "answers", "bound"].length := by rintro ts Q ⟨_, _, _, _, rfl, _⟩; rfl
theorem stM_some {cs : List Ins} {s : MS} {as : List Int} {bd : Int} (h : stM cs s as bd = none) : ∃ i, cs[s.at_.toNat]? = some i := by
  unfold stM at h
  cases e : cs[s.at_.toNat]? with
  | none => rw [e] at h; cases h
  | some i => exact ⟨i, rfl⟩
def rd_stepped : DSt :=
  dSeq (dAsg (dCallT C_stands (dCons (dVar 0) (dCons (dVar 1) (dCons (dVar 2) (dCons (dVar 3) (dNil)))))) (dgN 4))
  (dSeq (dIfS (dB (d1 (fNone true) (dVar 4))) (dRet (dVar 4)) (dNext))
  (dSeq (dIfS (dB (d2 (fIn false) (d2 fIx (d2 fIx (dVar 0) (d2 fIx (dVar 1) (dC (.int 0)))) (dC (.int 0))) (dLst (dCons (dC (.str (PySem.Str.ofString "row"))) (dCons (dC (.str (PySem.Str.ofString "ask"))) (dCons (dC (.str (PySem.Str.ofString "call"))) (dNil))))))) (dRet (dCallH C_row_done (dCons (dVar 0) (dCons (dVar 1) (dCons (dVar 2) (dNil)))))) (dNext))
  (dRet (dCallH C_other_done (dCons (dVar 0) (dCons (dVar 1) (dNil)))))))

theorem rp_stepped : ∀ ts Q, C_stepped ts Q → rd_stepped ⟨FinP Q (.t .non), FinP Q, fun _ => False, fun _ => False⟩ ⟨ts.map (fun t => some (W.t t)) ++ List.replicate (5 - ts.length) none, []⟩ := by
  rintro ts Q ⟨cs, s, as, bd, rfl, ok, ha, hr, hb, hQ⟩
  unfold rd_stepped
  walk_at "dl"
  refine ⟨cs, s, as, bd, rfl, ok, ?_⟩
  walk_at "dl"
  unfold stpT at hQ
  cases hs : stM cs s as bd with
  | some w =>
    rw [hs] at hQ
    refine i_none rfl ?_
    walk_at "dl"
    exact hQ
  | none =>
    rw [hs] at hQ
    dsimp only at hQ
    refine i_none rfl ?_
    walk_at "dl"
    obtain ⟨i, hi⟩ := stM_some hs
    obtain ⟨n, hn⟩ := at_nat ok.a0
    have h0 : atI [T.int s.at_, .lst (s.fr.map tripT), .lst (s.bx.map pairT), .lst (s.tl.map tripT), .int s.ch, .lst (s.rw_.map T.int), .int s.us, .int s.idle] 0 = some (.int s.at_) := atI_nat (j := 0) rfl
    have hx : atI (cs.map Ins.t) s.at_ = some i.t := by
      rw [hn]
      rw [hn, Int.toNat_natCast] at hi
      exact atI_nat (by rw [List.getElem?_map, hi]; rfl)
    have hw : atI (T.str i.w :: i.ns.map T.int) 0 = some (.str i.w) := atI_nat (j := 0) rfl
    walk_at "dl"
    rw [show (if True then !(W.t (wT none)).isN else (W.t (wT none)).isN) = false from rfl]
    walk_at "dl"
    refine ⟨szM rfl, ?_⟩
    refine i_in rfl rfl (fun t ht => ?_) ?_
    · rcases List.mem_cons.mp ht with rfl | ht
      · rfl
      rcases List.mem_cons.mp ht with rfl | ht
      · rfl
      rcases List.mem_cons.mp ht with rfl | ht
      · rfl
      · cases ht
    rw [rowyW]
    cases hr2 : i.rowy with
    | true =>
      walk_at "dl"
      refine ⟨cs, s, as, bd, rfl, ok, ha, hb, hs, ⟨i, hi, hr2⟩, ?_⟩
      walk_at "dl"
      exact hQ
    | false =>
      walk_at "dl"
      refine ⟨cs, s, as, bd, rfl, ok, by omega, hs, ⟨i, hi, hr2⟩, ?_⟩
      walk_at "dl"
      exact hQ
/-- a code -/
structure CodeOk (cs : List Ins) : Prop where
  ne : cs ≠ []
  le : cs.length ≤ 2000
  ok : ∀ i ∈ cs, i.ok cs.length
theorem CodeOk.look {cs : List Ins} (h : CodeOk cs) {Q : R0 → Prop} (q : Q (.t .non)) : C_look_code [codeT cs] Q := by
  have ln : ∀ x ∈ cs.map Ins.t, Ln (cs.map Ins.t).length x := fun x hx => by
    obtain ⟨i, hi, rfl⟩ := List.mem_map.mp hx
    rw [List.length_map]
    exact Ins.ln (h.ok i hi)
  refine ⟨cs.map Ins.t, rfl, ?_, by rw [List.length_map]; exact h.le, fun x hx => (ln x hx).lt, fun x hx => (ln x hx).sh, fun x hx => (ln x hx).done, q⟩
  intro e
  exact h.ne (List.map_eq_nil_iff.mp e)
def meas (bd : Int) (s : MS) : Nat := ((bd - s.rw_.length) * 1001 + (1000 - s.idle)).toNat
theorem nxM_meas {cs : List Ins} {s : MS} {as : List Int} {bd : Int} (ok : s.Ok) (hr : (s.rw_.length : Int) ≤ bd) (hs : stM cs s as bd = none) : ((nxM cs s as).rw_.length : Int) ≤ bd ∧ meas bd (nxM cs s as) < meas bd s := by
  obtain ⟨⟨l, m, k⟩, hx⟩ : ∃ x, s.fr.getLast? = some x := by
    cases e : s.fr.getLast? with
    | none => exact absurd (List.getLast?_eq_none_iff.mp e) ok.fne
    | some x => exact ⟨x, rfl⟩
  obtain ⟨i, hi⟩ := stM_some hs
  have i0 := ok.i0
  have i1 := ok.i1
  unfold stM at hs
  unfold nxM meas
  rw [hi] at hs ⊢
  rw [hx]
  dsimp only at hs
  by_cases h1 : 1000 ≤ s.idle
  · rw [if_pos h1] at hs; cases hs
  rw [if_neg h1] at hs
  by_cases h2 : i.rowy = true ∧ bd ≤ (s.rw_.length : Int)
  · rw [if_pos h2] at hs; cases hs
  have hrl : i.rowy = true → (s.rw_.length : Int) < bd := fun e => by
    rcases Int.lt_or_le (s.rw_.length : Int) bd with h | h
    · exact h
    · exact absurd ⟨e, h⟩ h2
  cases i with
  | row n =>
    have := hrl rfl
    dsimp only
    rw [List.length_append, List.length_singleton]
    omega
  | ask a b t =>
    have := hrl rfl
    dsimp only
    by_cases h5 : as[s.us.toNat]? = some 1
    · rw [if_pos h5]
      dsimp only
      rw [List.length_append, List.length_singleton]
      omega
    · rw [if_neg h5]
      dsimp only
      rw [List.length_append, List.length_singleton]
      omega
  | call a t z =>
    have := hrl rfl
    dsimp only
    rw [List.length_append, List.length_singleton]
    omega
  | _ => dsimp only; omega
def C_run_code : PC := fun ts Q => ∃ (cs : List Ins) (as : List Int) (bd : Int), ts = [codeT cs, .lst (as.map T.int), .int bd] ∧ CodeOk cs ∧ Ans as ∧ 0 ≤ bd ∧ bd ≤ 10000 ∧ ∀ w s', Runs cs as bd s0 w s' → Q (.t (.tup [.str w.s, s'.t]))
theorem ln_run_code : ∀ ts Q, C_run_code ts Q → ts.length = ["code", "answers", "bound"].length := by rintro ts Q ⟨_, _, _, rfl, _⟩; rfl
def rd_run_code : DSt :=
  dSeq (dDrop (dCallT C_look_code (dCons (dVar 0) (dNil))))
  (dSeq (dDrop (dCallT C_look_answers (dCons (dVar 1) (dCons (dVar 2) (dNil)))))
  (dSeq (dAsg (dCallT C_begun (dNil)) (dgN 3))
  (dSeq (dAsg (dCallT C_stepped (dCons (dVar 0) (dCons (dVar 3) (dCons (dVar 1) (dCons (dVar 2) (dNil)))))) (dgN 4))
  (dSeq (dWhile (dNot (dB (dN fIsi (dCons (dVar 4) (dCons (dC (.raw (.ty "str"))) (dNil)))))) (dSeq (dAsg (dVar 4) (dgN 3))
  (dAsg (dCallT C_stepped (dCons (dVar 0) (dCons (dVar 3) (dCons (dVar 1) (dCons (dVar 2) (dNil)))))) (dgN 4))))
  (dRet (dTup (dCons (dVar 4) (dCons (dVar 3) (dNil)))))))))

theorem rp_run_code : ∀ ts Q, C_run_code ts Q → rd_run_code ⟨FinP Q (.t .non), FinP Q, fun _ => False, fun _ => False⟩ ⟨ts.map (fun t => some (W.t t)) ++ List.replicate (5 - ts.length) none, []⟩ := by
  rintro ts Q ⟨cs, as, bd, rfl, hc, ha, h0, hb, hQ⟩
  unfold rd_run_code
  walk_at "dl"
  refine hc.look ?_
  walk_at "dl"
  refine ⟨as, bd, rfl, ha, by omega, ?_⟩
  walk_at "dl"
  refine ⟨rfl, ?_⟩
  walk_at "dl"
  refine ⟨cs, s0, as, bd, rfl, s0_ok, ha, h0, hb, ?_⟩
  walk_at "dl"
  refine ⟨fun m g' => ∃ s : MS, m = meas bd s ∧ g' = ⟨[some (.t (codeT cs)), some (.t (.lst (as.map T.int))), some (.t (.int bd)), some (.t s.t), some (.t (stpT cs s as bd))], []⟩ ∧ s.Ok ∧ (s.rw_.length : Int) ≤ bd ∧ ∀ w s', Runs cs as bd s w s' → Q (.t (.tup [.str w.s, s'.t])), ⟨_, s0, rfl, rfl, s0_ok, h0, hQ⟩, ?_⟩
  rintro m g' ⟨s, rfl, rfl, ok, hr, hq⟩
  walk_at "dl"
  unfold stpT
  cases hs : stM cs s as bd with
  | some w =>
    dsimp only
    refine i_isi (a := "str") (b := true) rfl rfl ?_
    walk_at "dl"
    try rw [show (!true) = false from rfl]
    walk_at "dl"
    refine ⟨szM rfl, ?_⟩
    exact hq w s (.stop hs)
  | none =>
    dsimp only
    refine i_isi (a := "tuple") (b := false) rfl rfl ?_
    walk_at "dl"
    try rw [show (!false) = true from rfl]
    walk_at "dl"
    have hm := nxM_meas ok hr hs
    have ok2 : (nxM cs s as).Ok := nxM_ok hc.ok ok hs
    refine ⟨cs, nxM cs s as, as, bd, rfl, ok2, ha, hm.1, hb, ?_⟩
    walk_at "dl"
    exact ⟨_, hm.2, nxM cs s as, rfl, rfl, ok2, hm.1, fun w s' h => hq w s' (.go hs h)⟩
/-! the machine over a state that lives -/
local macro_rules | `(tactic| walk_at "sq") => `(tactic| (refine i_eqS ?_; (try walk_at "dl"); first | refine k_dT trivial ?_ | refine k_dT rfl ?_ | refine k_dF (by decide +kernel) ?_ | skip))
def stLn (n : Nat) (s : MS) : List Cell := [.lt (s.fr.map tripT), .lt (s.bx.map pairT), .lt (s.tl.map tripT), .lt (s.rw_.map T.int), .tw [.t (.int s.at_), .h n, .h (n + 1), .h (n + 2), .t (.int s.ch), .h (n + 3), .t (.int s.us), .t (.int s.idle)]]
abbrev stL (s : MS) : List Cell := stLn 0 s
structure LiveAt (M : Sto) (n : Nat) (s : MS) : Prop where
  c0 : M[n]? = some (some (.lt (s.fr.map tripT)))
  c1 : M[n + 1]? = some (some (.lt (s.bx.map pairT)))
  c2 : M[n + 2]? = some (some (.lt (s.tl.map tripT)))
  c3 : M[n + 3]? = some (some (.lt (s.rw_.map T.int)))
  c4 : M[n + 4]? = some (some (.tw [.t (.int s.at_), .h n, .h (n + 1), .h (n + 2), .t (.int s.ch), .h (n + 3), .t (.int s.us), .t (.int s.idle)]))
theorem set_at {α : Type} {xs : List α} {i : Nat} {x : α} (h : xs[i]? = some x) : xs.set i x = xs := by
  obtain ⟨hi, e⟩ := List.getElem?_eq_some_iff.mp h
  rw [← e]
  exact List.set_getElem_self hi
theorem callS_L {C : SC} {ws0 ws : List W} {M : Sto} {n : Nat} {s : MS} {sl : List (Option W)} {Q : W → G → Prop} (hw : ups [n, n + 1, n + 2, n + 3, n + 4] ws0 = some ws) (L : LiveAt M n s)
    (h : ∀ QC : W → List Cell → List Cell → Prop, (∀ t : T, Q (.t t) ⟨sl, M⟩ → QC (.t t) (stL s) []) → C ws0 (stL s) QC) : callS C ws ⟨sl, M⟩ Q := by
  refine ⟨[n, n + 1, n + 2, n + 3, n + 4], stL s, ws0, by simp, rfl, hw, fun i c e => ?_, h _ fun t q => ⟨.t t, stLn n s, [], rfl, rfl, rfl, ?_⟩⟩
  · match i, e with
    | 0, e => cases e; exact ⟨n, _, rfl, rfl, L.c0⟩
    | 1, e => cases e; exact ⟨n + 1, _, rfl, rfl, L.c1⟩
    | 2, e => cases e; exact ⟨n + 2, _, rfl, rfl, L.c2⟩
    | 3, e => cases e; exact ⟨n + 3, _, rfl, rfl, L.c3⟩
    | 4, e => cases e; exact ⟨n + 4, _, rfl, rfl, L.c4⟩
    | j + 5, e => cases e
  · have : setAll M [n, n + 1, n + 2, n + 3, n + 4] (stLn n s) = M := by
      show (((((M.set (n + 4) _).set (n + 3) _).set (n + 2) _).set (n + 1) _).set n _) = M
      rw [set_at L.c4, set_at L.c3, set_at L.c2, set_at L.c1, set_at L.c0]
    show Q (.t t) ⟨sl, setAll M [n, n + 1, n + 2, n + 3, n + 4] (stLn n s) ++ [].map some⟩
    rw [this, List.map_nil, List.append_nil]
    exact q
theorem fin_L {QC : W → List Cell → List Cell → Prop} {sl : List (Option W)} {s : MS} {gar : Sto} {x : T} (q : QC (.t x) (stL s) []) : FinS (stL s).length QC (.t x) ⟨sl, (stL s).map some ++ gar⟩ := by
  refine fin_s (n0 := 5) [] (stL s) [] (.t x) (by decide) (fun j hj => ?_) rfl rfl rfl (fun i c e => ?_) q
  · have : j < 5 := by simpa using hj
    show j < ((stL s).map some ++ gar).length
    rw [List.length_append]
    exact Nat.lt_of_lt_of_le this (Nat.le_add_right _ _)
  · match i, e with
    | 0, e => cases e; exact ⟨0, _, rfl, rfl, rfl⟩
    | 1, e => cases e; exact ⟨1, _, rfl, rfl, rfl⟩
    | 2, e => cases e; exact ⟨2, _, rfl, rfl, rfl⟩
    | 3, e => cases e; exact ⟨3, _, rfl, rfl, rfl⟩
    | 4, e => cases e; exact ⟨4, _, rfl, rfl, rfl⟩
    | j + 5, e => cases e
theorem fin_L0 {QC : W → List Cell → List Cell → Prop} {sl : List (Option W)} {s : MS} {x : T} (q : QC (.t x) (stL s) []) : FinS (stL s).length QC (.t x) ⟨sl, (stL s).map some⟩ := by
  have := fin_L (sl := sl) (gar := []) q
  rw [List.append_nil] at this
  exact this
def C_begunL : SC := fun ws m QC => ws = [] ∧ m = [] ∧ QC (.h 4) [] (stL s0)
theorem ln_begunL : ∀ ws m Q, C_begunL ws m Q → ws.length = ([] : List Str).length := by rintro ws m Q ⟨rfl, _⟩; rfl
def rd_begunL : DSt :=
  dRet (dTupW (dCons (dC (.int 0)) (dCons (dLstH (dCons (dTup (dCons (d1 fNeg (dC (.int 1))) (dCons (dC (.int 0)) (dCons (dC (.int 0)) (dNil))))) (dNil))) (dCons (dLstH (dNil)) (dCons (dLstH (dNil)) (dCons (dC (.int 0)) (dCons (dLstH (dNil)) (dCons (dC (.int 0)) (dCons (dC (.int 0)) (dNil))))))))))

theorem rp_begunL : ∀ ws m QC, C_begunL ws m QC → rd_begunL ⟨FinS m.length QC (.t .non), FinS m.length QC, fun _ => False, fun _ => False⟩ ⟨ws.map some ++ List.replicate (0 - ws.length) none, m.map some⟩ := by
  rintro ws m QC ⟨rfl, rfl, hQ⟩
  unfold rd_begunL
  walk_at "dl"
  refine i_tupW ?_
  walk_at "dl"
  refine ⟨szM rfl, ?_⟩
  walk_at "dl"
  refine ⟨szM rfl, ?_⟩
  walk_at "dl"
  refine ⟨Nat.zero_le _, ?_⟩
  walk_at "dl"
  refine ⟨Nat.zero_le _, ?_⟩
  walk_at "dl"
  refine ⟨Nat.zero_le _, ?_⟩
  walk_at "dl"
  refine ⟨szM rfl, ?_⟩
  walk_at "dl"
  refine fin_s (n0 := 0) [0, 1, 2, 3, 4] [] (stL s0) (.h 4) (by decide) (fun j hj => ?_) rfl rfl rfl (fun i c e => ?_) hQ
  · simp at hj
    show j < 5
    omega
  · match i, e with
    | 0, e => cases e; exact ⟨0, _, rfl, rfl, rfl⟩
    | 1, e => cases e; exact ⟨1, _, rfl, rfl, rfl⟩
    | 2, e => cases e; exact ⟨2, _, rfl, rfl, rfl⟩
    | 3, e => cases e; exact ⟨3, _, rfl, rfl, rfl⟩
    | 4, e => cases e; exact ⟨4, _, rfl, rfl, rfl⟩
    | j + 5, e => cases e
def C_gone_throughL : SC := fun ws m QC => ∃ (s : MS) (row at_ ch asked : Int) (fr : List P3), ws = [.h 4, .t (.int row), .t (.int at_), .t (.lst (fr.map tripT)), .t (.int ch), .t (.int asked)] ∧ m = stL s ∧ s.rw_.length ≤ 10000 ∧ QC (.t (MS.t ⟨at_, fr, s.bx, s.tl, ch, s.rw_ ++ [row], s.us + asked, 0⟩)) (stL s) []
theorem ln_gone_throughL : ∀ ws m Q, C_gone_throughL ws m Q → ws.length = ["state", "row", "at", "frames", "chain", "asked"].length := by rintro ws m Q ⟨_, _, _, _, _, _, rfl, _⟩; rfl
def rd_gone_throughL : DSt :=
  dSeq (dAsg (dTupW (dCons (d2 fIxP (dVar 0) (dC (.int 2))) (dCons (d2 fIxP (dVar 0) (dC (.int 3))) (dCons (d2 fIxP (dVar 0) (dC (.int 5))) (dCons (d2 fIxP (dVar 0) (dC (.int 6))) (dNil)))))) (dgUnP 4 (dgwCons (dgN 6) (dgwCons (dgN 7) (dgwCons (dgN 8) (dgwCons (dgN 9) (dgwNil)))))))
  (dRet (dTup (dCons (dVar 2) (dCons (dVar 3) (dCons (dN fListOf (dCons (dVar 6) (dNil))) (dCons (dN fListOf (dCons (dVar 7) (dNil))) (dCons (dVar 4) (dCons (d2 fAdd (dVar 8) (dLst (dCons (dVar 1) (dNil)))) (dCons (d2 fAdd (dVar 9) (dVar 5)) (dCons (dC (.int 0)) (dNil)))))))))))

theorem rp_gone_throughL : ∀ ws m QC, C_gone_throughL ws m QC → rd_gone_throughL ⟨FinS m.length QC (.t .non), FinS m.length QC, fun _ => False, fun _ => False⟩ ⟨ws.map some ++ List.replicate (10 - ws.length) none, m.map some⟩ := by
  rintro ws m QC ⟨⟨a0, fr0, bx, tl, ch0, rw_, us, idle⟩, row, at_, ch, asked, fr, rfl, rfl, hl, hQ⟩
  dsimp only at hl
  unfold rd_gone_throughL
  walk_at "dl"
  refine i_tupW ?_
  walk_at "dl"
  refine i_ixP rfl (atI_nat (j := 2) rfl) ?_
  walk_at "dl"
  refine i_ixP rfl (atI_nat (j := 3) rfl) ?_
  walk_at "dl"
  refine i_ixP rfl (atI_nat (j := 5) rfl) ?_
  walk_at "dl"
  refine i_ixP rfl (atI_nat (j := 6) rfl) ?_
  walk_at "dl"
  refine ⟨szM rfl, ?_⟩
  refine i_unp rfl rfl ?_
  walk_at "dl"
  refine i_listOf (us := bx.map pairT) rfl ?_
  walk_at "dl"
  refine i_listOf (us := tl.map tripT) rfl ?_
  walk_at "dl"
  refine ⟨szM rfl, ?_⟩
  refine i_addL (xs := rw_.map T.int) (ys := [.int row]) rfl rfl (szN (by rw [List.length_map, List.length_singleton]; omega)) ?_
  walk_at "dl"
  refine ⟨szM rfl, ?_⟩
  unfold MS.t at hQ
  rw [List.map_append] at hQ
  exact fin_L hQ
def C_row_doneL : SC := fun ws m QC => ∃ (cs : List Ins) (s : MS) (as : List Int) (bd : Int), ws = [.t (codeT cs), .h 4, .t (.lst (as.map T.int))] ∧ m = stL s ∧ s.Ok ∧ Ans as ∧ bd ≤ 10000 ∧ stM cs s as bd = none ∧ (∃ i, cs[s.at_.toNat]? = some i ∧ i.rowy = true) ∧ QC (.t (nxM cs s as).t) (stL s) []
theorem ln_row_doneL : ∀ ws m Q, C_row_doneL ws m Q → ws.length = ["code", "state", "answers"].length := by rintro ws m Q ⟨_, _, _, _, rfl, _⟩; rfl
def rd_row_doneL : DSt :=
  dSeq (dAsg (dVar 1) (dgUnP 8 (dgwCons (dgN 3) (dgwCons (dgN 4) (dgwCons (dgN 5) (dgwCons (dgN 6) (dgwCons (dgN 7) (dgwCons (dgN 8) (dgwCons (dgN 9) (dgwCons (dgN 10) (dgwNil)))))))))))
  (dSeq (dAsg (d2 fIx (dVar 0) (dVar 3)) (dgN 11))
  (dSeq (dIfS (dB (d2 (fEq false) (d2 fIx (dVar 11) (dC (.int 0))) (dC (.str (PySem.Str.ofString "row"))))) (dRet (dCallS C_gone_throughL (dCons (dVar 1) (dCons (d2 fIx (dVar 11) (dC (.int 1))) (dCons (d2 fAdd (dVar 3) (dC (.int 1))) (dCons (dN fListOf (dCons (dVar 4) (dNil))) (dCons (dVar 7) (dCons (dC (.int 0)) (dNil))))))))) (dNext))
  (dSeq (dIfS (dB (d2 (fEq false) (d2 fIx (dVar 11) (dC (.int 0))) (dC (.str (PySem.Str.ofString "call"))))) (dSeq (dAsg (d2 fAdd (dVar 4) (dLst (dCons (dTup (dCons (d2 fAdd (dVar 3) (dC (.int 1))) (dCons (dC (.int 0)) (dCons (dVar 7) (dNil))))) (dNil)))) (dgN 12))
  (dRet (dCallS C_gone_throughL (dCons (dVar 1) (dCons (d2 fIx (dVar 11) (dC (.int 1))) (dCons (d2 fIx (dVar 11) (dC (.int 2))) (dCons (dVar 12) (dCons (d2 fAdd (dVar 7) (d2 fIx (dVar 11) (dC (.int 3)))) (dCons (dC (.int 0)) (dNil)))))))))) (dNext))
  (dSeq (dIfS (dB (d2 (fEq false) (d2 fIx (dVar 2) (dVar 9)) (dC (.int 1)))) (dRet (dCallS C_gone_throughL (dCons (dVar 1) (dCons (d2 fIx (dVar 11) (dC (.int 1))) (dCons (d2 fAdd (dVar 3) (dC (.int 1))) (dCons (dN fListOf (dCons (dVar 4) (dNil))) (dCons (dVar 7) (dCons (dC (.int 1)) (dNil))))))))) (dNext))
  (dRet (dCallS C_gone_throughL (dCons (dVar 1) (dCons (d2 fIx (dVar 11) (dC (.int 2))) (dCons (d2 fIx (dVar 11) (dC (.int 3))) (dCons (dN fListOf (dCons (dVar 4) (dNil))) (dCons (dVar 7) (dCons (dC (.int 1)) (dNil)))))))))))))

theorem rp_row_doneL : ∀ ws m QC, C_row_doneL ws m QC → rd_row_doneL ⟨FinS m.length QC (.t .non), FinS m.length QC, fun _ => False, fun _ => False⟩ ⟨ws.map some ++ List.replicate (13 - ws.length) none, m.map some⟩ := by
  rintro ws m QC ⟨cs, ⟨at_, fr, bx, tl, ch, rw_, us, idle⟩, as, bd, rfl, rfl, ok, ha, hbd, hs, ⟨i, hi, hr⟩, hQ⟩
  obtain ⟨n, hn⟩ := at_nat ok.a0
  dsimp only at hn
  subst hn
  have lf := ok.lf
  have u0 := ok.u0
  unfold stM at hs
  unfold nxM at hQ
  dsimp only at hQ hs hi lf u0
  rw [Int.toNat_natCast] at hQ hs hi
  rw [hi] at hQ hs
  dsimp only at hs
  by_cases h1 : 1000 ≤ idle
  · rw [if_pos h1] at hs; cases hs
  rw [if_neg h1] at hs
  by_cases h2 : i.rowy = true ∧ bd ≤ (rw_.length : Int)
  · rw [if_pos h2] at hs; cases hs
  rw [if_neg h2] at hs
  have hrl : (rw_.length : Int) < bd := by
    rcases Int.lt_or_le (rw_.length : Int) bd with h | h
    · exact h
    · exact absurd ⟨hr, h⟩ h2
  by_cases h3 : i.isAsk = true ∧ (as.length : Int) ≤ us
  · rw [if_pos h3] at hs; cases hs
  have hx : atI (cs.map Ins.t) (n : Int) = some i.t := atI_nat (by rw [List.getElem?_map, hi]; rfl)
  have goL : ∀ {sl : List (Option W)} {row at2 ch2 asked : Int} {fr2 : List P3}, QC (.t (MS.t ⟨at2, fr2, bx, tl, ch2, rw_ ++ [row], us + asked, 0⟩)) (stL ⟨n, fr, bx, tl, ch, rw_, us, idle⟩) [] →
      callS C_gone_throughL [.h 4, .t (.int row), .t (.int at2), .t (.lst (fr2.map tripT)), .t (.int ch2), .t (.int asked)] ⟨sl, (stL ⟨n, fr, bx, tl, ch, rw_, us, idle⟩).map some⟩ (FinS (stL ⟨n, fr, bx, tl, ch, rw_, us, idle⟩).length QC) := fun {sl row at2 ch2 asked fr2} q =>
    callS_L (n := 0) (ws0 := [.h 4, .t (.int row), .t (.int at2), .t (.lst (fr2.map tripT)), .t (.int ch2), .t (.int asked)]) rfl ⟨rfl, rfl, rfl, rfl, rfl⟩ fun QC' hq => ⟨_, row, at2, ch2, asked, fr2, rfl, rfl, by show rw_.length ≤ 10000; omega, hq _ (fin_L0 q)⟩
  unfold rd_row_doneL codeT
  cases i with
  | row r =>
    unfold Ins.t Ins.w Ins.ns at hx
    walk_at "dl"
    refine i_unp rfl rfl ?_
    walk_at "dl"
    walk_at "sq"
    walk_at "dl"
    refine i_listOf (us := fr.map tripT) rfl ?_
    walk_at "dl"
    exact goL (by rw [Int.add_zero]; exact hQ)
  | call a t z =>
    unfold Ins.t Ins.w Ins.ns at hx
    walk_at "dl"
    refine i_unp rfl rfl ?_
    walk_at "dl"
    walk_at "sq"
    walk_at "dl"
    walk_at "sq"
    walk_at "dl"
    refine ⟨szM rfl, ?_⟩
    walk_at "dl"
    refine ⟨szM rfl, ?_⟩
    refine i_addL (xs := fr.map tripT) (ys := [.tup [.int ((n : Int) + 1), .int 0, .int ch]]) rfl rfl (szN (by rw [List.length_map, List.length_singleton]; omega)) ?_
    walk_at "dl"
    have := goL (sl := [some (W.t (T.lst (List.map Ins.t cs))), some (W.h 4), some (W.t (T.lst (List.map T.int as))), some (W.t (T.int n)), some (W.h 0), some (W.h 1), some (W.h 2), some (W.t (T.int ch)), some (W.h 3), some (W.t (T.int us)), some (W.t (T.int idle)), some (W.t (T.tup [T.str (PySem.Str.ofString "call"), T.int a, T.int t, T.int z])), some (W.t (T.lst (fr.map tripT ++ [.tup [.int ((n : Int) + 1), .int 0, .int ch]])))]) (row := a) (at2 := t) (ch2 := ch + z) (asked := 0) (fr2 := fr ++ [((n : Int) + 1, 0, ch)]) (by rw [Int.add_zero]; exact hQ)
    rw [List.map_append] at this
    exact this
  | ask a b t =>
    unfold Ins.t Ins.w Ins.ns at hx
    obtain ⟨m, rfl⟩ : ∃ m : Nat, us = (m : Int) := ⟨us.toNat, (Int.toNat_of_nonneg u0).symm⟩
    have hm : m < as.length := by
      rcases Nat.lt_or_ge m as.length with h | h
      · exact h
      · exact absurd ⟨rfl, by omega⟩ h3
    have hy : atI (as.map T.int) (m : Int) = some (.int as[m]) := atI_nat (by rw [List.getElem?_map, List.getElem?_eq_getElem hm]; rfl)
    dsimp only at hQ
    rw [Int.toNat_natCast, List.getElem?_eq_getElem hm] at hQ
    walk_at "dl"
    refine i_unp rfl rfl ?_
    walk_at "dl"
    walk_at "sq"
    walk_at "dl"
    walk_at "sq"
    walk_at "dl"
    refine k_d (fun h => ?_) (fun h => ?_)
    · rw [if_pos (by rw [h])] at hQ
      walk_at "dl"
      refine i_listOf (us := fr.map tripT) rfl ?_
      walk_at "dl"
      exact goL hQ
    · rw [if_neg (fun z => h (Option.some.inj z))] at hQ
      walk_at "dl"
      refine i_listOf (us := fr.map tripT) rfl ?_
      walk_at "dl"
      exact goL hQ
  | _ => cases hr
/-! a tuple that goes through no row, over a state that lives; a step -/
local macro_rules | `(tactic| walk_at "sq") => `(tactic| (refine i_eqS ?_; (try walk_at "dl"); first | refine k_dT trivial ?_ | refine k_dT rfl ?_ | refine k_dF (by decide +kernel) ?_ | skip))
def C_other_doneL : SC := fun ws mm QC => ∃ (cs : List Ins) (s : MS) (as : List Int) (bd : Int), ws = [.t (codeT cs), .h 4] ∧ mm = stL s ∧ s.Ok ∧ s.rw_.length ≤ 10000 ∧ stM cs s as bd = none ∧ (∃ i, cs[s.at_.toNat]? = some i ∧ i.rowy = false) ∧ QC (.t (nxM cs s as).t) (stL s) []
theorem ln_other_doneL : ∀ ws m Q, C_other_doneL ws m Q → ws.length = ["code", "state"].length := by rintro ws m Q ⟨_, _, _, _, rfl, _⟩; rfl
def rd_other_doneL : DSt :=
  dSeq (dAsg (dVar 1) (dgUnP 8 (dgwCons (dgN 2) (dgwCons (dgN 3) (dgwCons (dgN 4) (dgwCons (dgN 5) (dgwCons (dgN 6) (dgwCons (dgN 7) (dgwCons (dgN 8) (dgwCons (dgN 9) (dgwNil)))))))))))
  (dSeq (dAsg (d2 fIx (dVar 0) (dVar 2)) (dgN 10))
  (dSeq (dAsg (d2 fIx (dVar 3) (d1 fNeg (dC (.int 1)))) (dgTup 3 (dgCons (dgN 11) (dgCons (dgN 12) (dgCons (dgN 13) (dgNil))))))
  (dSeq (dAsg (d2 fAdd (dVar 2) (dC (.int 1))) (dgN 14))
  (dSeq (dAsg (dN fListOfH (dCons (dVar 3) (dNil))) (dgN 3))
  (dSeq (dAsg (dN fListOfH (dCons (dVar 5) (dNil))) (dgN 5))
  (dSeq (dAsg (dN fListOf (dCons (dVar 4) (dNil))) (dgN 4))
  (dSeq (dIfS (dB (d2 (fEq false) (d2 fIx (dVar 10) (dC (.int 0))) (dC (.str (PySem.Str.ofString "jump"))))) (dAsg (d2 fIx (dVar 10) (dC (.int 1))) (dgN 14)) (dNext))
  (dSeq (dIfS (dB (d2 (fEq false) (d2 fIx (dVar 10) (dC (.int 0))) (dC (.str (PySem.Str.ofString "count"))))) (dAsg (dCallT C_one_more (dCons (dVar 4) (dCons (d2 fIx (dVar 10) (dC (.int 1))) (dNil)))) (dgN 4)) (dNext))
  (dSeq (dIfS (dB (d2 (fEq false) (d2 fIx (dVar 10) (dC (.int 0))) (dC (.str (PySem.Str.ofString "add"))))) (dAsg (dTup (dCons (dVar 11) (dCons (d2 fAdd (dVar 12) (d2 fIx (dVar 10) (dC (.int 1)))) (dCons (dVar 13) (dNil))))) (dgSub (dVar 3) (d1 fNeg (dC (.int 1))))) (dNext))
  (dSeq (dIfS (dB (d2 (fEq false) (d2 fIx (dVar 10) (dC (.int 0))) (dC (.str (PySem.Str.ofString "tell"))))) (dSeq (dDrop (dM fAppend (dVar 5) (dCons (dTup (dCons (d2 fIx (dVar 10) (dC (.int 1))) (dCons (dVar 6) (dCons (dVar 12) (dNil))))) (dNil))))
  (dAsg (dTup (dCons (dVar 11) (dCons (d2 fIx (dVar 10) (dC (.int 2))) (dCons (dVar 13) (dNil))))) (dgSub (dVar 3) (d1 fNeg (dC (.int 1)))))) (dNext))
  (dSeq (dIfS (dB (d2 (fEq false) (d2 fIx (dVar 10) (dC (.int 0))) (dC (.str (PySem.Str.ofString "back"))))) (dSeq (dDrop (dM0 fPop (dVar 3)))
  (dSeq (dAsg (dVar 13) (dgN 6))
  (dAsg (dVar 11) (dgN 14)))) (dNext))
  (dRet (dTup (dCons (dVar 14) (dCons (dFrz 3) (dCons (dVar 4) (dCons (dFrz 5) (dCons (dVar 6) (dCons (dN fListOf (dCons (dVar 7) (dNil))) (dCons (dVar 8) (dCons (d2 fAdd (dVar 9) (dC (.int 1))) (dNil))))))))))))))))))))))

theorem rp_other_doneL : ∀ ws mm QC, C_other_doneL ws mm QC → rd_other_doneL ⟨FinS mm.length QC (.t .non), FinS mm.length QC, fun _ => False, fun _ => False⟩ ⟨ws.map some ++ List.replicate (15 - ws.length) none, mm.map some⟩ := by
  rintro ws mm QC ⟨cs, ⟨at_, fr, bx, tl, ch, rw_, us, idle⟩, as, bd, rfl, rfl, ok, hrl, hs, ⟨i, hi, hr⟩, hQ⟩
  obtain ⟨n, hn⟩ := at_nat ok.a0
  dsimp only at hn
  subst hn
  have lf := ok.lf
  have lb := ok.lb
  have lt := ok.lt
  have i1 := ok.i1
  have hbx := ok.bx
  obtain ⟨⟨l, m, k⟩, hx0⟩ : ∃ x, fr.getLast? = some x := by
    cases e : fr.getLast? with
    | none => exact absurd (List.getLast?_eq_none_iff.mp e) ok.fne
    | some x => exact ⟨x, rfl⟩
  obtain ⟨r, rfl⟩ := snoc_last hx0
  unfold stM at hs
  unfold nxM at hQ
  dsimp only at hQ hs hi lf lb lt hrl hbx i1
  rw [Int.toNat_natCast] at hQ hs hi
  rw [hi, hx0] at hQ
  rw [hi] at hs
  dsimp only at hs
  have hset : ∀ y : P3, (setL (r ++ [(l, m, k)]) y).map tripT = ((r ++ [(l, m, k)]).map tripT).set r.length (tripT y) := fun y => by
    unfold setL
    rw [List.dropLast_concat, List.map_append, List.map_append, List.set_append_right _ _ (by rw [List.length_map]; exact Nat.le_refl _), List.length_map, Nat.sub_self]
    rfl
  have hla : atI ((r ++ [(l, m, k)]).map tripT) (-1) = some (tripT (l, m, k)) := by rw [List.map_append]; exact atI_m1 _ _
  have hx : atI (cs.map Ins.t) (n : Int) = some i.t := atI_nat (by rw [List.getElem?_map, hi]; rfl)
  unfold rd_other_doneL codeT
  cases i with
  | jump t =>
    unfold Ins.t Ins.w Ins.ns at hx
    walk_at "dl"
    refine i_unp rfl rfl ?_
    walk_at "dl"
    refine i_listOfH (us := (r ++ [(l, m, k)]).map tripT) rfl ?_
    walk_at "dl"
    refine i_listOfH (us := tl.map tripT) rfl ?_
    walk_at "dl"
    refine i_listOf (us := bx.map pairT) rfl ?_
    walk_at "dl"
    walk_at "sq"
    walk_at "dl"
    walk_at "sq"
    walk_at "dl"
    walk_at "sq"
    walk_at "dl"
    walk_at "sq"
    walk_at "dl"
    walk_at "sq"
    walk_at "dl"
    refine i_listOf (us := rw_.map T.int) rfl ?_
    walk_at "dl"
    refine ⟨szM rfl, ?_⟩
    unfold MS.t at hQ
    exact fin_L (gar := [_, _]) hQ
  | count n1 =>
    unfold Ins.t Ins.w Ins.ns at hx
    walk_at "dl"
    refine i_unp rfl rfl ?_
    walk_at "dl"
    refine i_listOfH (us := (r ++ [(l, m, k)]).map tripT) rfl ?_
    walk_at "dl"
    refine i_listOfH (us := tl.map tripT) rfl ?_
    walk_at "dl"
    refine i_listOf (us := bx.map pairT) rfl ?_
    walk_at "dl"
    walk_at "sq"
    walk_at "dl"
    walk_at "sq"
    walk_at "dl"
    refine ⟨bx, n1, rfl, hbx, Nat.lt_of_le_of_lt (show bx.length ≤ 11000000 by omega) (by show 11000000 < sizeLine; decide), ?_⟩
    walk_at "dl"
    walk_at "sq"
    walk_at "dl"
    walk_at "sq"
    walk_at "dl"
    walk_at "sq"
    walk_at "dl"
    refine i_listOf (us := rw_.map T.int) rfl ?_
    walk_at "dl"
    refine ⟨szM rfl, ?_⟩
    unfold MS.t at hQ
    exact fin_L (gar := [_, _]) hQ
  | add z =>
    unfold Ins.t Ins.w Ins.ns at hx
    walk_at "dl"
    refine i_unp rfl rfl ?_
    walk_at "dl"
    refine i_listOfH (us := (r ++ [(l, m, k)]).map tripT) rfl ?_
    walk_at "dl"
    refine i_listOfH (us := tl.map tripT) rfl ?_
    walk_at "dl"
    refine i_listOf (us := bx.map pairT) rfl ?_
    walk_at "dl"
    walk_at "sq"
    walk_at "dl"
    walk_at "sq"
    walk_at "dl"
    walk_at "sq"
    walk_at "dl"
    refine ⟨szM rfl, ?_⟩
    walk_at "dl"
    refine ⟨r.length, by rw [List.length_map, List.length_append]; exact ixN_m1, ?_⟩
    rw [← hset (l, m + z, k)]
    walk_at "dl"
    walk_at "sq"
    walk_at "dl"
    walk_at "sq"
    walk_at "dl"
    refine i_listOf (us := rw_.map T.int) rfl ?_
    walk_at "dl"
    refine ⟨szM rfl, ?_⟩
    unfold MS.t at hQ
    exact fin_L (gar := [_, _]) hQ
  | tell n1 z =>
    unfold Ins.t Ins.w Ins.ns at hx
    walk_at "dl"
    refine i_unp rfl rfl ?_
    walk_at "dl"
    refine i_listOfH (us := (r ++ [(l, m, k)]).map tripT) rfl ?_
    walk_at "dl"
    refine i_listOfH (us := tl.map tripT) rfl ?_
    walk_at "dl"
    refine i_listOf (us := bx.map pairT) rfl ?_
    walk_at "dl"
    walk_at "sq"
    walk_at "dl"
    walk_at "sq"
    walk_at "dl"
    walk_at "sq"
    walk_at "dl"
    walk_at "sq"
    walk_at "dl"
    refine ⟨trivial, ?_⟩
    walk_at "dl"
    refine ⟨szM rfl, ?_⟩
    walk_at "dl"
    refine i_append rfl (Nat.lt_of_le_of_lt (show (tl.map tripT).length ≤ 11000000 by rw [List.length_map]; omega) (by show 11000000 < sizeLine; decide)) ?_
    walk_at "dl"
    refine ⟨szM rfl, ?_⟩
    walk_at "dl"
    refine ⟨r.length, by rw [List.length_map, List.length_append]; exact ixN_m1, ?_⟩
    rw [← hset (l, z, k)]
    walk_at "dl"
    walk_at "sq"
    walk_at "dl"
    refine i_listOf (us := rw_.map T.int) rfl ?_
    walk_at "dl"
    refine ⟨szM rfl, ?_⟩
    unfold MS.t at hQ
    rw [List.map_append] at hQ
    exact fin_L (gar := [_, _]) hQ
  | back =>
    unfold Ins.t Ins.w Ins.ns at hx
    walk_at "dl"
    refine i_unp rfl rfl ?_
    walk_at "dl"
    refine i_listOfH (us := (r ++ [(l, m, k)]).map tripT) rfl ?_
    walk_at "dl"
    refine i_listOfH (us := tl.map tripT) rfl ?_
    walk_at "dl"
    refine i_listOf (us := bx.map pairT) rfl ?_
    walk_at "dl"
    walk_at "sq"
    walk_at "dl"
    walk_at "sq"
    walk_at "dl"
    walk_at "sq"
    walk_at "dl"
    walk_at "sq"
    walk_at "dl"
    walk_at "sq"
    walk_at "dl"
    refine ⟨trivial, ?_⟩
    walk_at "dl"
    refine i_pop (x := tripT (l, m, k)) rfl ?_ ?_
    · rw [List.map_append]
      simp
    walk_at "dl"
    refine i_listOf (us := rw_.map T.int) rfl ?_
    walk_at "dl"
    refine ⟨szM rfl, ?_⟩
    unfold MS.t at hQ
    dsimp only at hQ
    rw [List.map_dropLast] at hQ
    exact fin_L (gar := [_, _]) hQ
  | _ => cases hr
/-! a step over a state that lives -/
def C_steppedL : SC := fun ws mm QC => ∃ (cs : List Ins) (s : MS) (as : List Int) (bd : Int), ws = [.t (codeT cs), .h 4, .t (.lst (as.map T.int)), .t (.int bd)] ∧ mm = stL s ∧ s.Ok ∧ Ans as ∧ (s.rw_.length : Int) ≤ bd ∧ bd ≤ 10000 ∧ QC (.t (stpT cs s as bd)) (stL s) []
theorem ln_steppedL : ∀ ws m Q, C_steppedL ws m Q → ws.length = ["code", "state", "answers", "bound"].length := by rintro ws m Q ⟨_, _, _, _, rfl, _⟩; rfl
theorem wT_flat (o : Option Wd) : (wT o).isFlat = true := by cases o <;> rfl
def rd_steppedL : DSt :=
  dSeq (dAsg (dCallN C_stands (dCons (dVar 0) (dCons (dVar 1) (dCons (dVar 2) (dCons (dVar 3) (dNil)))))) (dgN 4))
  (dSeq (dIfS (dB (d1 (fNone true) (dVar 4))) (dRet (dVar 4)) (dNext))
  (dSeq (dIfS (dB (d2 (fIn false) (d2 fIx (d2 fIx (dVar 0) (d2 fIxP (dVar 1) (dC (.int 0)))) (dC (.int 0))) (dLst (dCons (dC (.str (PySem.Str.ofString "row"))) (dCons (dC (.str (PySem.Str.ofString "ask"))) (dCons (dC (.str (PySem.Str.ofString "call"))) (dNil))))))) (dRet (dCallS C_row_doneL (dCons (dVar 0) (dCons (dVar 1) (dCons (dVar 2) (dNil)))))) (dNext))
  (dRet (dCallS C_other_doneL (dCons (dVar 0) (dCons (dVar 1) (dNil)))))))

theorem rp_steppedL : ∀ ws mm QC, C_steppedL ws mm QC → rd_steppedL ⟨FinS mm.length QC (.t .non), FinS mm.length QC, fun _ => False, fun _ => False⟩ ⟨ws.map some ++ List.replicate (5 - ws.length) none, mm.map some⟩ := by
  rintro ws mm QC ⟨cs, s, as, bd, rfl, rfl, ok, ha, hr, hb, hQ⟩
  unfold rd_steppedL
  walk_at "dl"
  refine i_callN ?_
  walk_at "dl"
  refine o_nest (us := [codeT cs, s.t, .lst (as.map T.int), .int bd]) rfl ?_
  refine ⟨cs, s, as, bd, rfl, ok, o_ftT (wT_flat _) ?_⟩
  walk_at "dl"
  unfold stpT at hQ
  cases hs : stM cs s as bd with
  | some w =>
    rw [hs] at hQ
    refine i_none rfl ?_
    walk_at "dl"
    exact fin_L0 hQ
  | none =>
    rw [hs] at hQ
    dsimp only at hQ
    refine i_none rfl ?_
    walk_at "dl"
    obtain ⟨i, hi⟩ := stM_some hs
    obtain ⟨n, hn⟩ := at_nat ok.a0
    have hx : atI (cs.map Ins.t) s.at_ = some i.t := by
      rw [hn]
      rw [hn, Int.toNat_natCast] at hi
      exact atI_nat (by rw [List.getElem?_map, hi]; rfl)
    have hw : atI (T.str i.w :: i.ns.map T.int) 0 = some (.str i.w) := atI_nat (j := 0) rfl
    rw [show (if True then !(W.t (wT none)).isN else (W.t (wT none)).isN) = false from rfl]
    walk_at "dl"
    refine i_ixP rfl (atI_nat (j := 0) rfl) ?_
    walk_at "dl"
    refine ⟨szM rfl, ?_⟩
    refine i_in rfl rfl (fun t ht => ?_) ?_
    · rcases List.mem_cons.mp ht with rfl | ht
      · rfl
      rcases List.mem_cons.mp ht with rfl | ht
      · rfl
      rcases List.mem_cons.mp ht with rfl | ht
      · rfl
      · cases ht
    rw [rowyW]
    cases hr2 : i.rowy with
    | true =>
      walk_at "dl"
      exact callS_L (n := 0) (ws0 := [.t (codeT cs), .h 4, .t (.lst (as.map T.int))]) rfl ⟨rfl, rfl, rfl, rfl, rfl⟩ fun QC' hq => ⟨cs, s, as, bd, rfl, rfl, ok, ha, hb, hs, ⟨i, hi, hr2⟩, hq _ (fin_L0 hQ)⟩
    | false =>
      walk_at "dl"
      exact callS_L (n := 0) (ws0 := [.t (codeT cs), .h 4]) rfl ⟨rfl, rfl, rfl, rfl, rfl⟩ fun QC' hq => ⟨cs, s, as, bd, rfl, rfl, ok, by omega, hs, ⟨i, hi, hr2⟩, hq _ (fin_L0 hQ)⟩
def C_stepL : SC := fun ws mm QC => ∃ (cs : List Ins) (s : MS) (as : List Int) (bd : Int), ws = [.t (codeT cs), .h 4, .t (.lst (as.map T.int)), .t (.int bd)] ∧ mm = stL s ∧ CodeOk cs ∧ s.Ok ∧ Ans as ∧ (s.rw_.length : Int) ≤ bd ∧ bd ≤ 10000 ∧ QC (.t (stpT cs s as bd)) (stL s) []
theorem ln_stepL : ∀ ws m Q, C_stepL ws m Q → ws.length = ["code", "state", "answers", "bound"].length := by rintro ws m Q ⟨_, _, _, _, rfl, _⟩; rfl
def rd_stepL : DSt :=
  dSeq (dDrop (dCallT C_look_code (dCons (dVar 0) (dNil))))
  (dSeq (dDrop (dCallT C_look_answers (dCons (dVar 2) (dCons (dVar 3) (dNil)))))
  (dRet (dCallS C_steppedL (dCons (dVar 0) (dCons (dVar 1) (dCons (dVar 2) (dCons (dVar 3) (dNil))))))))

theorem rp_stepL : ∀ ws mm QC, C_stepL ws mm QC → rd_stepL ⟨FinS mm.length QC (.t .non), FinS mm.length QC, fun _ => False, fun _ => False⟩ ⟨ws.map some ++ List.replicate (4 - ws.length) none, mm.map some⟩ := by
  rintro ws mm QC ⟨cs, s, as, bd, rfl, rfl, hc, ok, ha, hr, hb, hQ⟩
  unfold rd_stepL
  walk_at "dl"
  refine hc.look ?_
  walk_at "dl"
  refine ⟨as, bd, rfl, ha, by omega, ?_⟩
  walk_at "dl"
  exact callS_L (n := 0) (ws0 := [.t (codeT cs), .h 4, .t (.lst (as.map T.int)), .t (.int bd)]) rfl ⟨rfl, rfl, rfl, rfl, rfl⟩ fun QC' hq => ⟨cs, s, as, bd, rfl, rfl, ok, ha, hr, hb, hq _ (fin_L0 hQ)⟩
/-! the law copies a state -/
def C__law_copy : SC := fun ws m QC => ∃ s : MS, ws = [.t s.t] ∧ m = [] ∧ QC (.h 4) [] (stL s)
theorem ln__law_copy : ∀ ws m Q, C__law_copy ws m Q → ws.length = ["_law_state"].length := by rintro ws m Q ⟨_, rfl, _⟩; rfl
def rd__law_copy : DSt :=
  dRet (dN fTupOfW (dCons (dLc finW (diT (dVar 0)) (dgN 1) (dYes) (dIf (dB (dN fIsi (dCons (dVar 1) (dCons (dC (.raw (.ty "list"))) (dNil))))) (dN fListOfH (dCons (dVar 1) (dNil))) (dVar 1)) [1]) (dNil)))

theorem rp__law_copy : ∀ ws m QC, C__law_copy ws m QC → rd__law_copy ⟨FinS m.length QC (.t .non), FinS m.length QC, fun _ => False, fun _ => False⟩ ⟨ws.map some ++ List.replicate (2 - ws.length) none, m.map some⟩ := by
  rintro ws m QC ⟨s, rfl, rfl, hQ⟩
  unfold rd__law_copy
  walk_at "dl"
  have step : ∀ (x : T) (c c' : List Cell) (y : W), (∃ k, x = .int k ∧ y = .t (.int k) ∧ c' = c) ∨ (∃ us, x = .lst us ∧ y = .h c.length ∧ c' = c ++ [.lt us]) → ∀ (J : W → G → Prop) (N : G → Prop), J y ⟨[some (.t s.t), none], c'.map some⟩ →
      dgN 1 (.t x) ⟨[some (.t s.t), none], c.map some⟩ fun g2 => dYes g2 fun b g3 => if b = true then (dIf (dB (dN fIsi (dCons (dVar 1) (dCons (dC (.raw (.ty "list"))) (dNil))))) (dN fListOfH (dCons (dVar 1) (dNil))) (dVar 1)) g3 (fun y g4 => J y (g4.wipe [1])) else N g3 := by
    intro x c c' y h J N hJ
    rcases h with ⟨k, rfl, rfl, rfl⟩ | ⟨us, rfl, rfl, rfl⟩
    · walk_at "dl"
      refine i_isi (a := "int") (b := false) rfl rfl ?_
      walk_at "dl"
      exact hJ
    · walk_at "dl"
      refine i_isi (a := "list") (b := true) rfl rfl ?_
      walk_at "dl"
      refine i_listOfH (us := us) rfl ?_
      rw [List.map_append] at hJ
      rw [show ((c.map some).length : Nat) = c.length from List.length_map ..]
      exact hJ
  obtain ⟨at_, fr, bx, tl, ch, rw_, us, idle⟩ := s
  show lcI finW (([.int at_, .lst (fr.map tripT), .lst (bx.map pairT), .lst (tl.map tripT), .int ch, .lst (rw_.map T.int), .int us, .int idle] : List T).map W.t) (fun _ => True) ⟨[some (W.t (MS.t ⟨at_, fr, bx, tl, ch, rw_, us, idle⟩)), none], []⟩ (dgN 1) dYes _ [1] _
  let Fw : List W := [.t (.int at_), .h 0, .h 1, .h 2, .t (.int ch), .h 3, .t (.int us), .t (.int idle)]
  let Cs : List Cell := [.lt (fr.map tripT), .lt (bx.map pairT), .lt (tl.map tripT), .lt (rw_.map T.int)]
  let I : Nat → List W → G → Prop := fun i acc g' => acc = Fw.take i ∧ g' = ⟨[some (W.t (MS.t ⟨at_, fr, bx, tl, ch, rw_, us, idle⟩)), none], (Cs.take ([0, 0, 1, 2, 3, 3, 4, 4, 4].getD i 4)).map some⟩
  refine ⟨I, ⟨rfl, rfl⟩, ?_, ?_, szM rfl, ?_⟩
  · rintro i acc g' ⟨rfl, rfl⟩
    exact ⟨trivial, by rw [List.length_take]; exact Nat.min_le_left _ _⟩
  · rintro i acc w g' hw ⟨rfl, rfl⟩
    match i, hw with
    | 0, hw => cases hw; exact step (.int at_) (Cs.take 0) (Cs.take 0) (.t (.int at_)) (.inl ⟨_, rfl, rfl, rfl⟩) (fun y g => I 1 (Fw.take 0 ++ [y]) g) (fun g => I 1 (Fw.take 0) (g.wipe [1])) ⟨rfl, rfl⟩
    | 1, hw => cases hw; exact step (.lst (fr.map tripT)) (Cs.take 0) (Cs.take 1) (.h 0) (.inr ⟨_, rfl, rfl, rfl⟩) (fun y g => I 2 (Fw.take 1 ++ [y]) g) (fun g => I 2 (Fw.take 1) (g.wipe [1])) ⟨rfl, rfl⟩
    | 2, hw => cases hw; exact step (.lst (bx.map pairT)) (Cs.take 1) (Cs.take 2) (.h 1) (.inr ⟨_, rfl, rfl, rfl⟩) (fun y g => I 3 (Fw.take 2 ++ [y]) g) (fun g => I 3 (Fw.take 2) (g.wipe [1])) ⟨rfl, rfl⟩
    | 3, hw => cases hw; exact step (.lst (tl.map tripT)) (Cs.take 2) (Cs.take 3) (.h 2) (.inr ⟨_, rfl, rfl, rfl⟩) (fun y g => I 4 (Fw.take 3 ++ [y]) g) (fun g => I 4 (Fw.take 3) (g.wipe [1])) ⟨rfl, rfl⟩
    | 4, hw => cases hw; exact step (.int ch) (Cs.take 3) (Cs.take 3) (.t (.int ch)) (.inl ⟨_, rfl, rfl, rfl⟩) (fun y g => I 5 (Fw.take 4 ++ [y]) g) (fun g => I 5 (Fw.take 4) (g.wipe [1])) ⟨rfl, rfl⟩
    | 5, hw => cases hw; exact step (.lst (rw_.map T.int)) (Cs.take 3) (Cs.take 4) (.h 3) (.inr ⟨_, rfl, rfl, rfl⟩) (fun y g => I 6 (Fw.take 5 ++ [y]) g) (fun g => I 6 (Fw.take 5) (g.wipe [1])) ⟨rfl, rfl⟩
    | 6, hw => cases hw; exact step (.int us) (Cs.take 4) (Cs.take 4) (.t (.int us)) (.inl ⟨_, rfl, rfl, rfl⟩) (fun y g => I 7 (Fw.take 6 ++ [y]) g) (fun g => I 7 (Fw.take 6) (g.wipe [1])) ⟨rfl, rfl⟩
    | 7, hw => cases hw; exact step (.int idle) (Cs.take 4) (Cs.take 4) (.t (.int idle)) (.inl ⟨_, rfl, rfl, rfl⟩) (fun y g => I 8 (Fw.take 7 ++ [y]) g) (fun g => I 8 (Fw.take 7) (g.wipe [1])) ⟨rfl, rfl⟩
    | n + 8, hw => cases hw
  · rintro acc g' ⟨rfl, rfl⟩
    show fTupOfW ⟨[some (W.t (MS.t ⟨at_, fr, bx, tl, ch, rw_, us, idle⟩)), none], Cs.map some ++ [some (.lw Fw)]⟩ [.h 4] (FinS 0 QC)
    refine i_tupOfW (us := Fw) rfl ?_
    refine fin_s (n0 := 0) [0, 1, 2, 3, 5] [] (stL ⟨at_, fr, bx, tl, ch, rw_, us, idle⟩) (.h 4) (by decide) (fun j hj => ?_) rfl rfl rfl (fun i c e => ?_) hQ
    · simp at hj
      show j < 6
      omega
    · match i, e with
      | 0, e => cases e; exact ⟨0, _, rfl, rfl, rfl⟩
      | 1, e => cases e; exact ⟨1, _, rfl, rfl, rfl⟩
      | 2, e => cases e; exact ⟨2, _, rfl, rfl, rfl⟩
      | 3, e => cases e; exact ⟨3, _, rfl, rfl, rfl⟩
      | 4, e => cases e; exact ⟨5, _, rfl, rfl, rfl⟩
      | j + 5, e => cases e
/-! the law's own machine -/
local macro_rules | `(tactic| walk_at "sq") => `(tactic| (refine i_eqS ?_; (try walk_at "dl"); first | refine k_dT trivial ?_ | refine k_dT rfl ?_ | refine k_dF (by decide +kernel) ?_ | skip))
theorem astW (i : Ins) : decide (i.w = PySem.Str.ofString "astray") = false := by cases i <;> (refine decide_eq_false ?_; simp only [Ins.w]; decide +kernel)
def C__law_still : PC := fun ts Q => ∃ (cs : List Ins) (s : MS) (as : List Int) (bd : Int), ts = [codeT cs, s.t, .lst (as.map T.int), .int bd] ∧ s.Ok ∧ Q (.t (wT (stM cs s as bd)))
theorem ln__law_still : ∀ ts Q, C__law_still ts Q → ts.length = ["_law_code", "_law_state", "_law_answers", "_law_bound"].length := by rintro ts Q ⟨_, _, _, _, rfl, _⟩; rfl
def rd__law_still : DSt :=
  dSeq (dAsg (dC (.str (PySem.Str.ofString "astray"))) (dgN 4))
  (dSeq (dIfS (dB (d2 (fI0 fun i j => .bl (decide (i < j))) (d2 fIx (dVar 1) (dC (.int 0))) (dN fLen (dCons (dVar 0) (dNil))))) (dAsg (d2 fIx (d2 fIx (dVar 0) (d2 fIx (dVar 1) (dC (.int 0)))) (dC (.int 0))) (dgN 4)) (dNext))
  (dSeq (dIfS (dOr (dB (d2 (fEq false) (dVar 4) (dC (.str (PySem.Str.ofString "astray"))))) (dB (d2 (fI0 fun i j => .bl (decide (j < i))) (d2 fIx (dVar 1) (dC (.int 7))) (dC (.int 999))))) (dRet (dC (.str (PySem.Str.ofString "astray")))) (dNext))
  (dSeq (dIfS (dAnd (dB (d2 (fIn false) (dVar 4) (dTup (dCons (dC (.str (PySem.Str.ofString "row"))) (dCons (dC (.str (PySem.Str.ofString "ask"))) (dCons (dC (.str (PySem.Str.ofString "call"))) (dNil))))))) (dB (d2 (fI0 fun i j => .bl (decide (j ≤ i))) (dN fLen (dCons (d2 fIx (dVar 1) (dC (.int 5))) (dNil))) (dVar 3)))) (dRet (dC (.str (PySem.Str.ofString "bound")))) (dNext))
  (dSeq (dIfS (dAnd (dB (d2 (fEq false) (dVar 4) (dC (.str (PySem.Str.ofString "ask"))))) (dB (d2 (fI0 fun i j => .bl (decide (j ≤ i))) (d2 fIx (dVar 1) (dC (.int 6))) (dN fLen (dCons (dVar 2) (dNil)))))) (dRet (dC (.str (PySem.Str.ofString "wanting")))) (dNext))
  (dSeq (dIfS (dAnd (dB (d2 (fEq false) (dVar 4) (dC (.str (PySem.Str.ofString "back"))))) (dB (d2 (fI0 fun i j => .bl (decide (i < j))) (dN fLen (dCons (d2 fIx (dVar 1) (dC (.int 1))) (dNil))) (dC (.int 2))))) (dRet (dC (.str (PySem.Str.ofString "ended")))) (dNext))
  (dRet (dC .non)))))))

def rdsk4 : DSt :=
  dSeq (dIfS (dAnd (dB (d2 (fEq false) (dVar 4) (dC (.str (PySem.Str.ofString "ask"))))) (dB (d2 (fI0 fun i j => .bl (decide (j ≤ i))) (d2 fIx (dVar 1) (dC (.int 6))) (dN fLen (dCons (dVar 2) (dNil)))))) (dRet (dC (.str (PySem.Str.ofString "wanting")))) (dNext))
  (dSeq (dIfS (dAnd (dB (d2 (fEq false) (dVar 4) (dC (.str (PySem.Str.ofString "back"))))) (dB (d2 (fI0 fun i j => .bl (decide (i < j))) (dN fLen (dCons (d2 fIx (dVar 1) (dC (.int 1))) (dNil))) (dC (.int 2))))) (dRet (dC (.str (PySem.Str.ofString "ended")))) (dNext))
  (dRet (dC .non)))

def rdsk5 : DSt :=
  dSeq (dIfS (dAnd (dB (d2 (fEq false) (dVar 4) (dC (.str (PySem.Str.ofString "back"))))) (dB (d2 (fI0 fun i j => .bl (decide (i < j))) (dN fLen (dCons (d2 fIx (dVar 1) (dC (.int 1))) (dNil))) (dC (.int 2))))) (dRet (dC (.str (PySem.Str.ofString "ended")))) (dNext))
  (dRet (dC .non))

theorem rp__law_still : ∀ ts Q, C__law_still ts Q → rd__law_still ⟨FinP Q (.t .non), FinP Q, fun _ => False, fun _ => False⟩ ⟨ts.map (fun t => some (W.t t)) ++ List.replicate (5 - ts.length) none, []⟩ := by
  rintro ts Q ⟨cs, ⟨at_, fr, bx, tl, ch, rw_, us, idle⟩, as, bd, rfl, ok, hQ⟩
  obtain ⟨n, hn⟩ := at_nat ok.a0
  dsimp only at hn
  subst hn
  have fne := List.length_pos_iff.mpr ok.fne
  dsimp only at fne
  unfold stM at hQ
  dsimp only at hQ
  rw [Int.toNat_natCast] at hQ
  unfold rd__law_still codeT MS.t
  walk_at "dl"
  refine k_d (fun h => ?_) (fun h => ?_)
  · rw [List.length_map] at h
    have hlt : n < cs.length := by omega
    rw [List.getElem?_eq_getElem hlt] at hQ
    dsimp only at hQ
    have hx : atI (cs.map Ins.t) (n : Int) = some cs[n].t := atI_nat (by rw [List.getElem?_map, List.getElem?_eq_getElem hlt]; rfl)
    generalize cs[n] = i at hQ hx
    have h0 : atI (T.str i.w :: i.ns.map T.int) 0 = some (.str i.w) := atI_nat (j := 0) rfl
    walk_at "dl"
    refine i_eqS ?_
    rw [astW]
    walk_at "dl"
    refine k_d (fun h1 => ?_) (fun h1 => ?_)
    · rw [if_pos (by omega)] at hQ
      walk_at "dl"
      exact hQ
    rw [if_neg (by omega)] at hQ
    walk_at "dl"
    refine ⟨szM rfl, ?_⟩
    refine i_in rfl rfl (fun t ht => ?_) ?_
    · rcases List.mem_cons.mp ht with rfl | ht
      · rfl
      rcases List.mem_cons.mp ht with rfl | ht
      · rfl
      rcases List.mem_cons.mp ht with rfl | ht
      · rfl
      · cases ht
    rw [rowyW]
    have rest2 : Q (.t (wT (if i.isBack = true ∧ fr.length = 1 then some .ended else none))) → rdsk5 ⟨FinP Q (.t .non), FinP Q, fun _ => False, fun _ => False⟩ ⟨[some (W.t (T.lst (List.map Ins.t cs))), some (W.t (T.tup [T.int (n : Int), T.lst (List.map tripT fr), T.lst (List.map pairT bx), T.lst (List.map tripT tl), T.int ch, T.lst (List.map T.int rw_), T.int us, T.int idle])), some (W.t (T.lst (List.map T.int as))), some (W.t (T.int bd)), some (W.t (T.str i.w))], []⟩ := by
      intro hQ
      unfold rdsk5
      walk_at "dl"
      refine i_eqS ?_
      rw [backW]
      walk_at "dl"
      cases hb : i.isBack with
      | false =>
        rw [hb, if_neg (fun z => Bool.false_ne_true z.1)] at hQ
        walk_at "dl"
        exact hQ
      | true =>
        rw [hb] at hQ
        walk_at "dl"
        refine k_d (fun h => ?_) (fun h => ?_)
        · rw [List.length_map] at h
          rw [if_pos ⟨rfl, by omega⟩] at hQ
          walk_at "dl"
          exact hQ
        · rw [List.length_map] at h
          rw [if_neg (fun z => h (by omega))] at hQ
          walk_at "dl"
          exact hQ
    have rest : Q (.t (wT (if i.isAsk = true ∧ (as.length : Int) ≤ us then some .wanting else if i.isBack = true ∧ fr.length = 1 then some .ended else none))) → rdsk4 ⟨FinP Q (.t .non), FinP Q, fun _ => False, fun _ => False⟩ ⟨[some (W.t (T.lst (List.map Ins.t cs))), some (W.t (T.tup [T.int (n : Int), T.lst (List.map tripT fr), T.lst (List.map pairT bx), T.lst (List.map tripT tl), T.int ch, T.lst (List.map T.int rw_), T.int us, T.int idle])), some (W.t (T.lst (List.map T.int as))), some (W.t (T.int bd)), some (W.t (T.str i.w))], []⟩ := by
      intro hQ
      unfold rdsk4
      walk_at "dl"
      refine i_eqS ?_
      rw [askW]
      walk_at "dl"
      cases ha : i.isAsk with
      | false =>
        rw [ha, if_neg (fun z => Bool.false_ne_true z.1)] at hQ
        walk_at "dl"
        exact rest2 hQ
      | true =>
        rw [ha] at hQ
        walk_at "dl"
        refine k_d (fun h => ?_) (fun h => ?_)
        · rw [List.length_map] at h
          rw [if_pos ⟨rfl, by omega⟩] at hQ
          walk_at "dl"
          exact hQ
        · rw [List.length_map] at h
          rw [if_neg (fun z => h (by omega))] at hQ
          exact rest2 hQ
    cases hr : i.rowy with
    | false =>
      rw [hr, if_neg (fun z => Bool.false_ne_true z.1)] at hQ
      walk_at "dl"
      exact rest hQ
    | true =>
      rw [hr] at hQ
      walk_at "dl"
      refine k_d (fun h => ?_) (fun h => ?_)
      · rw [List.length_map] at h
        rw [if_pos ⟨rfl, by omega⟩] at hQ
        walk_at "dl"
        exact hQ
      · rw [List.length_map] at h
        rw [if_neg (fun z => h (by omega))] at hQ
        exact rest hQ
  · walk_at "dl"
    walk_at "sq"
    rw [List.length_map] at h
    rw [List.getElem?_eq_none (by omega)] at hQ
    walk_at "dl"
    exact hQ
/-! the law's boxes -/
theorem held_none {k : Int} : ∀ {l : List (Int × Int)}, (∀ x ∈ l, x.1 ≠ k) → l.filter (fun q => decide (q.1 = k)) = [] := fun h => List.filter_eq_nil_iff.mpr fun x hx => by simpa using h x hx
theorem held_sum {k : Int} : ∀ {l : List (Int × Int)}, BxOk l → ((l.filter (fun q => decide (q.1 = k))).map (·.2)).sum = getB k l
  | [], _ => rfl
  | (a, n) :: r, h => by
    obtain ⟨h1, h2⟩ := List.pairwise_cons.mp h
    rw [getB_cons]
    by_cases e : a = k
    · have : ∀ x ∈ r, x.1 ≠ k := fun x hx => by
        have : a < x.1 := h1 x hx
        omega
      rw [List.filter_cons, if_pos (by simpa using e), held_none this, if_pos e]
      simp
    · rw [List.filter_cons, if_neg (by simpa using e), if_neg e]
      exact held_sum h2
theorem putB_perm {k v : Int} : ∀ {l : List (Int × Int)}, BxOk l → (putB k v l).Perm (l.filter (fun q => !decide (q.1 = k)) ++ [(k, v)])
  | [], _ => List.Perm.refl _
  | (a, n) :: r, h => by
    obtain ⟨h1, h2⟩ := List.pairwise_cons.mp h
    rw [putB]
    by_cases e : a = k
    · have hall : r.filter (fun q => !decide (q.1 = k)) = r := List.filter_eq_self.mpr fun x hx => by
        have : a < x.1 := h1 x hx
        have : x.1 ≠ k := by omega
        simpa using this
      rw [if_pos e, List.filter_cons, if_neg (by simpa using e), hall, e]
      exact (List.perm_append_singleton _ _).symm
    · rw [if_neg e, List.filter_cons, if_pos (by simpa using e), List.cons_append]
      exact (putB_perm h2).cons _
def C__law_box : PC := fun ts Q => ∃ (l : List (Int × Int)) (k : Int), ts = [.lst (l.map pairT), .int k] ∧ BxOk l ∧ l.length < 11000000 ∧ Q (.t (.lst ((incB k l).map pairT)))
theorem ln__law_box : ∀ ts Q, C__law_box ts Q → ts.length = ["_law_boxes", "_law_box_here"].length := by rintro ts Q ⟨_, _, rfl, _⟩; rfl
def rd__law_box : DSt :=
  dSeq (dAsg (dLc finT (diL (dVar 0)) (dgTup 2 (dgCons (dgN 3) (dgCons (dgN 4) (dgNil)))) (dB (d2 (fEq false) (dVar 3) (dVar 1))) (dVar 4) [3, 4]) (dgN 2))
  (dRet (dN fSortP (dCons (d2 fAdd (dLc finT (diL (dVar 0)) (dgN 5) (dB (d2 (fEq true) (d2 fIx (dVar 5) (dC (.int 0))) (dVar 1))) (dVar 5) [5]) (dLst (dCons (dTup (dCons (dVar 1) (dCons (d2 fAdd (dC (.int 1)) (dN fSum (dCons (dVar 2) (dNil)))) (dNil)))) (dNil)))) (dNil))))

theorem rp__law_box : ∀ ts Q, C__law_box ts Q → rd__law_box ⟨FinP Q (.t .non), FinP Q, fun _ => False, fun _ => False⟩ ⟨ts.map (fun t => some (W.t t)) ++ List.replicate (6 - ts.length) none, []⟩ := by
  rintro ts Q ⟨l, k, rfl, hb, hl, hQ⟩
  unfold rd__law_box
  walk_at "dl"
  refine lcP l (fun q => W.t (pairT q)) (fun q => decide (q.1 = k)) (fun q => T.int q.2) (by rw [List.map_map]; rfl) (szN (by omega)) rfl (fun q hq Y N hY hN => ?_) rfl ?_
  · walk_at "dl"
    refine k_d (fun h => ?_) (fun h => ?_)
    · walk_at "dl"
      exact hY (by simpa using h) _ rfl
    · exact hN (by simpa using h) _ rfl
  rw [show ((l.filter fun q => decide (q.1 = k)).map fun q => T.int q.2) = ((l.filter fun q => decide (q.1 = k)).map (·.2)).map T.int by rw [List.map_map]; rfl]
  walk_at "dl"
  refine lcP l (fun q => W.t (pairT q)) (fun q => !decide (q.1 = k)) pairT (by rw [List.map_map]; rfl) (szN (by omega)) rfl (fun q hq Y N hY hN => ?_) rfl ?_
  · have h0 : atI [T.int q.1, T.int q.2] 0 = some (.int q.1) := atI_nat (j := 0) rfl
    walk_at "dl"
    refine k_n (fun h => ?_) (fun h => ?_)
    · walk_at "dl"
      exact hY (by simpa using h) _ rfl
    · exact hN (by simpa using h) _ rfl
  walk_at "dl"
  refine i_sum (ns := (l.filter fun q => decide (q.1 = k)).map (·.2)) rfl ?_
  rw [held_sum hb]
  walk_at "dl"
  refine ⟨szM rfl, ?_⟩
  walk_at "dl"
  refine ⟨szM rfl, ?_⟩
  refine i_addL (xs := (l.filter fun q => !decide (q.1 = k)).map pairT) (ys := [pairT (k, 1 + getB k l)]) rfl rfl (szN (by
    have := List.length_filter_le (fun q : Int × Int => !decide (q.1 = k)) l
    rw [List.length_map, List.length_singleton]; omega)) ?_
  walk_at "dl"
  refine i_sortP (ps := (l.filter fun q => !decide (q.1 = k)) ++ [(k, 1 + getB k l)]) (by rw [List.map_append]; rfl) fun out hp hs => ?_
  rw [Int.add_comm 1] at hp
  rw [srt_uniq ((hp.trans (putB_perm hb).symm).trans (incB_perm hb).symm) hs (incB_ok hb).srt]
  exact hQ
/-! the law's next state -/
local macro_rules | `(tactic| walk_at "sq") => `(tactic| (refine i_eqS ?_; (try walk_at "dl"); first | refine k_dT trivial ?_ | refine k_dT rfl ?_ | refine k_dF (by decide +kernel) ?_ | skip))
theorem cut_last {α : Type} (xs : List α) (x : α) : DL.cut (xs ++ [x]) none (some (-1)) = xs := by
  unfold DL.cut
  rw [HT.sIx_none, List.drop_zero, List.length_append, List.length_singleton]
  have : HT.sIx (xs.length + 1) (xs.length + 1) (some (-1)) = xs.length := by
    unfold HT.sIx
    simp
    omega
  rw [this, Nat.sub_zero, List.take_left]
theorem mi (xs : List Int) (x : Int) : xs.map T.int ++ [.int x] = (xs ++ [x]).map T.int := by rw [List.map_append]; rfl
theorem mt (xs : List P3) (x : P3) : xs.map tripT ++ [tripT x] = (xs ++ [x]).map tripT := by rw [List.map_append]; rfl
def C__law_near : PC := fun ts Q => ∃ (cs : List Ins) (s : MS) (as : List Int) (bd : Int), ts = [codeT cs, s.t, .lst (as.map T.int)] ∧ s.Ok ∧ Ans as ∧ s.rw_.length ≤ 10000 ∧ stM cs s as bd = none ∧ Q (.t (nxM cs s as).t)
theorem ln__law_near : ∀ ts Q, C__law_near ts Q → ts.length = ["_law_code", "_law_state", "_law_answers"].length := by rintro ts Q ⟨_, _, _, _, rfl, _⟩; rfl
def rd__law_near : DSt :=
  dSeq (dAsg (dVar 1) (dgTup 8 (dgCons (dgN 3) (dgCons (dgN 4) (dgCons (dgN 5) (dgCons (dgN 6) (dgCons (dgN 7) (dgCons (dgN 8) (dgCons (dgN 9) (dgCons (dgN 10) (dgNil)))))))))))
  (dSeq (dAsg (d2 fIx (dVar 0) (dVar 3)) (dgN 11))
  (dSeq (dAsg (d2 fIx (dVar 4) (d1 fNeg (dC (.int 1)))) (dgTup 3 (dgCons (dgN 12) (dgCons (dgN 13) (dgCons (dgN 14) (dgNil))))))
  (dSeq (dAsg (dTup (dCons (d2 fAdd (dVar 3) (dC (.int 1))) (dCons (dVar 4) (dCons (dVar 5) (dCons (dVar 6) (dCons (dVar 7) (dCons (dVar 8) (dCons (dVar 9) (dCons (d2 fAdd (dVar 10) (dC (.int 1))) (dNil)))))))))) (dgN 15))
  (dSeq (dIfS (dB (d2 (fEq false) (d2 fIx (dVar 11) (dC (.int 0))) (dC (.str (PySem.Str.ofString "row"))))) (dRet (dTup (dCons (d2 fAdd (dVar 3) (dC (.int 1))) (dCons (dVar 4) (dCons (dVar 5) (dCons (dVar 6) (dCons (dVar 7) (dCons (d2 fAdd (dVar 8) (dLst (dCons (d2 fIx (dVar 11) (dC (.int 1))) (dNil)))) (dCons (dVar 9) (dCons (dC (.int 0)) (dNil))))))))))) (dNext))
  (dSeq (dIfS (dB (d2 (fEq false) (d2 fIx (dVar 11) (dC (.int 0))) (dC (.str (PySem.Str.ofString "ask"))))) (dSeq (dAsg (d2 fIx (dLst (dCons (dTup (dCons (d2 fIx (dVar 11) (dC (.int 2))) (dCons (d2 fIx (dVar 11) (dC (.int 3))) (dNil)))) (dCons (dTup (dCons (d2 fIx (dVar 11) (dC (.int 1))) (dCons (d2 fAdd (dVar 3) (dC (.int 1))) (dNil)))) (dNil)))) (d2 fIx (dVar 2) (dVar 9))) (dgTup 2 (dgCons (dgN 16) (dgCons (dgN 17) (dgNil)))))
  (dRet (dTup (dCons (dVar 17) (dCons (dVar 4) (dCons (dVar 5) (dCons (dVar 6) (dCons (dVar 7) (dCons (d2 fAdd (dVar 8) (dLst (dCons (dVar 16) (dNil)))) (dCons (d2 fAdd (dVar 9) (dC (.int 1))) (dCons (dC (.int 0)) (dNil)))))))))))) (dNext))
  (dSeq (dIfS (dB (d2 (fEq false) (d2 fIx (dVar 11) (dC (.int 0))) (dC (.str (PySem.Str.ofString "call"))))) (dSeq (dAsg (d2 fAdd (dVar 4) (dLst (dCons (dTup (dCons (d2 fAdd (dVar 3) (dC (.int 1))) (dCons (dC (.int 0)) (dCons (dVar 7) (dNil))))) (dNil)))) (dgN 4))
  (dRet (dTup (dCons (d2 fIx (dVar 11) (dC (.int 2))) (dCons (dVar 4) (dCons (dVar 5) (dCons (dVar 6) (dCons (d2 fAdd (dVar 7) (d2 fIx (dVar 11) (dC (.int 3)))) (dCons (d2 fAdd (dVar 8) (dLst (dCons (d2 fIx (dVar 11) (dC (.int 1))) (dNil)))) (dCons (dVar 9) (dCons (dC (.int 0)) (dNil)))))))))))) (dNext))
  (dSeq (dIfS (dB (d2 (fEq false) (d2 fIx (dVar 11) (dC (.int 0))) (dC (.str (PySem.Str.ofString "jump"))))) (dRet (d2 fCatT (dTup (dCons (d2 fIx (dVar 11) (dC (.int 1))) (dNil))) (dSlA (dVar 15) (dPart (dC (.int 1))) (dNoPart)))) (dNext))
  (dSeq (dIfS (dB (d2 (fEq false) (d2 fIx (dVar 11) (dC (.int 0))) (dC (.str (PySem.Str.ofString "back"))))) (dRet (d2 fCatT (dTup (dCons (dVar 12) (dCons (dSl (dVar 4) (dNoPart) (dPart (d1 fNeg (dC (.int 1))))) (dCons (dVar 5) (dCons (dVar 6) (dCons (dVar 14) (dNil))))))) (dSlA (dVar 15) (dPart (dC (.int 5))) (dNoPart)))) (dNext))
  (dSeq (dIfS (dB (d2 (fEq false) (d2 fIx (dVar 11) (dC (.int 0))) (dC (.str (PySem.Str.ofString "count"))))) (dRet (d2 fCatT (d2 fCatT (dSlA (dVar 15) (dNoPart) (dPart (dC (.int 2)))) (dTup (dCons (dCallT C__law_box (dCons (dVar 5) (dCons (d2 fIx (dVar 11) (dC (.int 1))) (dNil)))) (dNil)))) (dSlA (dVar 15) (dPart (dC (.int 3))) (dNoPart)))) (dNext))
  (dSeq (dIfS (dB (d2 (fEq false) (d2 fIx (dVar 11) (dC (.int 0))) (dC (.str (PySem.Str.ofString "add"))))) (dRet (d2 fCatT (d2 fCatT (dSlA (dVar 15) (dNoPart) (dPart (dC (.int 1)))) (dTup (dCons (d2 fAdd (dSl (dVar 4) (dNoPart) (dPart (d1 fNeg (dC (.int 1))))) (dLst (dCons (dTup (dCons (dVar 12) (dCons (d2 fAdd (dVar 13) (d2 fIx (dVar 11) (dC (.int 1)))) (dCons (dVar 14) (dNil))))) (dNil)))) (dNil)))) (dSlA (dVar 15) (dPart (dC (.int 2))) (dNoPart)))) (dNext))
  (dSeq (dAsg (d2 fAdd (dVar 6) (dLst (dCons (dTup (dCons (d2 fIx (dVar 11) (dC (.int 1))) (dCons (dVar 7) (dCons (dVar 13) (dNil))))) (dNil)))) (dgN 6))
  (dRet (d2 fCatT (dTup (dCons (d2 fAdd (dVar 3) (dC (.int 1))) (dCons (d2 fAdd (dSl (dVar 4) (dNoPart) (dPart (d1 fNeg (dC (.int 1))))) (dLst (dCons (dTup (dCons (dVar 12) (dCons (d2 fIx (dVar 11) (dC (.int 2))) (dCons (dVar 14) (dNil))))) (dNil)))) (dCons (dVar 5) (dCons (dVar 6) (dNil)))))) (dSlA (dVar 15) (dPart (dC (.int 4))) (dNoPart)))))))))))))))

theorem rp__law_near : ∀ ts Q, C__law_near ts Q → rd__law_near ⟨FinP Q (.t .non), FinP Q, fun _ => False, fun _ => False⟩ ⟨ts.map (fun t => some (W.t t)) ++ List.replicate (18 - ts.length) none, []⟩ := by
  rintro ts Q ⟨cs, ⟨at_, fr, bx, tl, ch, rw_, us, idle⟩, as, bd, rfl, ok, hans, hrl, hs, hQ⟩
  obtain ⟨n, hn⟩ := at_nat ok.a0
  dsimp only at hn
  subst hn
  have lf := ok.lf
  have lb := ok.lb
  have lt := ok.lt
  have i1 := ok.i1
  have u0 := ok.u0
  have hbx := ok.bx
  obtain ⟨⟨l, m, k⟩, hx0⟩ : ∃ x, fr.getLast? = some x := by
    cases e : fr.getLast? with
    | none => exact absurd (List.getLast?_eq_none_iff.mp e) ok.fne
    | some x => exact ⟨x, rfl⟩
  obtain ⟨r, rfl⟩ := snoc_last hx0
  obtain ⟨i, hi⟩ := stM_some hs
  unfold stM at hs
  unfold nxM at hQ
  dsimp only at hQ hs hi lf lb lt hrl hbx i1 u0
  rw [Int.toNat_natCast] at hQ hs hi
  rw [hi, hx0] at hQ
  rw [hi] at hs
  dsimp only at hs
  have hla : atI ((r ++ [(l, m, k)]).map tripT) (-1) = some (tripT (l, m, k)) := by rw [List.map_append]; exact atI_m1 _ _
  have hcut : cut ((r ++ [(l, m, k)]).map tripT) none (some (-1)) = r.map tripT := by
    rw [List.map_append]
    exact cut_last _ _
  have hset : ∀ y : P3, (setL (r ++ [(l, m, k)]) y).map tripT = r.map tripT ++ [tripT y] := fun y => by
    unfold setL
    rw [List.dropLast_concat, List.map_append]
    rfl
  have hx : atI (cs.map Ins.t) (n : Int) = some i.t := atI_nat (by rw [List.getElem?_map, hi]; rfl)
  rw [List.length_append, List.length_singleton] at lf
  unfold rd__law_near codeT MS.t
  cases i with
  | row r1 =>
    unfold Ins.t Ins.w Ins.ns at hx
    walk_at "dl"
    refine ⟨szM rfl, ?_⟩
    walk_at "dl"
    walk_at "sq"
    walk_at "dl"
    refine ⟨szM rfl, ?_⟩
    refine i_addL (xs := rw_.map T.int) (ys := [.int r1]) rfl rfl (szN (by rw [List.length_map, List.length_singleton]; omega)) ?_
    walk_at "dl"
    refine ⟨szM rfl, ?_⟩
    rw [mi]
    exact hQ
  | ask a b t =>
    unfold Ins.t Ins.w Ins.ns at hx
    walk_at "dl"
    refine ⟨szM rfl, ?_⟩
    walk_at "dl"
    walk_at "sq"
    walk_at "dl"
    walk_at "sq"
    walk_at "dl"
    by_cases h1 : 1000 ≤ idle
    · rw [if_pos h1] at hs; cases hs
    rw [if_neg h1] at hs
    by_cases h2 : (Ins.ask a b t).rowy = true ∧ bd ≤ (rw_.length : Int)
    · rw [if_pos h2] at hs; cases hs
    rw [if_neg h2] at hs
    by_cases h3 : (Ins.ask a b t).isAsk = true ∧ (as.length : Int) ≤ us
    · rw [if_pos h3] at hs; cases hs
    obtain ⟨j, rfl⟩ : ∃ j : Nat, us = (j : Int) := ⟨us.toNat, (Int.toNat_of_nonneg u0).symm⟩
    have hm : j < as.length := by
      rcases Nat.lt_or_ge j as.length with h | h
      · exact h
      · exact absurd ⟨rfl, by omega⟩ h3
    have hy : atI (as.map T.int) (j : Int) = some (.int as[j]) := atI_nat (by rw [List.getElem?_map, List.getElem?_eq_getElem hm]; rfl)
    dsimp only at hQ
    rw [Int.toNat_natCast, List.getElem?_eq_getElem hm] at hQ
    refine ⟨szM rfl, ?_⟩
    walk_at "dl"
    refine ⟨szM rfl, ?_⟩
    walk_at "dl"
    refine ⟨szM rfl, ?_⟩
    walk_at "dl"
    rcases hans.1 as[j] (List.getElem_mem hm) with e | e
    · rw [e]
      rw [if_neg (by rw [e]; decide)] at hQ
      walk_at "dl"
      refine ⟨szM rfl, ?_⟩
      refine i_addL (xs := rw_.map T.int) (ys := [.int b]) rfl rfl (szN (by rw [List.length_map, List.length_singleton]; omega)) ?_
      walk_at "dl"
      refine ⟨szM rfl, ?_⟩
      rw [mi]
      exact hQ
    · rw [e]
      rw [if_pos (by rw [e])] at hQ
      walk_at "dl"
      refine ⟨szM rfl, ?_⟩
      refine i_addL (xs := rw_.map T.int) (ys := [.int a]) rfl rfl (szN (by rw [List.length_map, List.length_singleton]; omega)) ?_
      walk_at "dl"
      refine ⟨szM rfl, ?_⟩
      rw [mi]
      exact hQ
  | call a t z =>
    unfold Ins.t Ins.w Ins.ns at hx
    walk_at "dl"
    refine ⟨szM rfl, ?_⟩
    walk_at "dl"
    walk_at "sq"
    walk_at "dl"
    walk_at "sq"
    walk_at "dl"
    walk_at "sq"
    walk_at "dl"
    refine ⟨szM rfl, ?_⟩
    walk_at "dl"
    refine ⟨szM rfl, ?_⟩
    refine i_addL (xs := (r ++ [(l, m, k)]).map tripT) (ys := [tripT ((n : Int) + 1, 0, ch)]) rfl rfl (szN (by rw [List.length_map, List.length_append, List.length_singleton, List.length_singleton]; omega)) ?_
    rw [mt]
    walk_at "dl"
    refine ⟨szM rfl, ?_⟩
    refine i_addL (xs := rw_.map T.int) (ys := [.int a]) rfl rfl (szN (by rw [List.length_map, List.length_singleton]; omega)) ?_
    walk_at "dl"
    refine ⟨szM rfl, ?_⟩
    rw [mi]
    exact hQ
  | jump t =>
    unfold Ins.t Ins.w Ins.ns at hx
    walk_at "dl"
    refine ⟨szM rfl, ?_⟩
    walk_at "dl"
    walk_at "sq"
    walk_at "dl"
    walk_at "sq"
    walk_at "dl"
    walk_at "sq"
    walk_at "dl"
    walk_at "sq"
    walk_at "dl"
    refine ⟨szM rfl, ?_⟩
    refine i_slA ?_
    walk_at "dl"
    refine i_cutA ?_
    refine i_catT (by simp [cut, HT.sIx]) (szM rfl) ?_
    exact hQ
  | back =>
    unfold Ins.t Ins.w Ins.ns at hx
    walk_at "dl"
    refine ⟨szM rfl, ?_⟩
    walk_at "dl"
    walk_at "sq"
    walk_at "dl"
    walk_at "sq"
    walk_at "dl"
    walk_at "sq"
    walk_at "dl"
    walk_at "sq"
    walk_at "dl"
    walk_at "sq"
    walk_at "dl"
    refine o_cut (us := (r ++ [(l, m, k)]).map tripT) rfl ?_
    rw [hcut]
    walk_at "dl"
    refine ⟨szM rfl, ?_⟩
    refine i_slA ?_
    walk_at "dl"
    refine i_cutA ?_
    refine i_catT (by simp [cut, HT.sIx]) (szM rfl) ?_
    have hQ2 : Q (.t (MS.t ⟨l, (r ++ [(l, m, k)]).dropLast, bx, tl, k, rw_, us, idle + 1⟩)) := hQ
    rw [List.dropLast_concat] at hQ2
    exact hQ2
  | count n1 =>
    unfold Ins.t Ins.w Ins.ns at hx
    walk_at "dl"
    refine ⟨szM rfl, ?_⟩
    walk_at "dl"
    walk_at "sq"
    walk_at "dl"
    walk_at "sq"
    walk_at "dl"
    walk_at "sq"
    walk_at "dl"
    walk_at "sq"
    walk_at "dl"
    walk_at "sq"
    walk_at "dl"
    walk_at "sq"
    walk_at "dl"
    refine i_slA ?_
    walk_at "dl"
    refine i_cutA ?_
    walk_at "dl"
    refine ⟨bx, n1, rfl, hbx, by omega, ?_⟩
    walk_at "dl"
    refine ⟨szM rfl, ?_⟩
    refine i_catT (by simp [cut, HT.sIx]) (szM rfl) ?_
    walk_at "dl"
    refine i_slA ?_
    walk_at "dl"
    refine i_cutA ?_
    refine i_catT (by simp [cut, HT.sIx]) (szM rfl) ?_
    exact hQ
  | add z =>
    unfold Ins.t Ins.w Ins.ns at hx
    walk_at "dl"
    refine ⟨szM rfl, ?_⟩
    walk_at "dl"
    walk_at "sq"
    walk_at "dl"
    walk_at "sq"
    walk_at "dl"
    walk_at "sq"
    walk_at "dl"
    walk_at "sq"
    walk_at "dl"
    walk_at "sq"
    walk_at "dl"
    walk_at "sq"
    walk_at "dl"
    walk_at "sq"
    walk_at "dl"
    refine i_slA ?_
    walk_at "dl"
    refine i_cutA ?_
    walk_at "dl"
    refine o_cut (us := (r ++ [(l, m, k)]).map tripT) rfl ?_
    rw [hcut]
    walk_at "dl"
    refine ⟨szM rfl, ?_⟩
    walk_at "dl"
    refine ⟨szM rfl, ?_⟩
    refine i_addL (xs := r.map tripT) (ys := [tripT (l, m + z, k)]) rfl rfl (szN (by rw [List.length_map, List.length_singleton]; omega)) ?_
    rw [← hset (l, m + z, k)]
    walk_at "dl"
    refine ⟨szM rfl, ?_⟩
    refine i_catT (by simp [cut, HT.sIx]) (szM rfl) ?_
    walk_at "dl"
    refine i_slA ?_
    walk_at "dl"
    refine i_cutA ?_
    refine i_catT (by simp [cut, HT.sIx]) (szM rfl) ?_
    exact hQ
  | tell n1 z =>
    unfold Ins.t Ins.w Ins.ns at hx
    walk_at "dl"
    refine ⟨szM rfl, ?_⟩
    walk_at "dl"
    walk_at "sq"
    walk_at "dl"
    walk_at "sq"
    walk_at "dl"
    walk_at "sq"
    walk_at "dl"
    walk_at "sq"
    walk_at "dl"
    walk_at "sq"
    walk_at "dl"
    walk_at "sq"
    walk_at "dl"
    walk_at "sq"
    walk_at "dl"
    refine ⟨szM rfl, ?_⟩
    walk_at "dl"
    refine ⟨szM rfl, ?_⟩
    refine i_addL (xs := tl.map tripT) (ys := [tripT (n1, ch, m)]) rfl rfl (szN (by rw [List.length_map, List.length_singleton]; omega)) ?_
    rw [mt]
    walk_at "dl"
    refine o_cut (us := (r ++ [(l, m, k)]).map tripT) rfl ?_
    rw [hcut]
    walk_at "dl"
    refine ⟨szM rfl, ?_⟩
    walk_at "dl"
    refine ⟨szM rfl, ?_⟩
    refine i_addL (xs := r.map tripT) (ys := [tripT (l, z, k)]) rfl rfl (szN (by rw [List.length_map, List.length_singleton]; omega)) ?_
    rw [← hset (l, z, k)]
    walk_at "dl"
    refine ⟨szM rfl, ?_⟩
    refine i_slA ?_
    walk_at "dl"
    refine i_cutA ?_
    refine i_catT (by simp [cut, HT.sIx]) (szM rfl) ?_
    exact hQ
/-! the law's draws -/
theorem mulL {a b : Int} (h1 : -(2 ^ 64) < a) (h2 : a < 2 ^ 64) : IntMulOk a b := IntMulOk.of_left (intBits_le_64 h1 h2)
theorem divW {i j : Int} (h0 : 0 < j) (h : j < 2 ^ 64) : CDivW i j := ⟨h0, by
  have : j.natAbs < 2 ^ 64 := by omega
  by_cases z : j.natAbs = 0
  · rw [z]; decide
  · have := (Nat.log2_lt z).mpr this
    omega⟩
theorem int_at {xs : List Int} {i : Int} (h0 : 0 ≤ i) (h1 : i < xs.length) : atI (xs.map T.int) i = some (.int (xs.getD i.toNat 0)) := by
  obtain ⟨n, rfl⟩ := Int.eq_ofNat_of_zero_le h0
  exact atI_map T.int (atI_getD 0 (by omega))
def DrOk (ds : List Int) : Prop := ∀ d ∈ ds, 0 ≤ d ∧ d < 2147483629
def C__law_draws : PC := fun ts Q => ∃ (ns : List Int) (many : Nat), ts = [.sq (ns.map T.int), .int (many : Nat)] ∧ many ≤ 1000 ∧ ∀ ds : List Int, ds.length = many → DrOk ds → Q (.f (.lt (ds.map T.int)))
theorem ln__law_draws : ∀ ts Q, C__law_draws ts Q → ts.length = ["_law_script", "_law_many"].length := by rintro ts Q ⟨_, _, rfl, _⟩; rfl
def rd__law_draws : DSt :=
  dSeq (dAsg (dLstH (dNil)) (dgN 2))
  (dSeq (dFor (diR1 (dCons (dVar 1) (dNil))) (dgN 3) (dSeq (dAsg (dC (.int 0)) (dgN 4))
  (dSeq (dIfS (dB (d2 (fI0 fun i j => .bl (decide (j < i))) (dN fLen (dCons (dVar 0) (dNil))) (dC (.int 0)))) (dAsg (d2 fIx (dVar 0) (d2 (fI (fun _ j => j ≠ 0) fun i j => .int (i.fmod j)) (d2 (fI CDivW fun i j => .int (i / j)) (dVar 3) (dC (.int 20))) (dN fMin (dCons (dC (.int 63)) (dCons (dN fLen (dCons (dVar 0) (dNil))) (dNil)))))) (dgN 4)) (dNext))
  (dIfS (dB (d2 (fI0 fun i j => .bl (decide (j ≤ i))) (dVar 4) (d2 (fI CPow fun i j => .int (i ^ j.toNat)) (dC (.int 10)) (dC (.int 18))))) (dSeq (dAsg (d2 (fI CDivW fun i j => .int (i / j)) (dVar 4) (d2 (fI CPow fun i j => .int (i ^ j.toNat)) (dC (.int 10)) (dC (.int 18)))) (dgN 4))
  (dSeq (dFor (diR1 (dCons (d2 (fI (fun _ j => j ≠ 0) fun i j => .int (i.fmod j)) (dVar 3) (dC (.int 20))) (dNil))) (dgN 5) (dAsg (d2 (fI CDivW fun i j => .int (i / j)) (dVar 4) (dC (.int 5040))) (dgN 4)))
  (dDrop (dM fAppend (dVar 2) (dCons (d2 (fI (fun _ j => j ≠ 0) fun i j => .int (i.fmod j)) (dVar 4) (dC (.int 5040))) (dNil)))))) (dSeq (dAsg (d2 (fI (fun _ j => j ≠ 0) fun i j => .int (i.fmod j)) (d2 fAdd (dVar 4) (d2 (fI IntMulOk fun i j => .int (i * j)) (dC (.int 48271)) (d2 fAdd (dVar 3) (dC (.int 1))))) (dC (.int 2147483629))) (dgN 6))
  (dSeq (dAsg (d2 (fI (fun _ j => j ≠ 0) fun i j => .int (i.fmod j)) (d2 fAdd (d2 (fI IntMulOk fun i j => .int (i * j)) (dVar 6) (dVar 6)) (dVar 3)) (dC (.int 2147483629))) (dgN 6))
  (dDrop (dM fAppend (dVar 2) (dCons (d2 (fI (fun _ j => j ≠ 0) fun i j => .int (i.fmod j)) (d2 (fI IntMulOk fun i j => .int (i * j)) (dVar 6) (dVar 6)) (dC (.int 2147483587))) (dNil))))))))))
  (dRet (dVar 2)))

theorem rp__law_draws : ∀ ts Q, C__law_draws ts Q → rd__law_draws ⟨FinP Q (.t .non), FinP Q, fun _ => False, fun _ => False⟩ ⟨ts.map (fun t => some (W.t t)) ++ List.replicate (7 - ts.length) none, []⟩ := by
  rintro ts Q ⟨ns, many, rfl, hm, hQ⟩
  unfold rd__law_draws
  walk_at "dl"
  refine ⟨Nat.zero_le _, ?_⟩
  walk_at "dl"
  refine ⟨by constructor <;> omega, ?_⟩
  refine forP (List.range many) (fun k => W.t (.int ((k : Nat) : Int))) (fun n _ => n + 1) (fun n g' => ∃ (ds : List Int) (o3 o4 o5 o6 : Option W), g' = ⟨[some (.t (.sq (ns.map T.int))), some (.t (.int (many : Nat))), some (.h 0), o3, o4, o5, o6], [some (.lt (ds.map T.int))]⟩ ∧ ds.length = n ∧ DrOk ds) 0 (by rw [Int.toNat_natCast, rgW0]) ⟨[], _, _, _, _, rfl, rfl, fun _ h => by cases h⟩ (fun _ _ _ => trivial) ?_ ?_
  · rintro pre k post hsp g' ⟨ds, o3, o4, o5, o6, rfl, hl, hd⟩ N hN
    have hk : k < many := by
      have : k ∈ List.range many := by rw [hsp]; simp
      simpa using this
    have hpl : ds.length < 1000 := by
      have h1 := congrArg List.length hsp
      rw [List.length_range, List.length_append, List.length_cons] at h1
      have h2 : ∀ (l : List Nat) (a : Nat), l.foldl (fun n _ => n + 1) a = a + l.length := by
        intro l
        induction l with
        | nil => intro a; rfl
        | cons x l ih => intro a; rw [List.foldl_cons, ih, List.length_cons]; omega
      rw [h2] at hl
      omega
    have out : ∀ (r : Int) (o4 o5 o6 : Option W), 0 ≤ r → r < 2147483629 → N ⟨[some (.t (.sq (ns.map T.int))), some (.t (.int (many : Nat))), some (.h 0), some (.t (.int (k : Nat))), o4, o5, o6], [some (.lt (ds.map T.int ++ [.int r]))]⟩ := fun r o4 o5 o6 h1 h2 => by
      refine hN _ ⟨ds ++ [r], some (.t (.int (k : Nat))), o4, o5, o6, by rw [List.map_append]; rfl, by rw [List.length_append, hl]; rfl, fun d hd2 => ?_⟩
      rcases List.mem_append.mp hd2 with hd2 | hd2
      · exact hd d hd2
      · rw [List.mem_singleton] at hd2
        subst hd2
        exact ⟨h1, h2⟩
    have app : (ds.map T.int).length < sizeLine := by
      rw [List.length_map]
      exact Nat.lt_of_lt_of_le hpl (by show 1000 ≤ sizeLine; decide)
    have fin : ∀ (cell : Int) (B : G → Prop), (dIfS (dB (d2 (fI0 fun i j => .bl (decide (j ≤ i))) (dVar 4) (d2 (fI CPow fun i j => .int (i ^ j.toNat)) (dC (.int 10)) (dC (.int 18))))) (dSeq (dAsg (d2 (fI CDivW fun i j => .int (i / j)) (dVar 4) (d2 (fI CPow fun i j => .int (i ^ j.toNat)) (dC (.int 10)) (dC (.int 18)))) (dgN 4))
          (dSeq (dFor (diR1 (dCons (d2 (fI (fun _ j => j ≠ 0) fun i j => .int (i.fmod j)) (dVar 3) (dC (.int 20))) (dNil))) (dgN 5) (dAsg (d2 (fI CDivW fun i j => .int (i / j)) (dVar 4) (dC (.int 5040))) (dgN 4)))
          (dDrop (dM fAppend (dVar 2) (dCons (d2 (fI (fun _ j => j ≠ 0) fun i j => .int (i.fmod j)) (dVar 4) (dC (.int 5040))) (dNil)))))) (dSeq (dAsg (d2 (fI (fun _ j => j ≠ 0) fun i j => .int (i.fmod j)) (d2 fAdd (dVar 4) (d2 (fI IntMulOk fun i j => .int (i * j)) (dC (.int 48271)) (d2 fAdd (dVar 3) (dC (.int 1))))) (dC (.int 2147483629))) (dgN 6))
          (dSeq (dAsg (d2 (fI (fun _ j => j ≠ 0) fun i j => .int (i.fmod j)) (d2 fAdd (d2 (fI IntMulOk fun i j => .int (i * j)) (dVar 6) (dVar 6)) (dVar 3)) (dC (.int 2147483629))) (dgN 6))
          (dDrop (dM fAppend (dVar 2) (dCons (d2 (fI (fun _ j => j ≠ 0) fun i j => .int (i.fmod j)) (d2 (fI IntMulOk fun i j => .int (i * j)) (dVar 6) (dVar 6)) (dC (.int 2147483587))) (dNil))))))) ⟨N, FinP Q, B, N⟩ ⟨[some (.t (.sq (ns.map T.int))), some (.t (.int (many : Nat))), some (.h 0), some (.t (.int (k : Nat))), some (.t (.int cell)), o5, o6], [some (.lt (ds.map T.int))]⟩ := by
      intro cell B
      walk_at "dl"
      refine i_fI (by unfold CPow; decide) ?_
      rw [show ((10 : Int) ^ (18 : Int).toNat) = 1000000000000000000 by decide]
      walk_at "dl"
      refine k_d (fun c2 => ?_) (fun c2 => ?_)
      · walk_at "dl"
        refine i_fI (by unfold CPow; decide) ?_
        rw [show ((10 : Int) ^ (18 : Int).toNat) = 1000000000000000000 by decide]
        refine i_fI (divW (by decide) (by decide)) ?_
        walk_at "dl"
        refine i_fI (by decide) ?_
        have hj := fmodR (a := (k : Int)) (n := 20) (by decide)
        obtain ⟨m, hm⟩ := Int.eq_ofNat_of_zero_le hj.1
        walk_at "dl"
        rw [hm]
        refine ⟨by constructor <;> omega, ?_⟩
        refine forP (List.range m) (fun j => W.t (.int ((j : Nat) : Int))) (fun _ _ => ()) (fun _ g' => ∃ (cl : Int) (o5 : Option W), g' = ⟨[some (.t (.sq (ns.map T.int))), some (.t (.int (many : Nat))), some (.h 0), some (.t (.int (k : Nat))), some (.t (.int cl)), o5, o6], [some (.lt (ds.map T.int))]⟩) () (by rw [Int.toNat_natCast, rgW0]) ⟨_, _, rfl⟩ (fun _ _ _ => trivial) ?_ ?_
        · rintro pre j post _ g' ⟨cl, o5, rfl⟩ N hN
          walk_at "dl"
          refine i_fI (divW (by decide) (by decide)) ?_
          walk_at "dl"
          exact hN _ ⟨_, _, rfl⟩
        · rintro g' ⟨cl, o5, rfl⟩
          walk_at "dl"
          refine ⟨trivial, ?_⟩
          walk_at "dl"
          refine i_fI (by decide) ?_
          have r := fmodR (a := cl) (n := 5040) (by decide)
          walk_at "dl"
          refine i_append rfl app ?_
          walk_at "dl"
          exact out _ _ _ _ r.1 (by omega)
      · walk_at "dl"
        refine i_fI (mulL (by decide) (by decide)) ?_
        walk_at "dl"
        refine i_fI (by decide) ?_
        have r1 := fmodR (a := cell + 48271 * ((k : Int) + 1)) (n := 2147483629) (by decide)
        generalize (cell + 48271 * ((k : Int) + 1)).fmod 2147483629 = c1 at r1 ⊢
        walk_at "dl"
        refine i_fI (mulL (by omega) (by omega)) ?_
        walk_at "dl"
        refine i_fI (by decide) ?_
        have r2 := fmodR (a := c1 * c1 + (k : Int)) (n := 2147483629) (by decide)
        generalize (c1 * c1 + (k : Int)).fmod 2147483629 = c2 at r2 ⊢
        walk_at "dl"
        refine ⟨trivial, ?_⟩
        walk_at "dl"
        refine i_fI (mulL (by omega) (by omega)) ?_
        walk_at "dl"
        refine i_fI (by decide) ?_
        have r3 := fmodR (a := c2 * c2) (n := 2147483587) (by decide)
        walk_at "dl"
        refine i_append rfl app ?_
        walk_at "dl"
        exact out _ _ _ _ r3.1 (by omega)
    walk_at "dl"
    rw [List.length_map]
    refine k_d (fun c => ?_) (fun c => ?_)
    · walk_at "dl"
      refine i_fI (divW (by decide) (by decide)) ?_
      walk_at "dl"
      rw [List.length_map]
      refine i_fI (by split <;> omega) ?_
      have hr : 0 ≤ ((k : Int) / 20).fmod (if (ns.length : Int) < 63 then (ns.length : Int) else 63) ∧ ((k : Int) / 20).fmod (if (ns.length : Int) < 63 then (ns.length : Int) else 63) < ns.length := by
        have := fmodR (a := (k : Int) / 20) (n := (if (ns.length : Int) < 63 then (ns.length : Int) else 63)) (by split <;> omega)
        split at this <;> rename_i h <;> (first | rw [if_pos h] | rw [if_neg h]) <;> omega
      have ha := int_at (xs := ns) hr.1 hr.2
      walk_at "dl"
      exact fin _ _
    · walk_at "dl"
      exact fin _ _
  · rintro g' ⟨ds, o3, o4, o5, o6, rfl, hl, hd⟩
    walk_at "dl"
    have h2 : ∀ (l : List Nat) (a : Nat), l.foldl (fun n _ => n + 1) a = a + l.length := by
      intro l
      induction l with
      | nil => intro a; rfl
      | cons x l ih => intro a; rw [List.foldl_cons, ih, List.length_cons]; omega
    rw [h2, List.length_range, Nat.zero_add] at hl
    exact hQ ds hl hd
/-! what is let by is a code -/
theorem fitsT_n {many : Int} {t : T} (h : fitsT many ⟨#[110]⟩ t = true) : ∃ i, t = .int i ∧ 0 ≤ i := by
  cases t with
  | int i =>
    have : (if (⟨#[110]⟩ : Str) = sgT then decide (0 ≤ i) && decide (i < many) else decide ((⟨#[110]⟩ : Str) = sgZ) || decide (0 ≤ i)) = true := h
    rw [if_neg (by decide), decide_eq_false (show ¬ (⟨#[110]⟩ : Str) = sgZ by decide), Bool.false_or] at this
    exact ⟨i, rfl, of_decide_eq_true this⟩
  | _ => cases h
theorem fitsT_t {many : Int} {t : T} (h : fitsT many ⟨#[116]⟩ t = true) : ∃ i, t = .int i ∧ 0 ≤ i ∧ i < many := by
  cases t with
  | int i =>
    have : (if (⟨#[116]⟩ : Str) = sgT then decide (0 ≤ i) && decide (i < many) else decide ((⟨#[116]⟩ : Str) = sgZ) || decide (0 ≤ i)) = true := h
    rw [if_pos (by decide), Bool.and_eq_true] at this
    exact ⟨i, rfl, of_decide_eq_true this.1, of_decide_eq_true this.2⟩
  | _ => cases h
theorem fitsT_z {many : Int} {t : T} (h : fitsT many ⟨#[122]⟩ t = true) : ∃ i, t = .int i := by
  cases t with
  | int i => exact ⟨i, rfl⟩
  | _ => cases h
theorem tbl_cases {w m : Str} (h : tblG tbl_SHAPES w = some m) : (w, m) ∈ tbl_SHAPES := by
  unfold tblG at h
  cases hf : tbl_SHAPES.find? (fun q => q.1 == w) with
  | none => rw [hf] at h; cases h
  | some q =>
    rw [hf] at h
    cases h
    have h1 := List.find?_some hf
    have h2 := List.mem_of_find?_eq_some hf
    obtain ⟨q1, q2⟩ := q
    have h3 : q1 = w := by simpa using h1
    subst h3
    exact h2
theorem parts_of_marks {many : Int} {xs : List T} {m : Str} (cs : List Nat) (h2 : m.cps.toList = cs) (h : (decide (xs.length = m.cps.size) && partsT many xs m) = true) : xs.length = cs.length ∧ (xs.zip cs).all (fun q => fitsT many ⟨#[q.2]⟩ q.1) = true := by
  rw [Bool.and_eq_true] at h
  refine ⟨?_, ?_⟩
  · rw [of_decide_eq_true h.1, ← h2, Array.length_toList]
  · have := h.2
    unfold partsT at this
    rw [h2] at this
    exact this
theorem done_ins {many : Int} {t : T} (h : doneT many t = true) : ∃ i : Ins, t = i.t ∧ i.ok many := by
  cases t with
  | tup ys =>
    cases ys with
    | nil => cases h
    | cons y xs =>
      cases y with
      | str w =>
        have e : doneT many (.tup (.str w :: xs)) = match tblG tbl_SHAPES w with | some m => decide (xs.length = m.cps.size) && partsT many xs m | none => false := rfl
        rw [e] at h
        cases hm : tblG tbl_SHAPES w with
        | none => rw [hm] at h; cases h
        | some m =>
          rw [hm] at h
          dsimp only at h
          have hw := tbl_cases hm
          unfold tbl_SHAPES at hw
          simp only [List.mem_cons, List.not_mem_nil, or_false, Prod.mk.injEq] at hw
          rcases hw with ⟨rfl, rfl⟩ | ⟨rfl, rfl⟩ | ⟨rfl, rfl⟩ | ⟨rfl, rfl⟩ | ⟨rfl, rfl⟩ | ⟨rfl, rfl⟩ | ⟨rfl, rfl⟩ | ⟨rfl, rfl⟩
          · obtain ⟨h1, h2⟩ := parts_of_marks [110] (by decide +kernel) h
            match xs, h1 with
            | [a], _ =>
              simp at h2
              obtain ⟨i, rfl, hi⟩ := fitsT_n h2
              exact ⟨.row i, rfl, hi⟩
          · obtain ⟨h1, h2⟩ := parts_of_marks [110, 110, 116] (by decide +kernel) h
            match xs, h1 with
            | [a, b, c], _ =>
              simp at h2
              obtain ⟨i, rfl, hi⟩ := fitsT_n h2.1
              obtain ⟨j, rfl, hj⟩ := fitsT_n h2.2.1
              obtain ⟨k, rfl, hk⟩ := fitsT_t h2.2.2
              exact ⟨.ask i j k, rfl, hi, hj, hk⟩
          · obtain ⟨h1, h2⟩ := parts_of_marks [116] (by decide +kernel) h
            match xs, h1 with
            | [a], _ =>
              simp at h2
              obtain ⟨i, rfl, hi⟩ := fitsT_t h2
              exact ⟨.jump i, rfl, hi⟩
          · obtain ⟨h1, h2⟩ := parts_of_marks [110, 116, 122] (by decide +kernel) h
            match xs, h1 with
            | [a, b, c], _ =>
              simp at h2
              obtain ⟨i, rfl, hi⟩ := fitsT_n h2.1
              obtain ⟨j, rfl, hj⟩ := fitsT_t h2.2.1
              obtain ⟨k, rfl⟩ := fitsT_z h2.2.2
              exact ⟨.call i j k, rfl, hi, hj⟩
          · obtain ⟨h1, h2⟩ := parts_of_marks [] (by decide +kernel) h
            match xs, h1 with
            | [], _ => exact ⟨.back, rfl, trivial⟩
          · obtain ⟨h1, h2⟩ := parts_of_marks [110] (by decide +kernel) h
            match xs, h1 with
            | [a], _ =>
              simp at h2
              obtain ⟨i, rfl, hi⟩ := fitsT_n h2
              exact ⟨.count i, rfl, hi⟩
          · obtain ⟨h1, h2⟩ := parts_of_marks [122] (by decide +kernel) h
            match xs, h1 with
            | [a], _ =>
              simp at h2
              obtain ⟨i, rfl⟩ := fitsT_z h2
              exact ⟨.add i, rfl, trivial⟩
          · obtain ⟨h1, h2⟩ := parts_of_marks [110, 122] (by decide +kernel) h
            match xs, h1 with
            | [a, b], _ =>
              simp at h2
              obtain ⟨i, rfl, hi⟩ := fitsT_n h2.1
              obtain ⟨j, rfl⟩ := fitsT_z h2.2
              exact ⟨.tell i j, rfl, hi⟩
      | _ => cases h
  | _ => cases h
theorem done_code {xs : List T} (hne : xs ≠ []) (hl : xs.length ≤ 2000) (h : ∀ x ∈ xs, doneT xs.length x = true) : ∃ cs : List Ins, T.lst xs = codeT cs ∧ CodeOk cs := by
  have : ∀ (n : Int) (l : List T), (∀ x ∈ l, doneT n x = true) → ∃ cs : List Ins, l = cs.map Ins.t ∧ ∀ i ∈ cs, i.ok n := by
    intro n l
    induction l with
    | nil => intro _; exact ⟨[], rfl, fun i hi => (List.not_mem_nil hi).elim⟩
    | cons x l ih =>
      intro h
      obtain ⟨cs, rfl, hc⟩ := ih fun y hy => h y (List.mem_cons_of_mem _ hy)
      obtain ⟨i, rfl, hi⟩ := done_ins (h x List.mem_cons_self)
      refine ⟨i :: cs, rfl, fun j hj => ?_⟩
      rcases List.mem_cons.mp hj with rfl | hj
      · exact hi
      · exact hc j hj
  obtain ⟨cs, rfl, hc⟩ := this xs.length xs h
  rw [List.length_map] at hc hl
  refine ⟨cs, rfl, fun e => hne (by rw [e]; rfl), hl, hc⟩
/-! small things for the law -/
theorem eqvAllM : ∀ xs : List T, (∀ x ∈ xs, teq x x = true) → PyData.eqvAll (xs.map T.pd) (xs.map T.pd) = true
  | [], _ => by simp [PyData.eqvAll]
  | x :: xs, h => by
    have h1 := h x List.mem_cons_self
    unfold teq at h1
    simp only [List.map_cons, PyData.eqvAll]
    rw [h1, eqvAllM xs fun y hy => h y (List.mem_cons_of_mem _ hy)]
    rfl
theorem teqM_lst {xs : List T} (h : ∀ x ∈ xs, teq x x = true) : teq (.lst xs) (.lst xs) = true := by
  have := eqvAllM xs h
  simp [teq, T.pd, PyData.eqv, this]
theorem teqM_tup {xs : List T} (h : ∀ x ∈ xs, teq x x = true) : teq (.tup xs) (.tup xs) = true := by
  have := eqvAllM xs h
  simp [teq, T.pd, PyData.eqv, this]
theorem teqM_int (i : Int) : teq (.int i) (.int i) = true := by simp [teq, T.pd, PyData.eqv]
theorem teqM_str (x : Str) : teq (.str x) (.str x) = true := by simp [teq, T.pd, PyData.eqv]
theorem teqM_ints (is : List Int) : ∀ x ∈ is.map T.int, teq x x = true := fun x hx => by
  obtain ⟨i, _, rfl⟩ := List.mem_map.mp hx
  exact teqM_int i
theorem Ins.teq (i : Ins) : DL.teq i.t i.t = true := teqM_tup fun x hx => by
  rcases List.mem_cons.mp hx with rfl | hx
  · exact teqM_str _
  · exact teqM_ints _ x hx
theorem code_teq (cs : List Ins) : teq (codeT cs) (codeT cs) = true := teqM_lst fun x hx => by
  obtain ⟨i, _, rfl⟩ := List.mem_map.mp hx
  exact i.teq
theorem lcRM {g1 : G} {gt : DGt} {te : Dt} {vs : List Nat} {fin : Fin3} {Q : W → G → Prop} {ws : List W} {St : G → Prop} {ι : Type} (items : List ι) (enc : ι → W) (P : ι → T → Prop) (hws : ws = items.map enc) (hlen : items.length ≤ sizeLine) (hSt : St (g1.wipe vs))
    (hel : ∀ x ∈ items, ∀ Y : W → G → Prop, (∀ u, P x u → ∀ g4, g4.wipe vs = g1.wipe vs → Y (.t u) g4) → gt (enc x) (g1.wipe vs) fun g2 => te g2 Y)
    (hQ : ∀ us : List T, us.length = items.length → (∀ (i : Nat) (x : ι) (u : T), items[i]? = some x → us[i]? = some u → P x u) → fin (us.map W.t) ((g1.wipe vs).rs g1 vs) Q) : lcI fin ws St g1 gt dYes te vs Q := by
  subst hws
  refine ⟨fun i acc g' => g' = g1.wipe vs ∧ ∃ us : List T, acc = us.map W.t ∧ us.length = i ∧ ∀ (j : Nat) (x : ι) (u : T), items[j]? = some x → us[j]? = some u → P x u, ⟨rfl, [], rfl, rfl, fun j x u _ h => by simp at h⟩, ?_, ?_, by simpa using hlen, ?_⟩
  · rintro i acc g' ⟨rfl, us, rfl, hl, _⟩
    exact ⟨hSt, by rw [List.length_map]; omega⟩
  · rintro i acc w g' hw ⟨rfl, us, rfl, hl, hP⟩
    rw [List.getElem?_map] at hw
    cases e : items[i]? with
    | none => rw [e] at hw; cases hw
    | some x =>
      rw [e] at hw
      cases hw
      refine hel x (List.mem_of_getElem? e) _ fun u hu g4 h4 => ⟨h4, us ++ [u], by rw [List.map_append]; rfl, by rw [List.length_append, List.length_singleton, hl], fun j y v hy hv => ?_⟩
      rcases Nat.lt_or_ge j us.length with q | q
      · rw [List.getElem?_append_left q] at hv
        exact hP j y v hy hv
      · rw [List.getElem?_append_right q] at hv
        rcases Nat.eq_or_lt_of_le q with q2 | q2
        · rw [← q2, Nat.sub_self] at hv
          cases hv
          rw [← q2, hl, e] at hy
          cases hy
          exact hu
        · rw [List.getElem?_eq_none (by simp; omega)] at hv
          cases hv
  · rintro acc g' ⟨rfl, us, rfl, hl, hP⟩
    exact hQ us (by rw [hl, List.length_map]) hP
local macro_rules | `(tactic| walk_at "y1") => `(tactic| first
  | with_reducible refine i_seq ?_
  | with_reducible refine i_asg ?_
  | with_reducible refine i_d2 ?_
  | ((with_reducible refine' i_var ?e ?_); (case e => rfl))
  | with_reducible refine i_c ?_
  | ((with_reducible refine' i_ix ?e ?v ?_); (case e => rfl); (case v => first | assumption | rfl))
  | with_reducible refine i_fI0 ?_
  | with_reducible refine i_gN ?_
  | with_reducible refine i_cons ?_
  | with_reducible refine i_nil ?_
  | with_reducible refine i_dN ?_
  | ((with_reducible refine' i_len ?e ?_); (case e => rfl))
  | with_reducible refine i_d1 ?_
  | with_reducible refine i_neg ?_
  | with_reducible refine i_B ?_
  | with_reducible refine o_B ?_
  | with_reducible refine o_I ?_
  | with_reducible refine i_ifS ?_
  | with_reducible refine i_or ?_
  | with_reducible refine i_and ?_
  | with_reducible refine i_not ?_
  | with_reducible refine i_andV ?_
  | with_reducible refine i_orV ?_
  | with_reducible refine i_notV ?_
  | with_reducible refine i_if ?_
  | with_reducible refine i_yes ?_
  | with_reducible refine k_T ?_
  | with_reducible refine k_F ?_
  | with_reducible refine k_True ?_
  | with_reducible refine k_False ?_
  | with_reducible refine i_eqI ?_
  | with_reducible refine i_neI ?_
  | with_reducible refine i_addI ?_
  | with_reducible refine i_addHI ?_
  | with_reducible refine i_callT ?_
  | with_reducible refine i_callH ?_
  | ((with_reducible refine' o_Ts ?e ?_); (case e => rfl))
  | with_reducible refine o_T ?_
  | ((with_reducible refine' o_TF ?e ?_); (case e => rfl))
  | with_reducible refine o_H ?_
  | ((with_reducible refine' o_HF ?e ?_); (case e => rfl))
  | with_reducible refine i_next ?_
  | with_reducible refine i_drop ?_
  | with_reducible refine i_ret ?_
  | with_reducible refine i_retN ?_
  | ((with_reducible refine' i_gTup ?e ?_); (case e => rfl))
  | with_reducible refine i_gCons ?_
  | with_reducible refine i_gNil ?_
  | with_reducible refine i_min2 ?_
  | with_reducible refine i_max2 ?_
  | with_reducible refine i_par ?_
  | with_reducible refine o_W2 ?_
  | ((with_reducible refine' i_aug ?e ?_); (case e => rfl))
  | with_reducible refine i_intI ?_
  | with_reducible refine i_intB ?_
  | with_reducible refine i_lc ?_
  | with_reducible refine i_for ?_
  | with_reducible refine i_while ?_
  | with_reducible refine i_itL ?_
  | ((with_reducible refine' o_Lq ?e ?_); (case e => rfl))
  | with_reducible refine i_itR1 ?_
  | with_reducible refine i_itR2 ?_
  | with_reducible refine o_I1 ?_
  | with_reducible refine o_I2 ?_
  | with_reducible refine e_t ?_
  | ((with_reducible refine' e_h ?e ?p ?_); (case e => rfl); (case p => rfl))
  | with_reducible refine i_M ?_
  | with_reducible refine i_M0 ?_
  | with_reducible refine i_gSub ?_
  | with_reducible refine i_finH ?_
  | with_reducible refine i_finT ?_
  | with_reducible refine i_sl ?_
  | with_reducible refine i_slH ?_
  | with_reducible refine i_slT ?_
  | with_reducible refine i_noPart ?_
  | with_reducible refine i_part ?_
  | ((with_reducible refine' i_frzT ?e ?_); (case e => rfl))
  | ((with_reducible refine' i_frzH ?e ?m ?t ?_); (case e => rfl); (case m => rfl); (case t => rfl))
  | ((with_reducible refine' i_din ?k ?e ?_); (case k => rfl); (case e => rfl))
  | ((with_reducible refine' i_dnotin ?k ?e ?_); (case k => rfl); (case e => rfl))
  | with_reducible refine i_dput ?_
  | with_reducible refine i_newD ?_
  | with_reducible refine i_lstH ?_
  | with_reducible refine i_lst ?_
  | with_reducible refine i_tup ?_
  | with_reducible refine i_break ?_
  | with_reducible refine i_cont ?_
  | with_reducible refine i_callS ?_
  | ((with_reducible refine' i_ixHW ?e ?v ?_); (case e => first | rfl | assumption); (case v => first | assumption | rfl))
  | ((with_reducible refine' i_ixHT ?e ?v ?_); (case e => first | rfl | assumption); (case v => first | assumption | rfl))
  | ((with_reducible refine' i_lenHT ?e ?_); (case e => first | rfl | assumption))
  | ((with_reducible refine' i_lenHW ?e ?_); (case e => first | rfl | assumption))
  | ((with_reducible refine' i_frzH ?e ?m ?t ?_); (case e => rfl); (case m => rfl); (case t => rfl))
  | ((with_reducible refine' i_unw ?e ?n ?_); (case e => rfl); (case n => rfl))
  | with_reducible refine i_gwCons ?_
  | with_reducible refine i_gwNil ?_
  | with_reducible refine i_lstW ?_
  | ((with_reducible refine' i_gList ?e ?n ?_); (case e => rfl); (case n => rfl))
  | with_reducible refine i_listRgH ?_
  | with_reducible refine i_listRg ?_
  | with_reducible refine i_R1 ?_
  | with_reducible refine i_getD ?_
  | ((with_reducible refine' i_none ?k ?_); (case k => rfl))
  | with_reducible refine y_seq ?_
  | with_reducible refine y_plain ?_
  | with_reducible refine y_if ?_
  | with_reducible refine y_expr ?_
  | with_reducible refine y_call ?_
  | with_reducible refine y_raise ?_
  | with_reducible refine y_for ?_
  | walk_at "dn")
local macro_rules | `(tactic| walk_at "yl") => `(tactic| ((try walk_at "dn"); repeat walk_at "y1"))
/-! answers that are none -/
abbrev RL : List Str := ["NoAnswer"]
abbrev ML : List Str := ["NoAnswer", "NoCode"]
def BadAn (as : List Int) (bd : Int) : Prop := as.length ≤ 1000 ∧ (bd < 0 ∨ ∃ a ∈ as, a ≠ 0 ∧ a ≠ 1)
def R_look_answers : RY := fun ts x => ∃ (as : List Int) (bd : Int), ts = [.lst (as.map T.int), .int bd] ∧ BadAn as bd ∧ x = .exc "NoAnswer"
theorem lnx_look_answers : ∀ ts n, R_look_answers ts n → ts.length = ["answers", "bound"].length := by rintro ts n ⟨_, _, rfl, _⟩; rfl
def rx_look_answers : DYt :=
  yIf (dOr (dB (d2 (fI0 fun i j => .bl (decide (i < j))) (dVar 1) (dC (.int 0)))) (dB (d2 (fEq true) (dLc finT (diL (dVar 0)) (dgN 2) (dAnd (dB (d2 (fEq true) (dVar 2) (dC (.int 0)))) (dB (d2 (fEq true) (dVar 2) (dC (.int 1))))) (dVar 2) [2]) (dLst (dNil))))) (yRaise "NoAnswer") (yPlain dNext)

theorem rpx_look_answers : ∀ ts n, R_look_answers ts n → rx_look_answers ⟨fun _ => False, fun _ _ => False, fun _ => False, fun _ => False⟩ (fun m _ => m = n) ⟨ts.map (fun t => some (W.t t)) ++ List.replicate (3 - ts.length) none, []⟩ := by
  rintro ts n ⟨as, bd, rfl, ⟨hl, hb⟩, rfl⟩
  unfold rx_look_answers
  walk_at "yl"
  refine k_d (fun h => ?_) (fun h => ?_)
  · walk_at "yl"
  · walk_at "yl"
    have hb2 : ∃ a ∈ as, a ≠ 0 ∧ a ≠ 1 := by
      rcases hb with hb | hb
      · exact absurd hb h
      · exact hb
    refine lcP as (fun i => W.t (.int i)) (fun i => !decide (i = 0) && !decide (i = 1)) (fun i => T.int i) (by rw [List.map_map]; rfl) (Nat.le_trans hl (by show 1000 ≤ sizeLine; decide)) rfl (fun x hx Y N hY hN => ?_) rfl ?_
    · walk_at "yl"
      refine k_n (fun h1 => ?_) (fun h1 => ?_)
      · walk_at "yl"
        refine k_n (fun h2 => ?_) (fun h2 => ?_)
        · walk_at "yl"
          exact hY (by simp [h1, h2]) _ rfl
        · exact hN (by simp [h2]) _ rfl
      · exact hN (by simp [h1]) _ rfl
    · obtain ⟨a, ha, h1, h2⟩ := hb2
      have hm : a ∈ as.filter (fun i => !decide (i = 0) && !decide (i = 1)) := List.mem_filter.mpr ⟨ha, by simp [h1, h2]⟩
      cases hf : as.filter (fun i => !decide (i = 0) && !decide (i = 1)) with
      | nil => rw [hf] at hm; cases hm
      | cons b r =>
        walk_at "yl"
        refine ⟨(b :: r).map T.int, rfl, ?_⟩
        walk_at "yl"
        refine ⟨Nat.zero_le _, ?_⟩
        refine i_neT (u := .lst ((b :: r).map T.int)) (v := .lst []) rfl rfl (List.all_eq_true.mpr fun y hy => by
          obtain ⟨z, _, rfl⟩ := List.mem_map.mp hy
          rfl) rfl ?_
        rw [show teq (.lst ((b :: r).map T.int)) (.lst []) = false from teq_lst_nil, show (!false) = true from rfl]
        walk_at "yl"
def R_step : RY := fun ts x => ∃ (cs : List Ins) (t : T) (as : List Int) (bd : Int), ts = [codeT cs, t, .lst (as.map T.int), .int bd] ∧ CodeOk cs ∧ BadAn as bd ∧ x = .exc "NoAnswer"
theorem lnx_step : ∀ ts n, R_step ts n → ts.length = ["code", "state", "answers", "bound"].length := by rintro ts n ⟨_, _, _, _, rfl, _⟩; rfl
def rx_step : DYt :=
  ySeq (yPlain (dDrop (dCallT C_look_code (dCons (dVar 0) (dNil)))))
  (ySeq (yExpr (yCall R_look_answers (dCons (dVar 2) (dCons (dVar 3) (dNil)))))
  (yDead))

theorem rpx_step : ∀ ts n, R_step ts n → rx_step ⟨fun _ => False, fun _ _ => False, fun _ => False, fun _ => False⟩ (fun m _ => m = n) ⟨ts.map (fun t => some (W.t t)) ++ List.replicate (4 - ts.length) none, []⟩ := by
  rintro ts n ⟨cs, t, as, bd, rfl, hc, hb, rfl⟩
  unfold rx_step
  walk_at "yl"
  refine hc.look ?_
  walk_at "yl"
  exact ⟨_, ⟨as, bd, rfl, hb, rfl⟩, rfl⟩
def R_run_code : RY := fun ts x => ∃ (cs : List Ins) (as : List Int) (bd : Int), ts = [codeT cs, .lst (as.map T.int), .int bd] ∧ CodeOk cs ∧ BadAn as bd ∧ x = .exc "NoAnswer"
theorem lnx_run_code : ∀ ts n, R_run_code ts n → ts.length = ["code", "answers", "bound"].length := by rintro ts n ⟨_, _, _, rfl, _⟩; rfl
def rx_run_code : DYt :=
  ySeq (yPlain (dDrop (dCallT C_look_code (dCons (dVar 0) (dNil)))))
  (ySeq (yExpr (yCall R_look_answers (dCons (dVar 1) (dCons (dVar 2) (dNil)))))
  (yDead))

theorem rpx_run_code : ∀ ts n, R_run_code ts n → rx_run_code ⟨fun _ => False, fun _ _ => False, fun _ => False, fun _ => False⟩ (fun m _ => m = n) ⟨ts.map (fun t => some (W.t t)) ++ List.replicate (5 - ts.length) none, []⟩ := by
  rintro ts n ⟨cs, as, bd, rfl, hc, hb, rfl⟩
  unfold rx_run_code
  walk_at "yl"
  refine hc.look ?_
  walk_at "yl"
  exact ⟨_, ⟨as, bd, rfl, hb, rfl⟩, rfl⟩
def C__law_refused : PC := fun ts Q => ∃ (k : Nat) (cs : List Ins) (as : List Int) (bd : Int), ts = [.int (k : Nat), codeT cs, .lst (as.map T.int), .int bd] ∧ k < 2 ∧ CodeOk cs ∧ BadAn as bd ∧ Q (.t (.bl true))
theorem ln__law_refused : ∀ ts Q, C__law_refused ts Q → ts.length = ["_law_way", "_law_code", "_law_answers", "_law_bound"].length := by rintro ts Q ⟨_, _, _, _, rfl, _⟩; rfl
def rd__law_refused : DSt :=
  dSeq (dAsg (dC .non) (dgN 4))
  (dSeq (dTryY RL 5 4 (ySeq (yIf (dB (d2 (fEq false) (dVar 0) (dC (.int 0)))) (yExpr (yCall R_step (dCons (dVar 1) (dCons (dCallT C_begun (dNil)) (dCons (dVar 2) (dCons (dVar 3) (dNil))))))) (yPlain dNext))
  (yIf (dB (d2 (fEq false) (dVar 0) (dC (.int 1)))) (yExpr (yCall R_run_code (dCons (dVar 1) (dCons (dVar 2) (dCons (dVar 3) (dNil)))))) (yPlain dNext))))
  (dRet (dAndV (dIsY RL 4 ["NoAnswer"]) (dAndV (dIsY RL 4 ["ValueError"]) (dNotV (dIsY RL 4 ["NoCode"]))))))

theorem rp__law_refused : ∀ ts Q, C__law_refused ts Q → rd__law_refused ⟨FinP Q (.t .non), FinP Q, fun _ => False, fun _ => False⟩ ⟨ts.map (fun t => some (W.t t)) ++ List.replicate (6 - ts.length) none, []⟩ := by
  rintro ts Q ⟨k, cs, as, bd, rfl, hk, hc, hb, hQ⟩
  unfold rd__law_refused
  walk_at "yl"
  refine y_try ?_
  walk_at "yl"
  refine k_d (fun h => ?_) (fun h => ?_)
  · walk_at "yl"
    refine ⟨rfl, ?_⟩
    walk_at "yl"
    refine ⟨_, ⟨cs, _, as, bd, rfl, hc, hb, rfl⟩, ⟨"NoAnswer", List.mem_cons_self, rfl⟩, by show 5 < 6; decide, ?_⟩
    walk_at "yl"
    refine i_isY (n := "NoAnswer") rfl rfl (by decide) ?_
    rw [show ((["NoAnswer"] : List Str).any (subX "NoAnswer")) = true by decide +kernel]
    walk_at "yl"
    refine i_isY (n := "NoAnswer") rfl rfl (by decide) ?_
    rw [show ((["ValueError"] : List Str).any (subX "NoAnswer")) = true by decide +kernel]
    walk_at "yl"
    refine i_isY (n := "NoAnswer") rfl rfl (by decide) ?_
    rw [show ((["NoCode"] : List Str).any (subX "NoAnswer")) = false by decide +kernel]
    walk_at "yl"
    exact hQ
  · walk_at "yl"
    refine k_d (fun h1 => ?_) (fun h1 => absurd (by omega) h1)
    walk_at "yl"
    refine ⟨_, ⟨cs, as, bd, rfl, hc, hb, rfl⟩, ⟨"NoAnswer", List.mem_cons_self, rfl⟩, by show 5 < 6; decide, ?_⟩
    walk_at "yl"
    refine i_isY (n := "NoAnswer") rfl rfl (by decide) ?_
    rw [show ((["NoAnswer"] : List Str).any (subX "NoAnswer")) = true by decide +kernel]
    walk_at "yl"
    refine i_isY (n := "NoAnswer") rfl rfl (by decide) ?_
    rw [show ((["ValueError"] : List Str).any (subX "NoAnswer")) = true by decide +kernel]
    walk_at "yl"
    refine i_isY (n := "NoAnswer") rfl rfl (by decide) ?_
    rw [show ((["NoCode"] : List Str).any (subX "NoAnswer")) = false by decide +kernel]
    walk_at "yl"
    exact hQ
/-! states looked at, and codes without rows -/
def C__law_whole_state : PC := fun ts Q => ∃ s : MS, ts = [s.t] ∧ Q (.t (.bl true))
theorem ln__law_whole_state : ∀ ts Q, C__law_whole_state ts Q → ts.length = ["_law_state"].length := by rintro ts Q ⟨_, rfl, _⟩; rfl
def rd__law_whole_state : DSt :=
  dSeq (dIfS (dOr (dNot (dB (dN fIsi (dCons (dVar 0) (dCons (dC (.raw (.ty "tuple"))) (dNil)))))) (dB (d2 (fEq true) (dN fLen (dCons (dVar 0) (dNil))) (dC (.int 8))))) (dRet (dC (.bl false))) (dNext))
  (dSeq (dFor (diL (dLst (dCons (dC (.int 0)) (dCons (dC (.int 4)) (dCons (dC (.int 6)) (dCons (dC (.int 7)) (dNil))))))) (dgN 1) (dIfS (dNot (dB (dCallT C__law_whole (dCons (d2 fIx (dVar 0) (dVar 1)) (dNil))))) (dRet (dC (.bl false))) (dNext)))
  (dRet (d2 (fEq false) (dLc finT (diL (dLst (dCons (d2 fIx (dVar 0) (dC (.int 1))) (dCons (d2 fIx (dVar 0) (dC (.int 2))) (dCons (d2 fIx (dVar 0) (dC (.int 3))) (dCons (d2 fIx (dVar 0) (dC (.int 5))) (dNil))))))) (dgN 2) (dNot (dB (dN fIsi (dCons (dVar 2) (dCons (dC (.raw (.ty "list"))) (dNil)))))) (dVar 2) [2]) (dLst (dNil)))))

theorem rp__law_whole_state : ∀ ts Q, C__law_whole_state ts Q → rd__law_whole_state ⟨FinP Q (.t .non), FinP Q, fun _ => False, fun _ => False⟩ ⟨ts.map (fun t => some (W.t t)) ++ List.replicate (3 - ts.length) none, []⟩ := by
  rintro ts Q ⟨⟨at_, fr, bx, tl, ch, rw_, us, idle⟩, rfl, hQ⟩
  unfold rd__law_whole_state MS.t
  walk_at "dl"
  refine i_isi (a := "tuple") (b := true) rfl rfl ?_
  walk_at "dl"
  try rw [show (!true) = false from rfl]
  walk_at "dl"
  refine k_nF (by first | trivial | rfl) ?_
  walk_at "dl"
  refine ⟨szM rfl, ?_⟩
  walk_at "dl"
  refine forP ([0, 4, 6, 7] : List Nat) (fun k => W.t (.int ((k : Nat) : Int))) (fun _ _ => ()) (fun _ g' => ∃ o1 : Option W, g' = ⟨[some (.t (MS.t ⟨at_, fr, bx, tl, ch, rw_, us, idle⟩)), o1, none], []⟩) () rfl ⟨_, rfl⟩ (fun _ _ _ => rfl) ?_ ?_
  · rintro pre k post hsp g' ⟨o1, rfl⟩ N hN
    have hk : k ∈ ([0, 4, 6, 7] : List Nat) := by rw [hsp]; simp
    have hv : ∃ i, atI [T.int at_, .lst (fr.map tripT), .lst (bx.map pairT), .lst (tl.map tripT), .int ch, .lst (rw_.map T.int), .int us, .int idle] ((k : Nat) : Int) = some (.int i) := by
      simp only [List.mem_cons, List.not_mem_nil, or_false] at hk
      rcases hk with rfl | rfl | rfl | rfl
      · exact ⟨_, atI_nat (j := 0) rfl⟩
      · exact ⟨_, atI_nat (j := 4) rfl⟩
      · exact ⟨_, atI_nat (j := 6) rfl⟩
      · exact ⟨_, atI_nat (j := 7) rfl⟩
    obtain ⟨i, hv⟩ := hv
    walk_at "dl"
    refine ⟨.int i, rfl, .int i, ?_⟩
    walk_at "dl"
    rw [show (!numT (.int i)) = false from rfl]
    walk_at "dl"
    exact hN _ ⟨_, rfl⟩
  · rintro g' ⟨o1, rfl⟩
    walk_at "dl"
    refine ⟨szM rfl, ?_⟩
    walk_at "dl"
    refine lcP ([fr.map tripT, bx.map pairT, tl.map tripT, rw_.map T.int] : List (List T)) (fun x => W.t (.lst x)) (fun _ => false) (fun x => T.lst x) rfl (szM rfl) rfl (fun x hx Y N hY hN => ?_) rfl ?_
    · walk_at "dl"
      refine i_isi (a := "list") (b := true) rfl rfl ?_
      walk_at "dl"
      try rw [show (!true) = false from rfl]
      walk_at "dl"
      exact hN rfl _ rfl
    · rw [List.filter_eq_nil_iff.mpr (fun _ _ => by decide)]
      walk_at "dl"
      refine ⟨[], rfl, ?_⟩
      walk_at "dl"
      refine ⟨Nat.zero_le _, ?_⟩
      refine i_eqT (u := .lst []) (v := .lst []) rfl rfl rfl rfl ?_
      rw [teq_nil_nil]
      exact hQ
/-- so many adds, and a back -/
def addsC (m : Nat) : List Ins := List.replicate m (.add 1) ++ [.back]
def addS (k : Nat) : MS := ⟨k, [(-1, k, 0)], [], [], 0, [], 0, k⟩
theorem adds_run {m : Nat} {w : Wd} {s' : MS} : ∀ {k : Nat} (j : Nat), j + k = 1000 → k ≤ m → Runs (addsC m) [] 5 (addS k) w s' → w = (if 999 < m then .astray else .ended) ∧ s' = addS (min m 1000)
  | k, j, hj, hk, h => by
    have hget : (addsC m)[k]? = some (if k = m then .back else .add 1) := by
      unfold addsC
      by_cases e : k = m
      · rw [if_pos e, e, List.getElem?_append_right (by simp), List.length_replicate, Nat.sub_self]
        rfl
      · rw [if_neg e, List.getElem?_append_left (by simp; omega), List.getElem?_replicate, if_pos (by omega)]
    have hst : stM (addsC m) (addS k) [] 5 = if 1000 ≤ k then some .astray else if k = m then some .ended else none := by
      unfold stM addS
      dsimp only
      rw [Int.toNat_natCast, hget]
      dsimp only
      by_cases h1 : 1000 ≤ k
      · rw [if_pos (by omega), if_pos h1]
      · rw [if_neg (by omega), if_neg h1]
        by_cases e : k = m
        · rw [if_pos e, if_pos e, if_neg (by simp [Ins.rowy]), if_neg (by simp [Ins.isAsk]), if_pos (by simp [Ins.isBack])]
        · rw [if_neg e, if_neg e, if_neg (by simp [Ins.rowy]), if_neg (by simp [Ins.isAsk]), if_neg (by simp [Ins.isBack])]
    cases h with
    | stop hs =>
      rw [hst] at hs
      by_cases h1 : 1000 ≤ k
      · rw [if_pos h1] at hs
        cases hs
        rw [if_pos (by omega), show min m 1000 = k by omega]
        exact ⟨rfl, rfl⟩
      · rw [if_neg h1] at hs
        by_cases e : k = m
        · rw [if_pos e] at hs
          cases hs
          rw [if_neg (by omega), show min m 1000 = k by omega]
          exact ⟨rfl, rfl⟩
        · rw [if_neg e] at hs
          cases hs
    | go hs r =>
      rw [hst] at hs
      by_cases h1 : 1000 ≤ k
      · rw [if_pos h1] at hs; cases hs
      rw [if_neg h1] at hs
      by_cases e : k = m
      · rw [if_pos e] at hs; cases hs
      have hn : nxM (addsC m) (addS k) [] = addS (k + 1) := by
        unfold nxM addS
        dsimp only
        rw [Int.toNat_natCast, hget, if_neg e]
        rfl
      rw [hn] at r
      match j, hj with
      | 0, hj => exact absurd hj (by omega)
      | j + 1, hj => exact adds_run j (by omega) (by omega) r
def jmpS (k : Nat) : MS := ⟨0, [(-1, 0, 0)], [], [], 0, [], 0, k⟩
theorem jump_run {w : Wd} {s' : MS} : ∀ {k : Nat} (j : Nat), j + k = 1000 → Runs [.jump 0] [] 5 (jmpS k) w s' → w = .astray ∧ s' = jmpS 1000
  | k, j, hj, h => by
    have hst : stM [.jump 0] (jmpS k) [] 5 = if 1000 ≤ k then some .astray else none := by
      unfold stM jmpS
      show (if (1000 : Int) ≤ (k : Int) then some Wd.astray else _) = _
      by_cases h1 : 1000 ≤ k
      · rw [if_pos (by omega), if_pos h1]
      · rw [if_neg (by omega), if_neg h1]
        rfl
    cases h with
    | stop hs =>
      rw [hst] at hs
      by_cases h1 : 1000 ≤ k
      · rw [if_pos h1] at hs
        cases hs
        rw [show k = 1000 by omega]
        exact ⟨rfl, rfl⟩
      · rw [if_neg h1] at hs
        cases hs
    | go hs r =>
      rw [hst] at hs
      by_cases h1 : 1000 ≤ k
      · rw [if_pos h1] at hs; cases hs
      have hn : nxM [.jump 0] (jmpS k) [] = jmpS (k + 1) := rfl
      rw [hn] at r
      match j, hj with
      | 0, hj => exact absurd hj (by omega)
      | j + 1, hj => exact jump_run j (by omega) r
theorem trip_teq (x : P3) : teq (tripT x) (tripT x) = true := teqM_tup fun y hy => by
  rcases List.mem_cons.mp hy with rfl | hy
  · exact teqM_int _
  rcases List.mem_cons.mp hy with rfl | hy
  · exact teqM_int _
  rcases List.mem_cons.mp hy with rfl | hy
  · exact teqM_int _
  · cases hy
theorem pair_teq (x : Int × Int) : teq (pairT x) (pairT x) = true := teqM_tup fun y hy => by
  rcases List.mem_cons.mp hy with rfl | hy
  · exact teqM_int _
  rcases List.mem_cons.mp hy with rfl | hy
  · exact teqM_int _
  · cases hy
theorem map_teq {α : Type} {f : α → T} (h : ∀ x, teq (f x) (f x) = true) (xs : List α) : teq (.lst (xs.map f)) (.lst (xs.map f)) = true := teqM_lst fun y hy => by
  obtain ⟨x, _, rfl⟩ := List.mem_map.mp hy
  exact h x
theorem MS.teq (s : MS) : DL.teq s.t s.t = true := by
  unfold MS.t
  refine teqM_tup fun y hy => ?_
  simp only [List.mem_cons, List.not_mem_nil, or_false] at hy
  rcases hy with rfl | rfl | rfl | rfl | rfl | rfl | rfl | rfl
  · exact teqM_int _
  · exact map_teq trip_teq _
  · exact map_teq pair_teq _
  · exact map_teq trip_teq _
  · exact teqM_int _
  · exact map_teq teqM_int _
  · exact teqM_int _
  · exact teqM_int _
theorem map_sh {α : Type} {f : α → T} {n : Nat} (h : ∀ x, (f x).sh n = true) (xs : List α) : (T.lst (xs.map f)).sh (n + 1) = true := List.all_eq_true.mpr fun y hy => by
  obtain ⟨x, _, rfl⟩ := List.mem_map.mp hy
  exact h x
theorem MS.sh (s : MS) (n : Nat) : s.t.sh (n + 4) = true := by
  unfold MS.t
  refine List.all_eq_true.mpr fun y hy => ?_
  simp only [List.mem_cons, List.not_mem_nil, or_false] at hy
  rcases hy with rfl | rfl | rfl | rfl | rfl | rfl | rfl | rfl
  · rfl
  · exact map_sh (n := n + 2) (fun _ => rfl) _
  · exact map_sh (n := n + 2) (fun _ => rfl) _
  · exact map_sh (n := n + 2) (fun _ => rfl) _
  · rfl
  · exact map_sh (n := n + 2) (fun _ => rfl) _
  · rfl
  · rfl
theorem Wd.ok (w : Wd) : PyData.strOk w.s = true := by cases w <;> decide +kernel
theorem last_teq (w : Wd) (s : MS) : DL.teq (.tup [.str w.s, s.t]) (.tup [.str w.s, s.t]) = true := teqM_tup fun y hy => by
  rcases List.mem_cons.mp hy with rfl | hy
  · exact teqM_str _
  rcases List.mem_cons.mp hy with rfl | hy
  · exact s.teq
  · cases hy
theorem last_sh (w : Wd) (s : MS) : (T.tup [.str w.s, s.t]).sh 8 = true := List.all_eq_true.mpr fun y hy => by
  rcases List.mem_cons.mp hy with rfl | hy
  · exact w.ok
  rcases List.mem_cons.mp hy with rfl | hy
  · exact s.sh 3
  · cases hy
/-! codes without rows, in the law -/
theorem rep_t {m : Nat} : (List.replicate m [T.tup [T.str (PySem.Str.ofString "add"), .int 1]]).flatten ++ [T.tup [T.str (PySem.Str.ofString "back")]] = (addsC m).map Ins.t := by
  unfold addsC
  rw [List.map_append, List.map_replicate]
  congr 1
  induction m with
  | zero => rfl
  | succ m ih => rw [List.replicate_succ, List.replicate_succ, List.flatten_cons, ih]; rfl
theorem adds_ok {m : Nat} (hm : m ≤ 1500) : CodeOk (addsC m) := by
  have hl : (addsC m).length = m + 1 := by unfold addsC; rw [List.length_append, List.length_replicate]; rfl
  refine ⟨fun e => by rw [e] at hl; simp at hl, by omega, fun i hi => ?_⟩
  unfold addsC at hi
  rcases List.mem_append.mp hi with hi | hi
  · rw [(List.mem_replicate.mp hi).2]; trivial
  · rw [List.mem_singleton] at hi; subst hi; trivial
theorem ans_nil : Ans [] := ⟨fun a ha => (List.not_mem_nil ha).elim, Nat.zero_le _⟩
def C__law_idle : PC := fun ts Q => ∃ n : Int, ts = [.int n] ∧ Q (.t (.bl true))
theorem ln__law_idle : ∀ ts Q, C__law_idle ts Q → ts.length = ["_law_number"].length := by rintro ts Q ⟨_, rfl, _⟩; rfl
def rd__law_idle : DSt :=
  dSeq (dAsg (d2 fAdd (dC (.int 990)) (d2 (fI (fun _ j => j ≠ 0) fun i j => .int (i.fmod j)) (dVar 0) (dC (.int 21)))) (dgN 1))
  (dSeq (dAsg (dN fMin (dCons (dVar 1) (dCons (dC (.int 1000)) (dNil)))) (dgN 2))
  (dSeq (dAsg (dCallT C_run_code (dCons (d2 fAdd (d2 fRep (dLst (dCons (dTup (dCons (dC (.str (PySem.Str.ofString "add"))) (dCons (dC (.int 1)) (dNil)))) (dNil))) (dVar 1)) (dLst (dCons (dTup (dCons (dC (.str (PySem.Str.ofString "back"))) (dNil))) (dNil)))) (dCons (dLst (dNil)) (dCons (dC (.int 5)) (dNil))))) (dgN 3))
  (dSeq (dIfS (dB (d2 (fEq true) (dVar 3) (dTup (dCons (d2 fIx (dLst (dCons (dC (.str (PySem.Str.ofString "ended"))) (dCons (dC (.str (PySem.Str.ofString "astray"))) (dNil)))) (dN fInt (dCons (d2 (fI0 fun i j => .bl (decide (j < i))) (dVar 1) (dC (.int 999))) (dNil)))) (dCons (dTup (dCons (dVar 2) (dCons (dLst (dCons (dTup (dCons (d1 fNeg (dC (.int 1))) (dCons (dVar 2) (dCons (dC (.int 0)) (dNil))))) (dNil))) (dCons (dLst (dNil)) (dCons (dLst (dNil)) (dCons (dC (.int 0)) (dCons (dLst (dNil)) (dCons (dC (.int 0)) (dCons (dVar 2) (dNil)))))))))) (dNil)))))) (dRet (dC (.bl false))) (dNext))
  (dRet (d2 (fEq false) (dCallT C_run_code (dCons (dLst (dCons (dTup (dCons (dC (.str (PySem.Str.ofString "jump"))) (dCons (dC (.int 0)) (dNil)))) (dNil))) (dCons (dLst (dNil)) (dCons (dC (.int 5)) (dNil))))) (dTup (dCons (dC (.str (PySem.Str.ofString "astray"))) (dCons (dTup (dCons (dC (.int 0)) (dCons (dLst (dCons (dTup (dCons (d1 fNeg (dC (.int 1))) (dCons (dC (.int 0)) (dCons (dC (.int 0)) (dNil))))) (dNil))) (dCons (dLst (dNil)) (dCons (dLst (dNil)) (dCons (dC (.int 0)) (dCons (dLst (dNil)) (dCons (dC (.int 0)) (dCons (dC (.int 1000)) (dNil)))))))))) (dNil)))))))))

theorem rp__law_idle : ∀ ts Q, C__law_idle ts Q → rd__law_idle ⟨FinP Q (.t .non), FinP Q, fun _ => False, fun _ => False⟩ ⟨ts.map (fun t => some (W.t t)) ++ List.replicate (4 - ts.length) none, []⟩ := by
  rintro ts Q ⟨n, rfl, hQ⟩
  unfold rd__law_idle
  walk_at "dl"
  refine i_fI (by decide) ?_
  have hn := fmodR (a := n) (n := 21) (by decide)
  obtain ⟨m, hm⟩ : ∃ m : Nat, 990 + n.fmod 21 = (m : Int) := ⟨(990 + n.fmod 21).toNat, (Int.toNat_of_nonneg (by omega)).symm⟩
  walk_at "dl"
  rw [hm]
  have hm2 : (if (1000 : Int) < (m : Int) then (1000 : Int) else (m : Int)) = ((min m 1000 : Nat) : Int) := by
    split <;> omega
  walk_at "dl"
  rw [hm2]
  walk_at "dl"
  refine ⟨szM rfl, ?_⟩
  walk_at "dl"
  refine ⟨szM rfl, ?_⟩
  walk_at "dl"
  refine i_rep (xs := [T.tup [T.str (PySem.Str.ofString "add"), .int 1]]) rfl ⟨by omega, by omega, szN (by rw [List.length_singleton, Int.toNat_natCast]; omega)⟩ ?_
  rw [Int.toNat_natCast]
  walk_at "dl"
  refine ⟨szM rfl, ?_⟩
  walk_at "dl"
  refine ⟨szM rfl, ?_⟩
  refine i_addL (xs := (List.replicate m [T.tup [T.str (PySem.Str.ofString "add"), .int 1]]).flatten) (ys := [T.tup [T.str (PySem.Str.ofString "back")]]) rfl rfl (szN (by
    have e : ((List.replicate m [T.tup [T.str (PySem.Str.ofString "add"), .int 1]]).flatten).length + 1 = m + 1 := by
      have e := congrArg List.length (rep_t (m := m))
      rw [List.length_append, List.length_map] at e
      unfold addsC at e
      rw [List.length_append, List.length_replicate] at e
      exact e
    show ((List.replicate m [T.tup [T.str (PySem.Str.ofString "add"), .int 1]]).flatten).length + 1 ≤ 11000000
    omega)) ?_
  rw [rep_t]
  walk_at "dl"
  refine ⟨Nat.zero_le _, ?_⟩
  walk_at "dl"
  refine ⟨addsC m, [], 5, rfl, adds_ok (by omega), ans_nil, by decide, by decide, fun w s' hr => ?_⟩
  obtain ⟨rfl, rfl⟩ := adds_run (m := m) (k := 0) 1000 rfl (Nat.zero_le _) hr
  walk_at "dl"
  refine ⟨szM rfl, ?_⟩
  walk_at "dl"
  have hd : (decide ((999 : Int) < (m : Int))) = decide (999 < m) := by
    by_cases h : 999 < m
    · rw [decide_eq_true h, decide_eq_true (by omega)]
    · rw [decide_eq_false h, decide_eq_false (by omega)]
  rw [hd]
  refine i_ix (us := [.str (PySem.Str.ofString "ended"), .str (PySem.Str.ofString "astray")]) (v := .str (if 999 < m then Wd.astray else Wd.ended).s) rfl (by
    by_cases h : 999 < m
    · rw [if_pos h, if_pos (decide_eq_true h)]
      exact atI_nat (j := 1) rfl
    · rw [if_neg h, if_neg (by simpa using h)]
      exact atI_nat (j := 0) rfl) ?_
  walk_at "dl"
  refine ⟨szM rfl, ?_⟩
  walk_at "dl"
  refine ⟨szM rfl, ?_⟩
  walk_at "dl"
  refine ⟨Nat.zero_le _, ?_⟩
  walk_at "dl"
  refine ⟨Nat.zero_le _, ?_⟩
  walk_at "dl"
  refine ⟨Nat.zero_le _, ?_⟩
  walk_at "dl"
  refine ⟨szM rfl, ?_⟩
  walk_at "dl"
  refine ⟨szM rfl, ?_⟩
  refine i_neT (u := .tup [.str (if 999 < m then Wd.astray else Wd.ended).s, (addS (min m 1000)).t]) (v := .tup [.str (if 999 < m then Wd.astray else Wd.ended).s, (addS (min m 1000)).t]) rfl rfl (last_sh _ _) (last_sh _ _) ?_
  rw [last_teq, show (!true) = false from rfl]
  walk_at "dl"
  refine ⟨szM rfl, ?_⟩
  walk_at "dl"
  refine ⟨szM rfl, ?_⟩
  walk_at "dl"
  refine ⟨Nat.zero_le _, ?_⟩
  walk_at "dl"
  refine ⟨[.jump 0], [], 5, rfl, ⟨by simp, by decide, fun i hi => by rw [List.mem_singleton] at hi; subst hi; exact ⟨by decide, by decide⟩⟩, ans_nil, by decide, by decide, fun w s' hr => ?_⟩
  obtain ⟨rfl, rfl⟩ := jump_run (k := 0) 1000 rfl hr
  walk_at "dl"
  refine ⟨szM rfl, ?_⟩
  walk_at "dl"
  refine ⟨szM rfl, ?_⟩
  walk_at "dl"
  refine ⟨Nat.zero_le _, ?_⟩
  walk_at "dl"
  refine ⟨Nat.zero_le _, ?_⟩
  walk_at "dl"
  refine ⟨Nat.zero_le _, ?_⟩
  walk_at "dl"
  refine ⟨szM rfl, ?_⟩
  walk_at "dl"
  refine ⟨szM rfl, ?_⟩
  refine i_eqT (u := .tup [.str Wd.astray.s, (jmpS 1000).t]) (v := .tup [.str Wd.astray.s, (jmpS 1000).t]) rfl rfl (last_sh _ _) (last_sh _ _) ?_
  rw [last_teq]
  exact hQ
def C_law : SC := fun ws m QC => ∃ ns : List Int, ws = [.t (.sq (ns.map T.int))] ∧ m = [] ∧ ns.length ≤ 63 ∧ QC (.t (.bl true)) [] []
theorem ln_law : ∀ ws m Q, C_law ws m Q → ws.length = ["_law_script"].length := by rintro ws m Q ⟨_, rfl, _⟩; rfl
theorem fin_new {QC : W → List Cell → List Cell → Prop} {w : W} {g : G} (ks : List Nat) (cs : List Cell) (w' : W) (nd : ks.Nodup) (lt : ∀ j ∈ ks, j < g.mem.length) (hw : w'.up ks = some w) (l2 : cs.length = ks.length)
    (hc : ∀ (i : Nat) (c' : Cell), cs[i]? = some c' → ∃ j c, ks[i]? = some j ∧ c'.up ks = some c ∧ g.mem[j]? = some (some c)) (q : QC w' [] cs) : FinS 0 QC w g :=
  ⟨ks, [], cs, w', by simpa using nd, by simpa using lt, by simpa using hw, rfl, l2, by simpa using hc, q⟩
theorem fin_true {QC : W → List Cell → List Cell → Prop} {g : G} (q : QC (.t (.bl true)) [] []) : FinS 0 QC (.t (.bl true)) g :=
  fin_new [] [] (.t (.bl true)) List.nodup_nil (fun j h => by simp at h) rfl rfl (fun i c e => by simp at e) q

theorem Runs.det {cs : List Ins} {as : List Int} {bd : Int} {s : MS} {w w2 : Wd} {s1 s2 : MS} (h1 : Runs cs as bd s w s1) : Runs cs as bd s w2 s2 → w = w2 ∧ s1 = s2 := by
  induction h1 with
  | stop h =>
    intro h2
    cases h2 with
    | stop h' => rw [h] at h'; cases h'; exact ⟨rfl, rfl⟩
    | go h' _ => rw [h] at h'; cases h'
  | go h _ ih =>
    intro h2
    cases h2 with
    | stop h' => rw [h] at h'; cases h'
    | go h' r' => exact ih r'
theorem live_tree {M : Sto} {n : Nat} {s : MS} {sl : List (Option W)} (L : LiveAt M n s) : (⟨sl, M⟩ : G).treeD 6 (.h (n + 4)) = some s.t := by
  have c : ∀ {d k : Nat} {ts : List T}, M[k]? = some (some (.lt ts)) → (⟨sl, M⟩ : G).treeD (d + 1) (.h k) = some (.lst ts) := fun {d k ts} e => by
    unfold G.treeD
    dsimp only
    rw [e]
  show (match M[n + 4]? with
    | some (some (.lt ts)) => some (T.lst ts)
    | some (some (.dt ks ts)) => some (.dk ks ts)
    | some (some (.lw ws)) => (match allS (ws.map ((⟨sl, M⟩ : G).treeD 5)) with | some ts => some (.lst ts) | none => none)
    | some (some (.tw ws)) => (match allS (ws.map ((⟨sl, M⟩ : G).treeD 5)) with | some ts => some (.tup ts) | none => none)
    | some (some (.ob n fs ws)) => (match allS (ws.map ((⟨sl, M⟩ : G).treeD 5)) with | some ts => some (.ob n fs ts) | none => none)
    | _ => none) = _
  rw [L.c4]
  simp only [List.map_cons, List.map_nil]
  rw [c L.c0, c L.c1, c L.c2, c L.c3]
  rfl
theorem callS_newL {C : SC} {ws : List W} {M : Sto} {s : MS} {sl : List (Option W)} {Q : W → G → Prop} (hw : ups [] ws = some ws) (h : ∀ QC : W → List Cell → List Cell → Prop, QC (.h 4) [] (stL s) → C ws [] QC) (q : Q (.h (M.length + 4)) ⟨sl, M ++ (stLn M.length s).map some⟩) : callS C ws ⟨sl, M⟩ Q :=
  ⟨[], [], ws, List.nodup_nil, rfl, hw, (fun i c e => by simp at e), h _ ⟨.h (M.length + 4), [], stLn M.length s, rfl, rfl, rfl, q⟩⟩
theorem live_new (M : Sto) (s : MS) : LiveAt (M ++ (stLn M.length s).map some) M.length s := by
  have g : ∀ k, (M ++ (stLn M.length s).map some)[M.length + k]? = ((stLn M.length s).map some)[k]? := fun k => by
    rw [List.getElem?_append_right (by omega), Nat.add_sub_cancel_left]
  exact ⟨g 0, g 1, g 2, g 3, g 4⟩
def rdl7 : DSt :=
  dSeq (dAsg (dTup (dCons (dN fListOf (dCons (dVar 3) (dNil))) (dCons (dN fListOf (dCons (dVar 4) (dNil))) (dNil)))) (dgN 7))
  (dSeq (dAsg (dTup (dCons (dC (.int 0)) (dCons (dLst (dCons (dTup (dCons (d1 fNeg (dC (.int 1))) (dCons (dC (.int 0)) (dCons (dC (.int 0)) (dNil))))) (dNil))) (dCons (dLst (dNil)) (dCons (dLst (dNil)) (dCons (dC (.int 0)) (dCons (dLst (dNil)) (dCons (dC (.int 0)) (dCons (dC (.int 0)) (dNil)))))))))) (dgN 8))
  (dSeq (dAsg (dCallS C_begunL (dNil)) (dgN 9))
  (dSeq (dAsg (dC .non) (dgN 10))
  (dSeq (dFor (diR1 (dCons (dC (.int 60)) (dNil))) (dgN 11) (dSeq (dIfS (dOr (dB (d2 (fEqN true) (dVar 9) (dVar 8))) (dNot (dB (dCallN C__law_whole_state (dCons (dVar 9) (dNil)))))) (dRet (dC (.bl false))) (dNext))
  (dSeq (dAsg (dCallT C__law_still (dCons (dVar 3) (dCons (dVar 8) (dCons (dVar 4) (dCons (dVar 5) (dNil)))))) (dgN 10))
  (dSeq (dAsg (dCallS C_stepL (dCons (d2 fIx (dVar 7) (dC (.int 0))) (dCons (dVar 9) (dCons (d2 fIx (dVar 7) (dC (.int 1))) (dCons (dVar 5) (dNil)))))) (dgN 12))
  (dSeq (dIfS (dOr (dB (d2 (fEqN true) (dVar 9) (dVar 8))) (dB (d2 (fEq true) (dVar 7) (dTup (dCons (dVar 3) (dCons (dVar 4) (dNil))))))) (dRet (dC (.bl false))) (dNext))
  (dSeq (dIfS (dB (d1 (fNone true) (dVar 10))) (dSeq (dAsg (dCallT C_run_code (dCons (d2 fIx (dVar 7) (dC (.int 0))) (dCons (d2 fIx (dVar 7) (dC (.int 1))) (dCons (dVar 5) (dNil))))) (dgN 13))
  (dRet (dAndV (d2 (fEq false) (dVar 12) (dVar 10)) (dAndV (dN fIsi (dCons (dVar 13) (dCons (dC (.raw (.ty "tuple"))) (dNil)))) (d2 (fEq false) (dVar 13) (dTup (dCons (dVar 10) (dCons (dVar 8) (dNil))))))))) (dNext))
  (dSeq (dAsg (dCallT C__law_near (dCons (dVar 3) (dCons (dVar 8) (dCons (dVar 4) (dNil))))) (dgN 8))
  (dSeq (dDrop (dM fAppend (d2 fIxP (dVar 9) (dC (.int 1))) (dCons (dC (.int 0)) (dNil))))
  (dSeq (dDrop (dM fAppend (d2 fIxP (dVar 9) (dC (.int 5))) (dCons (dC (.int 0)) (dNil))))
  (dSeq (dAsg (dCallS C__law_copy (dCons (dVar 12) (dNil))) (dgN 9))
  (dIfS (dNot (dB (dN fIsi (dCons (dVar 12) (dCons (dC (.raw (.ty "tuple"))) (dNil)))))) (dRet (dC (.bl false))) (dNext))))))))))))
  (dRet (dC (.bl true)))))))

def rdl6 : DSt :=
  dSeq (dIfS (dAnd (dB (d2 (fEq false) (d2 (fI (fun _ j => j ≠ 0) fun i j => .int (i.fmod j)) (d2 fIx (dVar 1) (dC (.int 63))) (dC (.int 16))) (dC (.int 1)))) (dNot (dB (dCallT C__law_idle (dCons (d2 fIx (dVar 1) (dC (.int 64))) (dNil)))))) (dRet (dC (.bl false))) (dNext))
  (dSeq (dAsg (dTup (dCons (dN fListOf (dCons (dVar 3) (dNil))) (dCons (dN fListOf (dCons (dVar 4) (dNil))) (dNil)))) (dgN 7))
  (dSeq (dAsg (dTup (dCons (dC (.int 0)) (dCons (dLst (dCons (dTup (dCons (d1 fNeg (dC (.int 1))) (dCons (dC (.int 0)) (dCons (dC (.int 0)) (dNil))))) (dNil))) (dCons (dLst (dNil)) (dCons (dLst (dNil)) (dCons (dC (.int 0)) (dCons (dLst (dNil)) (dCons (dC (.int 0)) (dCons (dC (.int 0)) (dNil)))))))))) (dgN 8))
  (dSeq (dAsg (dCallS C_begunL (dNil)) (dgN 9))
  (dSeq (dAsg (dC .non) (dgN 10))
  (dSeq (dFor (diR1 (dCons (dC (.int 60)) (dNil))) (dgN 11) (dSeq (dIfS (dOr (dB (d2 (fEqN true) (dVar 9) (dVar 8))) (dNot (dB (dCallN C__law_whole_state (dCons (dVar 9) (dNil)))))) (dRet (dC (.bl false))) (dNext))
  (dSeq (dAsg (dCallT C__law_still (dCons (dVar 3) (dCons (dVar 8) (dCons (dVar 4) (dCons (dVar 5) (dNil)))))) (dgN 10))
  (dSeq (dAsg (dCallS C_stepL (dCons (d2 fIx (dVar 7) (dC (.int 0))) (dCons (dVar 9) (dCons (d2 fIx (dVar 7) (dC (.int 1))) (dCons (dVar 5) (dNil)))))) (dgN 12))
  (dSeq (dIfS (dOr (dB (d2 (fEqN true) (dVar 9) (dVar 8))) (dB (d2 (fEq true) (dVar 7) (dTup (dCons (dVar 3) (dCons (dVar 4) (dNil))))))) (dRet (dC (.bl false))) (dNext))
  (dSeq (dIfS (dB (d1 (fNone true) (dVar 10))) (dSeq (dAsg (dCallT C_run_code (dCons (d2 fIx (dVar 7) (dC (.int 0))) (dCons (d2 fIx (dVar 7) (dC (.int 1))) (dCons (dVar 5) (dNil))))) (dgN 13))
  (dRet (dAndV (d2 (fEq false) (dVar 12) (dVar 10)) (dAndV (dN fIsi (dCons (dVar 13) (dCons (dC (.raw (.ty "tuple"))) (dNil)))) (d2 (fEq false) (dVar 13) (dTup (dCons (dVar 10) (dCons (dVar 8) (dNil))))))))) (dNext))
  (dSeq (dAsg (dCallT C__law_near (dCons (dVar 3) (dCons (dVar 8) (dCons (dVar 4) (dNil))))) (dgN 8))
  (dSeq (dDrop (dM fAppend (d2 fIxP (dVar 9) (dC (.int 1))) (dCons (dC (.int 0)) (dNil))))
  (dSeq (dDrop (dM fAppend (d2 fIxP (dVar 9) (dC (.int 5))) (dCons (dC (.int 0)) (dNil))))
  (dSeq (dAsg (dCallS C__law_copy (dCons (dVar 12) (dNil))) (dgN 9))
  (dIfS (dNot (dB (dN fIsi (dCons (dVar 12) (dCons (dC (.raw (.ty "tuple"))) (dNil)))))) (dRet (dC (.bl false))) (dNext))))))))))))
  (dRet (dC (.bl true))))))))

theorem tail77 {sl0 : W} {ds : T} {m : Int} {cs : List Ins} {as : List Int} {bd : Int} {o6 : Option W} {QC : W → List Cell → List Cell → Prop} (ok : CodeOk cs) (ha : Ans as) (h0 : 0 ≤ bd) (hb : bd ≤ 10000) (hQ : QC (.t (.bl true)) [] []) :
    rdl7 ⟨FinS 0 QC (.t .non), FinS 0 QC, fun _ => False, fun _ => False⟩ ⟨[some sl0, some (.t ds), some (.t (.int m)), some (.t (codeT cs)), some (.t (.lst (as.map T.int))), some (.t (.int bd)), o6, none, none, none, none, none, none, none], []⟩ := by
  unfold rdl7
  have shc : (codeT cs).sh 7 = true := by
    refine List.all_eq_true.mpr fun x hx => ?_
    obtain ⟨i, hi, rfl⟩ := List.mem_map.mp hx
    have := (Ins.ln (ok.ok i hi)).form
    obtain ⟨w, is, e, _, hw⟩ := this
    rw [e]
    show ((T.str w :: is.map T.int).all (T.sh 5)) = true
    rw [List.all_cons, List.all_map]
    exact Bool.and_eq_true_iff.mpr ⟨hw, List.all_eq_true.mpr fun i _ => rfl⟩
  have sha : (T.lst (as.map T.int)).sh 7 = true := map_sh (n := 6) (fun _ => rfl) as
  have hand_teq : teq (.tup [codeT cs, .lst (as.map T.int)]) (.tup [codeT cs, .lst (as.map T.int)]) = true := teqM_tup fun y hy => by
    rcases List.mem_cons.mp hy with rfl | hy
    · exact code_teq cs
    rcases List.mem_cons.mp hy with rfl | hy
    · exact map_teq teqM_int as
    · cases hy
  have hand_sh : (T.tup [codeT cs, .lst (as.map T.int)]).sh 8 = true := List.all_eq_true.mpr fun y hy => by
    rcases List.mem_cons.mp hy with rfl | hy
    · exact shc
    rcases List.mem_cons.mp hy with rfl | hy
    · exact sha
    · cases hy
  walk_at "yl"
  refine i_listOf (us := cs.map Ins.t) rfl ?_
  walk_at "yl"
  refine i_listOf (us := as.map T.int) rfl ?_
  walk_at "yl"
  refine ⟨szM rfl, ?_⟩
  walk_at "yl"
  refine ⟨szM rfl, ?_⟩
  walk_at "yl"
  refine ⟨szM rfl, ?_⟩
  walk_at "yl"
  refine ⟨Nat.zero_le _, ?_⟩
  walk_at "yl"
  refine ⟨Nat.zero_le _, ?_⟩
  walk_at "yl"
  refine ⟨Nat.zero_le _, ?_⟩
  walk_at "yl"
  refine ⟨szM rfl, ?_⟩
  walk_at "yl"
  refine callS_newL (s := s0) rfl (fun QC' hq => ⟨rfl, rfl, hq⟩) ?_
  walk_at "yl"
  refine ⟨by constructor <;> omega, ?_⟩
  refine forP (List.range 60) (fun k => W.t (.int ((k : Nat) : Int))) (fun _ _ => ()) (fun _ g' => ∃ (s : MS) (n : Nat) (M : Sto) (o10 o11 o12 : Option W), g' = ⟨[some sl0, some (.t ds), some (.t (.int m)), some (.t (codeT cs)), some (.t (.lst (as.map T.int))), some (.t (.int bd)), o6, some (.t (.tup [codeT cs, .lst (as.map T.int)])), some (.t s.t), some (.h (n + 4)), o10, o11, o12, none], M⟩ ∧ LiveAt M n s ∧ s.Ok ∧ (s.rw_.length : Int) ≤ bd ∧ ∀ w s', Runs cs as bd s w s' → Runs cs as bd s0 w s') () (by rw [show ((60 : Int).toNat) = 60 from rfl, rgW0]) ⟨s0, 0, _, _, _, _, rfl, live_new [] s0, s0_ok, h0, fun _ _ h => h⟩ (fun _ _ _ => trivial) ?_ ?_
  · rintro pre k post hsp g' ⟨s, n, M, o10, o11, o12, rfl, L, sok, hr, hrun⟩ N hN
    walk_at "yl"
    refine i_neN (u := s.t) (v := s.t) (live_tree L) rfl (s.sh 4) (s.sh 4) ?_
    rw [s.teq, show (!true) = false from rfl]
    walk_at "yl"
    refine i_callN ?_
    walk_at "yl"
    refine o_nest (us := [s.t]) (by
      show allS [(⟨_, M⟩ : G).treeD 6 (.h (n + 4))] = _
      rw [live_tree L]
      rfl) ?_
    refine ⟨s, rfl, o_ftT rfl ?_⟩
    walk_at "yl"
    try rw [show (!true) = false from rfl]
    walk_at "yl"
    refine ⟨cs, s, as, bd, rfl, sok, ?_⟩
    walk_at "yl"
    refine callS_L (n := n) (ws0 := [.t (codeT cs), .h 4, .t (.lst (as.map T.int)), .t (.int bd)]) rfl L fun QC' hq => ⟨cs, s, as, bd, rfl, rfl, ok, sok, ha, hr, hb, hq _ ?_⟩
    walk_at "yl"
    refine i_neN (u := s.t) (v := s.t) (live_tree L) rfl (s.sh 4) (s.sh 4) ?_
    rw [s.teq, show (!true) = false from rfl]
    walk_at "yl"
    refine ⟨szM rfl, ?_⟩
    refine i_neT (u := .tup [codeT cs, .lst (as.map T.int)]) (v := .tup [codeT cs, .lst (as.map T.int)]) rfl rfl hand_sh hand_sh ?_
    rw [hand_teq, show (!true) = false from rfl]
    walk_at "yl"
    unfold stpT
    cases hs : stM cs s as bd with
    | some w =>
      dsimp only
      refine i_none rfl ?_
      walk_at "yl"
      rw [show (if True then !(W.t (wT (some w))).isN else (W.t (wT (some w))).isN) = true from rfl]
      walk_at "yl"
      refine ⟨cs, as, bd, rfl, ok, ha, h0, hb, fun w2 s2 hr2 => ?_⟩
      obtain ⟨rfl, rfl⟩ := (hrun w s (.stop hs)).det hr2
      walk_at "yl"
      refine i_eqT (u := .str w.s) (v := .str w.s) rfl rfl w.ok w.ok ?_
      rw [teqM_str]
      walk_at "yl"
      refine i_isi (a := "tuple") (b := true) rfl rfl ?_
      walk_at "yl"
      refine ⟨szM rfl, ?_⟩
      refine i_eqT (u := .tup [.str w.s, s.t]) (v := .tup [.str w.s, s.t]) rfl rfl (last_sh _ _) (last_sh _ _) ?_
      rw [last_teq]
      walk_at "yl"
      exact fin_true hQ
    | none =>
      dsimp only
      refine i_none rfl ?_
      walk_at "yl"
      rw [show (if True then !(W.t (wT none)).isN else (W.t (wT none)).isN) = false from rfl]
      walk_at "yl"
      refine ⟨cs, s, as, bd, rfl, sok, ha, by omega, hs, ?_⟩
      walk_at "yl"
      have lf := sok.lf
      refine i_ixP L.c4 (atI_nat (j := 1) rfl) ?_
      refine ⟨isL_lt L.c0, ?_⟩
      walk_at "yl"
      refine i_append L.c0 (Nat.lt_of_le_of_lt (show (s.fr.map tripT).length ≤ 11000000 by rw [List.length_map]; omega) (by show 11000000 < sizeLine; decide)) ?_
      walk_at "yl"
      have e4 : (M.set n (some (.lt (s.fr.map tripT ++ [.int 0]))))[n + 4]? = some (some (.tw [.t (.int s.at_), .h n, .h (n + 1), .h (n + 2), .t (.int s.ch), .h (n + 3), .t (.int s.us), .t (.int s.idle)])) := by
        rw [List.getElem?_set_ne (by omega)]
        exact L.c4
      have e3 : (M.set n (some (.lt (s.fr.map tripT ++ [.int 0]))))[n + 3]? = some (some (.lt (s.rw_.map T.int))) := by
        rw [List.getElem?_set_ne (by omega)]
        exact L.c3
      refine i_ixP e4 (atI_nat (j := 5) rfl) ?_
      refine ⟨isL_lt e3, ?_⟩
      walk_at "yl"
      refine i_append e3 (Nat.lt_of_le_of_lt (show (s.rw_.map T.int).length ≤ 11000000 by rw [List.length_map]; omega) (by show 11000000 < sizeLine; decide)) ?_
      walk_at "yl"
      refine callS_newL (s := nxM cs s as) rfl (fun QC' hq => ⟨_, rfl, rfl, hq⟩) ?_
      walk_at "yl"
      refine i_isi (a := "tuple") (b := true) rfl rfl ?_
      walk_at "yl"
      try rw [show (!true) = false from rfl]
      walk_at "yl"
      exact hN _ ⟨nxM cs s as, _, _, _, _, _, rfl, live_new _ _, nxM_ok ok.ok sok hs, (nxM_meas sok hr hs).1, fun w s' h => hrun w s' (.go hs h)⟩
  · rintro g' ⟨s, n, M, o10, o11, o12, rfl, _⟩
    walk_at "yl"
    exact fin_true hQ
theorem mid77 {sl0 : W} {ds : List Int} {m : Int} {cs : List Ins} {as : List Int} {bd : Int} {o6 : Option W} {QC : W → List Cell → List Cell → Prop} (hl : ds.length = 80) (ok : CodeOk cs) (ha : Ans as) (h0 : 0 ≤ bd) (hb : bd ≤ 10000) (hQ : QC (.t (.bl true)) [] []) :
    rdl6 ⟨FinS 0 QC (.t .non), FinS 0 QC, fun _ => False, fun _ => False⟩ ⟨[some sl0, some (.t (.lst (ds.map T.int))), some (.t (.int m)), some (.t (codeT cs)), some (.t (.lst (as.map T.int))), some (.t (.int bd)), o6, none, none, none, none, none, none, none], []⟩ := by
  unfold rdl6
  have e63 := int_at (xs := ds) (i := 63) (by decide) (by omega)
  have e64 := int_at (xs := ds) (i := 64) (by decide) (by omega)
  walk_at "yl"
  refine i_fI (by decide) ?_
  walk_at "yl"
  refine k_d (fun h => ?_) (fun h => ?_)
  · walk_at "yl"
    refine ⟨_, rfl, ?_⟩
    walk_at "yl"
    try rw [show (!true) = false from rfl]
    walk_at "yl"
    exact tail77 ok ha h0 hb hQ
  · refine i_next ?_
    exact tail77 ok ha h0 hb hQ
def rd_law : DSt :=
  dSeq (dAsg (dCallT C__law_draws (dCons (dVar 0) (dCons (dC (.int 80)) (dNil)))) (dgN 1))
  (dSeq (dAsg (d2 fAdd (dC (.int 1)) (d2 (fI (fun _ j => j ≠ 0) fun i j => .int (i.fmod j)) (d2 fIx (dVar 1) (dC (.int 0))) (dC (.int 20)))) (dgN 2))
  (dSeq (dAsg (dLc finT (diR1 (dCons (dVar 2) (dNil))) (dgN 11) (dYes) (dCallT C__law_line (dCons (d2 fAdd (d2 fIx (dVar 1) (d2 fAdd (dC (.int 2)) (dVar 11))) (d2 (fI IntMulOk fun i j => .int (i * j)) (dC (.int 5040)) (d2 fIx (dVar 1) (d2 fAdd (dC (.int 22)) (dVar 11))))) (dCons (dVar 2) (dNil)))) [11]) (dgN 3))
  (dSeq (dAsg (dLc finT (diR1 (dCons (d2 (fI (fun _ j => j ≠ 0) fun i j => .int (i.fmod j)) (d2 fIx (dVar 1) (dC (.int 1))) (dC (.int 13))) (dNil))) (dgN 11) (dYes) (d2 (fI (fun _ j => j ≠ 0) fun i j => .int (i.fmod j)) (d2 fIx (dVar 1) (d2 fAdd (dC (.int 45)) (dVar 11))) (dC (.int 2))) [11]) (dgN 4))
  (dSeq (dAsg (d2 (fI (fun _ j => j ≠ 0) fun i j => .int (i.fmod j)) (d2 fIx (dVar 1) (dC (.int 60))) (dC (.int 31))) (dgN 5))
  (dSeq (dIfS (dB (d2 (fEq false) (d2 (fI (fun _ j => j ≠ 0) fun i j => .int (i.fmod j)) (d2 fIx (dVar 1) (dC (.int 61))) (dC (.int 8))) (dC (.int 1)))) (dSeq (dAsg (d2 fAdd (dVar 4) (dLst (dCons (d2 fIx (dLst (dCons (dC (.int 2)) (dCons (d1 fNeg (dC (.int 1))) (dNil)))) (d2 (fI (fun _ j => j ≠ 0) fun i j => .int (i.fmod j)) (d2 fIx (dVar 1) (dC (.int 62))) (dC (.int 2)))) (dNil)))) (dgN 6))
  (dSeq (dIfS (dOr (dNot (dB (dCallT C__law_refused (dCons (dC (.int 0)) (dCons (dVar 3) (dCons (dVar 6) (dCons (dVar 5) (dNil)))))))) (dNot (dB (dCallT C__law_refused (dCons (dC (.int 1)) (dCons (dVar 3) (dCons (dVar 6) (dCons (dVar 5) (dNil))))))))) (dRet (dC (.bl false))) (dNext))
  (dIfS (dOr (dNot (dB (dCallT C__law_refused (dCons (dC (.int 0)) (dCons (dVar 3) (dCons (dVar 4) (dCons (d2 (fI0 fun i j => .int (i - j)) (d1 fNeg (dC (.int 1))) (dVar 5)) (dNil)))))))) (dNot (dB (dCallT C__law_refused (dCons (dC (.int 1)) (dCons (dVar 3) (dCons (dVar 4) (dCons (d2 (fI0 fun i j => .int (i - j)) (d1 fNeg (dC (.int 1))) (dVar 5)) (dNil))))))))) (dRet (dC (.bl false))) (dNext)))) (dNext))
  (dSeq (dIfS (dAnd (dB (d2 (fEq false) (d2 (fI (fun _ j => j ≠ 0) fun i j => .int (i.fmod j)) (d2 fIx (dVar 1) (dC (.int 63))) (dC (.int 16))) (dC (.int 1)))) (dNot (dB (dCallT C__law_idle (dCons (d2 fIx (dVar 1) (dC (.int 64))) (dNil)))))) (dRet (dC (.bl false))) (dNext))
  (dSeq (dAsg (dTup (dCons (dN fListOf (dCons (dVar 3) (dNil))) (dCons (dN fListOf (dCons (dVar 4) (dNil))) (dNil)))) (dgN 7))
  (dSeq (dAsg (dTup (dCons (dC (.int 0)) (dCons (dLst (dCons (dTup (dCons (d1 fNeg (dC (.int 1))) (dCons (dC (.int 0)) (dCons (dC (.int 0)) (dNil))))) (dNil))) (dCons (dLst (dNil)) (dCons (dLst (dNil)) (dCons (dC (.int 0)) (dCons (dLst (dNil)) (dCons (dC (.int 0)) (dCons (dC (.int 0)) (dNil)))))))))) (dgN 8))
  (dSeq (dAsg (dCallS C_begunL (dNil)) (dgN 9))
  (dSeq (dAsg (dC .non) (dgN 10))
  (dSeq (dFor (diR1 (dCons (dC (.int 60)) (dNil))) (dgN 11) (dSeq (dIfS (dOr (dB (d2 (fEqN true) (dVar 9) (dVar 8))) (dNot (dB (dCallN C__law_whole_state (dCons (dVar 9) (dNil)))))) (dRet (dC (.bl false))) (dNext))
  (dSeq (dAsg (dCallT C__law_still (dCons (dVar 3) (dCons (dVar 8) (dCons (dVar 4) (dCons (dVar 5) (dNil)))))) (dgN 10))
  (dSeq (dAsg (dCallS C_stepL (dCons (d2 fIx (dVar 7) (dC (.int 0))) (dCons (dVar 9) (dCons (d2 fIx (dVar 7) (dC (.int 1))) (dCons (dVar 5) (dNil)))))) (dgN 12))
  (dSeq (dIfS (dOr (dB (d2 (fEqN true) (dVar 9) (dVar 8))) (dB (d2 (fEq true) (dVar 7) (dTup (dCons (dVar 3) (dCons (dVar 4) (dNil))))))) (dRet (dC (.bl false))) (dNext))
  (dSeq (dIfS (dB (d1 (fNone true) (dVar 10))) (dSeq (dAsg (dCallT C_run_code (dCons (d2 fIx (dVar 7) (dC (.int 0))) (dCons (d2 fIx (dVar 7) (dC (.int 1))) (dCons (dVar 5) (dNil))))) (dgN 13))
  (dRet (dAndV (d2 (fEq false) (dVar 12) (dVar 10)) (dAndV (dN fIsi (dCons (dVar 13) (dCons (dC (.raw (.ty "tuple"))) (dNil)))) (d2 (fEq false) (dVar 13) (dTup (dCons (dVar 10) (dCons (dVar 8) (dNil))))))))) (dNext))
  (dSeq (dAsg (dCallT C__law_near (dCons (dVar 3) (dCons (dVar 8) (dCons (dVar 4) (dNil))))) (dgN 8))
  (dSeq (dDrop (dM fAppend (d2 fIxP (dVar 9) (dC (.int 1))) (dCons (dC (.int 0)) (dNil))))
  (dSeq (dDrop (dM fAppend (d2 fIxP (dVar 9) (dC (.int 5))) (dCons (dC (.int 0)) (dNil))))
  (dSeq (dAsg (dCallS C__law_copy (dCons (dVar 12) (dNil))) (dgN 9))
  (dIfS (dNot (dB (dN fIsi (dCons (dVar 12) (dCons (dC (.raw (.ty "tuple"))) (dNil)))))) (dRet (dC (.bl false))) (dNext))))))))))))
  (dRet (dC (.bl true))))))))))))))

theorem rp_law : ∀ ws m QC, C_law ws m QC → rd_law ⟨FinS m.length QC (.t .non), FinS m.length QC, fun _ => False, fun _ => False⟩ ⟨ws.map some ++ List.replicate (14 - ws.length) none, m.map some⟩ := by
  rintro ws m QC ⟨ns, rfl, rfl, hns, hQ⟩
  unfold rd_law
  walk_at "yl"
  refine ⟨ns, 80, rfl, by decide, fun ds hl hd => ?_⟩
  refine o_TF (t := .lst (ds.map T.int)) rfl ?_
  walk_at "yl"
  have dat : ∀ {i : Int}, 0 ≤ i → i < 80 → ∃ d, atI (ds.map T.int) i = some (.int d) ∧ 0 ≤ d ∧ d < 2147483629 := fun {i} h0 h1 => by
    have e := int_at (xs := ds) h0 (by omega)
    have hm : ds.getD i.toNat 0 ∈ ds := by
      rw [List.getD_eq_getElem?_getD, List.getElem?_eq_getElem (by omega)]
      exact List.getElem_mem _
    exact ⟨_, e, (hd _ hm).1, (hd _ hm).2⟩
  obtain ⟨d0, e0, _⟩ := dat (i := 0) (by decide) (by decide)
  obtain ⟨d1, e1, _⟩ := dat (i := 1) (by decide) (by decide)
  obtain ⟨d60, e60, _⟩ := dat (i := 60) (by decide) (by decide)
  obtain ⟨d61, e61, _⟩ := dat (i := 61) (by decide) (by decide)
  obtain ⟨d62, e62, _⟩ := dat (i := 62) (by decide) (by decide)
  walk_at "yl"
  refine i_fI (by decide) ?_
  walk_at "yl"
  obtain ⟨m, hm⟩ : ∃ m : Nat, 1 + d0.fmod 20 = (m : Int) := ⟨(1 + d0.fmod 20).toNat, (Int.toNat_of_nonneg (by have := fmodR (a := d0) (n := 20) (by decide); omega)).symm⟩
  have hm1 : 1 ≤ m ∧ m ≤ 20 := by have := fmodR (a := d0) (n := 20) (by decide); omega
  rw [hm]
  refine ⟨by constructor <;> omega, ?_⟩
  refine lcRM (List.range m) (fun k => W.t (.int ((k : Nat) : Int))) (fun _ u => Ln (m : Int) u) (by rw [Int.toNat_natCast, rgW0]) (by rw [List.length_range]; exact szN (by omega)) trivial ?_ fun us hul hus => ?_
  · intro k hk Y hY
    have hk' := List.mem_range.mp hk
    obtain ⟨x, ex, _⟩ := dat (i := 2 + (k : Int)) (by omega) (by omega)
    obtain ⟨y, ey, _⟩ := dat (i := 22 + (k : Int)) (by omega) (by omega)
    walk_at "yl"
    refine i_fI (mulL (by decide) (by decide)) ?_
    walk_at "yl"
    refine ⟨_, (m : Int), rfl, by omega, fun t ht => ?_⟩
    walk_at "yl"
    exact hY t ht _ rfl
  rw [List.length_range] at hul
  have hln : ∀ u ∈ us, Ln (m : Int) u := fun u hu => by
    obtain ⟨j, hj⟩ := List.mem_iff_getElem?.mp hu
    have hj2 := (List.getElem?_eq_some_iff.mp hj).1
    exact hus j j u (by rw [List.getElem?_range (by omega)]) hj
  obtain ⟨cs, hc, ok⟩ : ∃ cs, T.lst us = codeT cs ∧ CodeOk cs := done_code (fun e => by rw [e] at hul; simp at hul; omega) (by omega) fun x hx => by rw [hul]; exact (hln x hx).done
  have hc2 : us = cs.map Ins.t := T.lst.inj hc
  subst hc2
  walk_at "yl"
  refine i_fI (by decide) ?_
  obtain ⟨j, hj⟩ : ∃ j : Nat, d1.fmod 13 = (j : Int) := ⟨(d1.fmod 13).toNat, (Int.toNat_of_nonneg (fmodR (by decide)).1).symm⟩
  have hj13 : j < 13 := by have := (fmodR (a := d1) (n := 13) (by decide)).2; omega
  walk_at "yl"
  rw [hj]
  refine ⟨by constructor <;> omega, ?_⟩
  refine lcRM (List.range j) (fun k => W.t (.int ((k : Nat) : Int))) (fun _ u => u = .int 0 ∨ u = .int 1) (by rw [Int.toNat_natCast, rgW0]) (by rw [List.length_range]; exact szN (by omega)) trivial ?_ fun us2 hul2 hus2 => ?_
  · intro k hk Y hY
    have hk' := List.mem_range.mp hk
    obtain ⟨x, ex, _⟩ := dat (i := 45 + (k : Int)) (by omega) (by omega)
    walk_at "yl"
    refine i_fI (by decide) ?_
    have hr := fmodR (a := x) (n := 2) (by decide)
    refine hY _ ?_ _ rfl
    have : x.fmod 2 = 0 ∨ x.fmod 2 = 1 := by omega
    rcases this with e | e
    · exact .inl (by rw [e])
    · exact .inr (by rw [e])
  rw [List.length_range] at hul2
  obtain ⟨as, hae, ha⟩ : ∃ as : List Int, us2 = as.map T.int ∧ Ans as := by
    have h2 : ∀ u ∈ us2, u = .int 0 ∨ u = .int 1 := fun u hu => by
      obtain ⟨i, hi⟩ := List.mem_iff_getElem?.mp hu
      have hi2 := (List.getElem?_eq_some_iff.mp hi).1
      exact hus2 i i u (by rw [List.getElem?_range (by omega)]) hi
    have : ∀ l : List T, (∀ u ∈ l, u = .int 0 ∨ u = .int 1) → ∃ as : List Int, l = as.map T.int ∧ ∀ a ∈ as, a = 0 ∨ a = 1 := by
      intro l
      induction l with
      | nil => intro _; exact ⟨[], rfl, fun a h => (List.not_mem_nil h).elim⟩
      | cons x l ih =>
        intro h
        obtain ⟨as, rfl, h3⟩ := ih fun u hu => h u (List.mem_cons_of_mem _ hu)
        rcases h x List.mem_cons_self with rfl | rfl
        · refine ⟨0 :: as, rfl, fun a h => ?_⟩
          rcases List.mem_cons.mp h with rfl | h
          · exact .inl rfl
          · exact h3 a h
        · refine ⟨1 :: as, rfl, fun a h => ?_⟩
          rcases List.mem_cons.mp h with rfl | h
          · exact .inr rfl
          · exact h3 a h
    obtain ⟨as, h3, h4⟩ := this us2 h2
    exact ⟨as, h3, h4, by rw [h3, List.length_map] at hul2; omega⟩
  subst hae
  have hal : as.length < 13 := by rw [List.length_map] at hul2; omega
  walk_at "yl"
  refine i_fI (by decide) ?_
  have hb := fmodR (a := d60) (n := 31) (by decide)
  generalize d60.fmod 31 = bd at hb ⊢
  walk_at "yl"
  refine i_fI (by decide) ?_
  walk_at "yl"
  refine k_d (fun h => ?_) (fun h => ?_)
  · walk_at "yl"
    refine ⟨szM rfl, ?_⟩
    walk_at "yl"
    refine i_fI (by decide) ?_
    have hw := fmodR (a := d62) (n := 2) (by decide)
    obtain ⟨wr, hwr, hw2⟩ : ∃ wr : Int, atI [T.int 2, T.int (-1)] (d62.fmod 2) = some (.int wr) ∧ wr ≠ 0 ∧ wr ≠ 1 := by
      have : d62.fmod 2 = 0 ∨ d62.fmod 2 = 1 := by omega
      rcases this with e | e
      · exact ⟨2, by rw [e]; exact atI_nat (j := 0) rfl, by decide⟩
      · exact ⟨-1, by rw [e]; exact atI_nat (j := 1) rfl, by decide⟩
    refine i_ix rfl hwr ?_
    walk_at "yl"
    refine ⟨szM rfl, ?_⟩
    refine i_addL (xs := as.map T.int) (ys := [.int wr]) rfl rfl (szN (by rw [List.length_map, List.length_singleton]; omega)) ?_
    rw [show as.map T.int ++ [.int wr] = (as ++ [wr]).map T.int by rw [List.map_append]; rfl]
    have bad1 : BadAn (as ++ [wr]) bd := ⟨by rw [List.length_append, List.length_singleton]; omega, .inr ⟨wr, by simp, hw2⟩⟩
    have bad2 : BadAn as (-1 - bd) := ⟨by omega, .inl (by omega)⟩
    walk_at "yl"
    refine ⟨0, cs, as ++ [wr], bd, rfl, by decide, ok, bad1, ?_⟩
    walk_at "yl"
    try rw [show (!true) = false from rfl]
    walk_at "yl"
    refine ⟨1, cs, as ++ [wr], bd, rfl, by decide, ok, bad1, ?_⟩
    walk_at "yl"
    try rw [show (!true) = false from rfl]
    walk_at "yl"
    refine ⟨0, cs, as, -1 - bd, rfl, by decide, ok, bad2, ?_⟩
    walk_at "yl"
    try rw [show (!true) = false from rfl]
    walk_at "yl"
    refine ⟨1, cs, as, -1 - bd, rfl, by decide, ok, bad2, ?_⟩
    walk_at "yl"
    try rw [show (!true) = false from rfl]
    walk_at "yl"
    exact mid77 (cs := cs) hl ok ha hb.1 (by omega) hQ
  · refine i_next ?_
    exact mid77 (cs := cs) hl ok ha hb.1 (by omega) hQ
end DL

namespace DL
open PySem PySem.Spec PyProof.Rows L2
def topS (i : Nat) : Stmt := PySem.Challenge.pw_fewcounters_k77_whole_machine.main.body.getD i (.Pass ⟨0, 0, 0, 0⟩)
structure Mi (mg : Str → Option Value) : Prop where
  h_set : mg "set" = none
  m_MOST_IDLE : ∃ tk : Tok, mg "MOST_IDLE" = some (.int 1000 tk)
abbrev NL : List Str := ["NoAnswer"]
abbrev s__law_draws : Stmt := topS 23
theorem sc__law_draws : FnScope ["_law_script", "_law_many", "_law_found", "_law_k", "_law_cell", "_law_j", "_law_number"] ["_law_script", "_law_many"] (defScope s__law_draws) := ⟨rfl, rfl, rfl, by decide +kernel, rfl, by decide +kernel, by decide +kernel⟩
theorem kn__law_draws {P : Program} {w : World} {K : PySem.W.Frag} {mg : Str → Option Value} {base : Heap} {k : Nat} (B : Bi mg) (M : Mi mg) (O : Ow K mg "_law_draws" s__law_draws ["_law_script", "_law_many"])   : Kn P w K mg base (k + 1) "_law_draws" ["_law_script", "_law_many"] C__law_draws.s := by
  obtain ⟨f, fd, F, gm, bd⟩ := O.ex
  refine ⟨f, fd, pfn_ok F sc__law_draws ln__law_draws ?_, gm, F.kp, bd⟩
  intro cdv A outer s H E hr
  exact ⟨_, rd__law_draws, dss_cons (ds_set 2 sc__law_draws.nd (de_lstH (da_nil)))
  (dss_cons (ds_for rfl (di_range1 B.h_range (da_cons (de_var 1) (da_nil))) (dg_name 3 sc__law_draws.nd) (dss_cons (ds_set 4 sc__law_draws.nd (de_int))
  (dss_cons (ds_if (dt_gt (de_len B.h_len (da_cons (de_var 0) (da_nil))) (de_int)) (dss_one (ds_set 4 sc__law_draws.nd (de_ix (de_var 0) (de_mod (de_fdivW (de_var 3) (de_int)) (de_min rfl B.h_min (da_cons (de_int) (da_cons (de_len B.h_len (da_cons (de_var 0) (da_nil))) (da_nil)))))))) (dss_nil))
  (dss_one (ds_if (dt_ge (de_var 4) (de_pow (de_int) (de_int))) (dss_cons (ds_set 4 sc__law_draws.nd (de_fdivW (de_var 4) (de_pow (de_int) (de_int))))
  (dss_cons (ds_for rfl (di_range1 B.h_range (da_cons (de_mod (de_var 3) (de_int)) (da_nil))) (dg_name 5 sc__law_draws.nd) (dss_one (ds_set 4 sc__law_draws.nd (de_fdivW (de_var 4) (de_int)))))
  (dss_one (ds_expr (de_append (de_var 2) (da_cons (de_mod (de_var 4) (de_int)) (da_nil))))))) (dss_cons (ds_set 6 sc__law_draws.nd (de_mod (de_add (de_var 4) (de_mul (de_int) (de_add (de_var 3) (de_int)))) (de_int)))
  (dss_cons (ds_set 6 sc__law_draws.nd (de_mod (de_add (de_mul (de_var 6) (de_var 6)) (de_var 3)) (de_int)))
  (dss_one (ds_expr (de_append (de_var 2) (da_cons (de_mod (de_mul (de_var 6) (de_var 6)) (de_int)) (da_nil))))))))))))
  (dss_one (ds_ret (de_var 2)))), rp__law_draws⟩

abbrev s__law_line : Stmt := topS 24
theorem sc__law_line : FnScope ["_law_number", "_law_many", "_law_way", "_law_some"] ["_law_number", "_law_many"] (defScope s__law_line) := ⟨rfl, rfl, rfl, by decide +kernel, rfl, by decide +kernel, by decide +kernel⟩
theorem kn__law_line {P : Program} {w : World} {K : PySem.W.Frag} {mg : Str → Option Value} {base : Heap} {k : Nat} (B : Bi mg) (M : Mi mg) (O : Ow K mg "_law_line" s__law_line ["_law_number", "_law_many"])   : Kn P w K mg base (k + 1) "_law_line" ["_law_number", "_law_many"] C__law_line.s := by
  obtain ⟨f, fd, F, gm, bd⟩ := O.ex
  refine ⟨f, fd, pfn_ok F sc__law_line ln__law_line ?_, gm, F.kp, bd⟩
  intro cdv A outer s H E hr
  exact ⟨_, rd__law_line, dss_cons (ds_set 2 sc__law_line.nd (de_mod (de_var 0) (de_int)))
  (dss_cons (ds_set 3 sc__law_line.nd (de_fdiv (de_var 0) (de_int)))
  (dss_cons (ds_if (dt_lt (de_var 2) (de_int)) (dss_one (ds_ret (de_tup (da_cons (de_str) (da_cons (de_mod (de_var 3) (de_int)) (da_nil)))))) (dss_nil))
  (dss_cons (ds_if (dt_eq hr (de_var 2) (de_int)) (dss_one (ds_ret (de_tup (da_cons (de_str) (da_cons (de_mod (de_var 3) (de_int)) (da_cons (de_mod (de_fdiv (de_var 3) (de_int)) (de_int)) (da_cons (de_mod (de_fdiv (de_var 3) (de_int)) (de_var 1)) (da_nil)))))))) (dss_nil))
  (dss_cons (ds_if (dt_eq hr (de_var 2) (de_int)) (dss_one (ds_ret (de_tup (da_cons (de_str) (da_cons (de_mod (de_var 3) (de_var 1)) (da_nil)))))) (dss_nil))
  (dss_cons (ds_if (dt_eq hr (de_var 2) (de_int)) (dss_one (ds_ret (de_tup (da_cons (de_str) (da_cons (de_mod (de_var 3) (de_int)) (da_cons (de_mod (de_fdiv (de_var 3) (de_int)) (de_var 1)) (da_cons (de_sub (de_mod (de_fdiv (de_var 3) (de_int)) (de_int)) (de_int)) (da_nil)))))))) (dss_nil))
  (dss_cons (ds_if (dt_eq hr (de_var 2) (de_int)) (dss_one (ds_ret (de_tup (da_cons (de_str) (da_nil))))) (dss_nil))
  (dss_cons (ds_if (dt_lt (de_var 2) (de_int)) (dss_one (ds_ret (de_tup (da_cons (de_str) (da_cons (de_mod (de_var 3) (de_int)) (da_nil)))))) (dss_nil))
  (dss_cons (ds_if (dt_eq hr (de_var 2) (de_int)) (dss_one (ds_ret (de_tup (da_cons (de_str) (da_cons (de_sub (de_mod (de_var 3) (de_int)) (de_int)) (da_nil)))))) (dss_nil))
  (dss_one (ds_ret (de_tup (da_cons (de_str) (da_cons (de_mod (de_var 3) (de_int)) (da_cons (de_sub (de_mod (de_fdiv (de_var 3) (de_int)) (de_int)) (de_int)) (da_nil))))))))))))))), rp__law_line⟩

abbrev s_begun : Stmt := topS 12
theorem sc_begun : FnScope [] [] (defScope s_begun) := ⟨rfl, rfl, rfl, by decide +kernel, rfl, by decide +kernel, by decide +kernel⟩
theorem kn_begun {P : Program} {w : World} {K : PySem.W.Frag} {mg : Str → Option Value} {base : Heap} {k : Nat} (B : Bi mg) (M : Mi mg) (O : Ow K mg "begun" s_begun [])   : Kn P w K mg base (k + 1) "begun" [] C_begun.s := by
  obtain ⟨f, fd, F, gm, bd⟩ := O.ex
  refine ⟨f, fd, pfn_ok F sc_begun ln_begun ?_, gm, F.kp, bd⟩
  intro cdv A outer s H E hr
  exact ⟨_, rd_begun, dss_one (ds_ret (de_tup (da_cons (de_int) (da_cons (de_lst (da_cons (de_tup (da_cons (de_neg (de_int)) (da_cons (de_int) (da_cons (de_int) (da_nil))))) (da_nil))) (da_cons (de_lst (da_nil)) (da_cons (de_lst (da_nil)) (da_cons (de_int) (da_cons (de_lst (da_nil)) (da_cons (de_int) (da_cons (de_int) (da_nil))))))))))), rp_begun⟩

abbrev s_is_number : Stmt := topS 7
theorem sc_is_number : FnScope ["thing"] ["thing"] (defScope s_is_number) := ⟨rfl, rfl, rfl, by decide +kernel, rfl, by decide +kernel, by decide +kernel⟩
theorem kn_is_number {P : Program} {w : World} {K : PySem.W.Frag} {mg : Str → Option Value} {base : Heap} {k : Nat} (B : Bi mg) (M : Mi mg) (O : Ow K mg "is_number" s_is_number ["thing"])   : Kn P w K mg base (k + 1) "is_number" ["thing"] C_is_number.s := by
  obtain ⟨f, fd, F, gm, bd⟩ := O.ex
  refine ⟨f, fd, pfn_ok F sc_is_number ln_is_number ?_, gm, F.kp, bd⟩
  intro cdv A outer s H E hr
  exact ⟨_, rd_is_number, dss_one (ds_ret (de_and (de_isi B.h_isinstance (da_cons (de_var 0) (da_cons (de_bltn (by rfl) B.h_int (by decide +kernel)) (da_nil)))) (de_one (de_not (de_isi B.h_isinstance (da_cons (de_var 0) (da_cons (de_bltn (by rfl) B.h_bool (by decide +kernel)) (da_nil)))))))), rp_is_number⟩

abbrev s_fits : Stmt := topS 8
theorem sc_fits : FnScope ["thing", "mark", "many"] ["thing", "mark", "many"] (defScope s_fits) := ⟨rfl, rfl, rfl, by decide +kernel, rfl, by decide +kernel, by decide +kernel⟩
theorem kn_fits {P : Program} {w : World} {K : PySem.W.Frag} {mg : Str → Option Value} {base : Heap} {k : Nat} (B : Bi mg) (M : Mi mg) (O : Ow K mg "fits" s_fits ["thing", "mark", "many"]) (G_is_number : Kn P w K mg base k "is_number" ["thing"] C_is_number.s)  : Kn P w K mg base (k + 1) "fits" ["thing", "mark", "many"] C_fits.s := by
  obtain ⟨f, fd, F, gm, bd⟩ := O.ex
  obtain ⟨f_is_number, fd_is_number, ok_is_number, mg_is_number, kp_is_number, bd_is_number⟩ := G_is_number.ex
  refine ⟨f, fd, pfn_ok F sc_fits ln_fits ?_, gm, F.kp, bd⟩
  intro cdv A outer s H E hr
  exact ⟨_, rd_fits, dss_cons (ds_if (dt_not (dt_val (de_callT ok_is_number hr mg_is_number kp_is_number bd_is_number (da_cons (de_var 0) (da_nil))))) (dss_one (ds_ret (de_bl))) (dss_nil))
  (dss_cons (ds_if (dt_eq hr (de_var 1) (de_str)) (dss_one (ds_ret (de_and (de_le (de_int) (de_var 0)) (de_one (de_lt (de_var 0) (de_var 2)))))) (dss_nil))
  (dss_one (ds_ret (de_or (de_eq hr (de_var 1) (de_str)) (de_one (de_ge (de_var 0) (de_int))))))), rp_fits⟩

abbrev s_is_done : Stmt := topS 9
theorem sc_is_done : FnScope ["line", "many", "marks", "thing", "mark"] ["line", "many"] (defScope s_is_done) := ⟨rfl, rfl, rfl, by decide +kernel, rfl, by decide +kernel, by decide +kernel⟩
theorem kn_is_done {P : Program} {w : World} {K : PySem.W.Frag} {mg : Str → Option Value} {base : Heap} {k : Nat} (B : Bi mg) (M : Mi mg) (O : Ow K mg "is_done" s_is_done ["line", "many"]) (G_fits : Kn P w K mg base k "fits" ["thing", "mark", "many"] C_fits.s)  (MD_SHAPES : MDict K w mg "SHAPES" tbl_SHAPES) : Kn P w K mg base (k + 1) "is_done" ["line", "many"] C_is_done.s := by
  obtain ⟨f, fd, F, gm, bd⟩ := O.ex
  obtain ⟨f_fits, fd_fits, ok_fits, mg_fits, kp_fits, bd_fits⟩ := G_fits.ex
  refine ⟨f, fd, pfn_ok F sc_is_done ln_is_done ?_, gm, F.kp, bd⟩
  intro cdv A outer s H E hr
  exact ⟨_, rd_is_done, dss_cons (ds_if (dt_w (dw_or (dt_not (dt_val (de_isi B.h_isinstance (da_cons (de_var 0) (da_cons (de_bltn (by rfl) B.h_tuple (by decide +kernel)) (da_nil)))))) (dw_or (dt_eq hr (de_var 0) (de_tup (da_nil))) (dw_or (dt_not (dt_val (de_isi B.h_isinstance (da_cons (de_ix (de_var 0) (de_int)) (da_cons (de_bltn (by rfl) B.h_str (by decide +kernel)) (da_nil)))))) (dw_or1 ((dt_notinK MD_SHAPES (de_ix (de_var 0) (de_int))).choose_spec)))))) (dss_one (ds_ret (de_bl))) (dss_nil))
  (dss_cons (ds_set 2 sc_is_done.nd ((de_ixK MD_SHAPES (de_ix (de_var 0) (de_int))).choose_spec))
  (dss_cons (ds_if (dt_ne hr (de_len B.h_len (da_cons (de_var 0) (da_nil))) (de_add (de_lenS B.h_len (da_cons (de_var 2) (da_nil))) (de_int))) (dss_one (ds_ret (de_bl))) (dss_nil))
  (dss_one (ds_ret (de_all rfl B.h_all (da_cons (de_lcU (fin := finT) (own := [("thing", 3), ("mark", 4)]) fin_T rfl sc_is_done.nd (di_zipTS B.h_zip (da_cons (de_slA (de_var 0) (do_some (de_int)) (do_none)) (da_cons (de_var 2) (da_nil)))) (blkOk_by (own := [("thing", 3), ("mark", 4)]) (N := ["line", "many", "marks", "thing", "mark"]) (sc := defScope s_is_done) (by decide +kernel)) (fun _ _ _ _ _ => ⟨_, cg_tup rfl (cgs_cons (cg_name 3 sc_is_done.nd) (cgs_cons (cg_name 4 sc_is_done.nd) (cgs_nil)))⟩) (fun _ _ _ _ _ => ⟨_, dts_nil⟩) (fun _ _ _ _ _ => ⟨_, de_callT ok_fits hr mg_fits kp_fits bd_fits (da_cons (de_var 3) (da_cons (de_var 4) (da_cons (de_var 1) (da_nil))))⟩) s) (da_nil))))))), rp_is_done⟩

abbrev s_look_code : Stmt := topS 10
theorem sc_look_code : FnScope ["code", "place"] ["code"] (defScope s_look_code) := ⟨rfl, rfl, rfl, by decide +kernel, rfl, by decide +kernel, by decide +kernel⟩
theorem kn_look_code {P : Program} {w : World} {K : PySem.W.Frag} {mg : Str → Option Value} {base : Heap} {k : Nat} (B : Bi mg) (M : Mi mg) (O : Ow K mg "look_code" s_look_code ["code"]) (G_is_done : Kn P w K mg base k "is_done" ["line", "many"] C_is_done.s)  : Kn P w K mg base (k + 1) "look_code" ["code"] C_look_code.s := by
  obtain ⟨f, fd, F, gm, bd⟩ := O.ex
  obtain ⟨f_is_done, fd_is_done, ok_is_done, mg_is_done, kp_is_done, bd_is_done⟩ := G_is_done.ex
  refine ⟨f, fd, pfn_ok F sc_look_code ln_look_code ?_, gm, F.kp, bd⟩
  intro cdv A outer s H E hr
  exact ⟨_, rd_look_code, dss_cons (ds_if (dt_eq hr (de_var 0) (de_lst (da_nil))) (dss_one (ds_never)) (dss_nil))
  (dss_one (ds_for rfl (di_range1 B.h_range (da_cons (de_len B.h_len (da_cons (de_var 0) (da_nil))) (da_nil))) (dg_name 1 sc_look_code.nd) (dss_one (ds_if (dt_not (dt_val (de_callT ok_is_done hr mg_is_done kp_is_done bd_is_done (da_cons (de_ix (de_var 0) (de_var 1)) (da_cons (de_len B.h_len (da_cons (de_var 0) (da_nil))) (da_nil)))))) (dss_one (ds_never)) (dss_nil))))), rp_look_code⟩

abbrev s_look_answers : Stmt := topS 11
theorem sc_look_answers : FnScope ["answers", "bound", "answer"] ["answers", "bound"] (defScope s_look_answers) := ⟨rfl, rfl, rfl, by decide +kernel, rfl, by decide +kernel, by decide +kernel⟩
theorem kx_look_answers {P : Program} {w : World} {K : PySem.W.Frag} {mg : Str → Option Value} {base : Heap} {k : Nat} (B : Bi mg) (M : Mi mg) (XH : XFY K mg RL ML NL) (O : Ow K mg "look_answers" s_look_answers ["answers", "bound"])   : KnY P w K mg base (k + 1) "look_answers" ["answers", "bound"] R_look_answers := by
  obtain ⟨f, fd, F, gm, bd⟩ := O.ex
  obtain ⟨c_NoAnswer, x_NoAnswer⟩ := XH.nm "NoAnswer" (by decide)
  refine ⟨f, fd, yfn_ok F sc_look_answers lnx_look_answers ?_, gm, F.kp, bd⟩
  intro cdv A outer s H E hr tk
  exact ⟨_, rx_look_answers, dys_one (dy_if (dt_w (dw_or (dt_lt (de_var 1) (de_int)) (dw_or1 (dt_ne hr (de_lcU (fin := finT) (own := [("answer", 2)]) fin_T rfl sc_look_answers.nd (di_list (de_var 0)) (blkOk_by (own := [("answer", 2)]) (N := ["answers", "bound", "answer"]) (sc := defScope s_look_answers) (by decide +kernel)) (fun _ _ _ _ _ => ⟨_, cg_name 2 sc_look_answers.nd⟩) (fun _ _ _ _ _ => ⟨_, dts_one (dt_w (dw_and (dt_ne hr (de_var 2) (de_int)) (dw_and1 (dt_ne hr (de_var 2) (de_int)))))⟩) (fun _ _ _ _ _ => ⟨_, de_var 2⟩) s) (de_lst (da_nil)))))) (dys_one (dy_raise rfl tk x_NoAnswer)) (dys_nil)), rpx_look_answers⟩

abbrev s_step : Stmt := topS 19
theorem sc_step : FnScope ["code", "state", "answers", "bound"] ["code", "state", "answers", "bound"] (defScope s_step) := ⟨rfl, rfl, rfl, by decide +kernel, rfl, by decide +kernel, by decide +kernel⟩
theorem kx_step {P : Program} {w : World} {K : PySem.W.Frag} {mg : Str → Option Value} {base : Heap} {k : Nat} (B : Bi mg) (M : Mi mg) (XH : XFY K mg RL ML NL) (O : Ow K mg "step" s_step ["code", "state", "answers", "bound"]) (G_look_code : Kn P w K mg base k "look_code" ["code"] C_look_code.s) (GX_look_answers : KnY P w K mg base k "look_answers" ["answers", "bound"] R_look_answers) : KnY P w K mg base (k + 1) "step" ["code", "state", "answers", "bound"] R_step := by
  obtain ⟨f, fd, F, gm, bd⟩ := O.ex
  obtain ⟨f_look_code, fd_look_code, ok_look_code, mg_look_code, kp_look_code, bd_look_code⟩ := G_look_code.ex
  obtain ⟨fx_look_answers, fdx_look_answers, okx_look_answers, mgx_look_answers, kpx_look_answers, bdx_look_answers⟩ := GX_look_answers.ex
  refine ⟨f, fd, yfn_ok F sc_step lnx_step ?_, gm, F.kp, bd⟩
  intro cdv A outer s H E hr tk
  exact ⟨_, rx_step, dys_cons (dy_plain (ds_expr (de_callT ok_look_code hr mg_look_code kp_look_code bd_look_code (da_cons (de_var 0) (da_nil)))))
  (dys_cons (dy_expr (dey_call tk okx_look_answers hr mgx_look_answers kpx_look_answers bdx_look_answers (da_cons (de_var 2) (da_cons (de_var 3) (da_nil)))))
  (dys_dead)), rpx_step⟩

abbrev s_run_code : Stmt := topS 20
theorem sc_run_code : FnScope ["code", "answers", "bound", "state", "near"] ["code", "answers", "bound"] (defScope s_run_code) := ⟨rfl, rfl, rfl, by decide +kernel, rfl, by decide +kernel, by decide +kernel⟩
theorem kx_run_code {P : Program} {w : World} {K : PySem.W.Frag} {mg : Str → Option Value} {base : Heap} {k : Nat} (B : Bi mg) (M : Mi mg) (XH : XFY K mg RL ML NL) (O : Ow K mg "run_code" s_run_code ["code", "answers", "bound"]) (G_look_code : Kn P w K mg base k "look_code" ["code"] C_look_code.s) (GX_look_answers : KnY P w K mg base k "look_answers" ["answers", "bound"] R_look_answers) : KnY P w K mg base (k + 1) "run_code" ["code", "answers", "bound"] R_run_code := by
  obtain ⟨f, fd, F, gm, bd⟩ := O.ex
  obtain ⟨f_look_code, fd_look_code, ok_look_code, mg_look_code, kp_look_code, bd_look_code⟩ := G_look_code.ex
  obtain ⟨fx_look_answers, fdx_look_answers, okx_look_answers, mgx_look_answers, kpx_look_answers, bdx_look_answers⟩ := GX_look_answers.ex
  refine ⟨f, fd, yfn_ok F sc_run_code lnx_run_code ?_, gm, F.kp, bd⟩
  intro cdv A outer s H E hr tk
  exact ⟨_, rx_run_code, dys_cons (dy_plain (ds_expr (de_callT ok_look_code hr mg_look_code kp_look_code bd_look_code (da_cons (de_var 0) (da_nil)))))
  (dys_cons (dy_expr (dey_call tk okx_look_answers hr mgx_look_answers kpx_look_answers bdx_look_answers (da_cons (de_var 1) (da_cons (de_var 2) (da_nil)))))
  (dys_dead)), rpx_run_code⟩

abbrev s__law_refused : Stmt := topS 29
theorem sc__law_refused : FnScope ["_law_way", "_law_code", "_law_answers", "_law_bound", "_law_caught", "e"] ["_law_way", "_law_code", "_law_answers", "_law_bound"] (defScope s__law_refused) := ⟨rfl, rfl, rfl, by decide +kernel, rfl, by decide +kernel, by decide +kernel⟩
theorem kn__law_refused {P : Program} {w : World} {K : PySem.W.Frag} {mg : Str → Option Value} {base : Heap} {k : Nat} (B : Bi mg) (M : Mi mg) (XH : XFY K mg RL ML NL) (O : Ow K mg "_law_refused" s__law_refused ["_law_way", "_law_code", "_law_answers", "_law_bound"]) (G_begun : Kn P w K mg base k "begun" [] C_begun.s) (GX_step : KnY P w K mg base k "step" ["code", "state", "answers", "bound"] R_step) (GX_run_code : KnY P w K mg base k "run_code" ["code", "answers", "bound"] R_run_code) : Kn P w K mg base (k + 1) "_law_refused" ["_law_way", "_law_code", "_law_answers", "_law_bound"] C__law_refused.s := by
  obtain ⟨f, fd, F, gm, bd⟩ := O.ex
  obtain ⟨f_begun, fd_begun, ok_begun, mg_begun, kp_begun, bd_begun⟩ := G_begun.ex
  obtain ⟨fx_step, fdx_step, okx_step, mgx_step, kpx_step, bdx_step⟩ := GX_step.ex
  obtain ⟨fx_run_code, fdx_run_code, okx_run_code, mgx_run_code, kpx_run_code, bdx_run_code⟩ := GX_run_code.ex
  refine ⟨f, fd, pfn_ok F sc__law_refused ln__law_refused ?_, gm, F.kp, bd⟩
  intro cdv A outer s H E hr
  exact ⟨_, rd__law_refused, dss_cons (ds_set 4 sc__law_refused.nd (de_non))
  (dss_cons ((ds_tryY 5 4 (by decide) XH.xi sc__law_refused.nd (fun W pn xe tk => ⟨_, dys_cons (dy_if (dt_eq hr (de_var 0) (de_int)) (dys_one (dy_expr (dey_call tk okx_step hr mgx_step kpx_step bdx_step (da_cons (de_var 1) (da_cons (de_callT0 ok_begun hr mg_begun kp_begun bd_begun) (da_cons (de_var 2) (da_cons (de_var 3) (da_nil)))))))) (dys_nil))
  (dys_one (dy_if (dt_eq hr (de_var 0) (de_int)) (dys_one (dy_expr (dey_call tk okx_run_code hr mgx_run_code kpx_run_code bdx_run_code (da_cons (de_var 1) (da_cons (de_var 2) (da_cons (de_var 3) (da_nil))))))) (dys_nil)))⟩)).choose_spec)
  (dss_one (ds_ret (de_and ((de_isY1 4 (m := "NoAnswer") XH.xi B.h_isinstance (dc_cls XH.xi)).choose_spec) (de_and ((de_isY1 4 (m := "ValueError") XH.xi B.h_isinstance (dc_val XH.xi)).choose_spec) (de_one (de_not ((de_isY1 4 (m := "NoCode") XH.xi B.h_isinstance (dc_cls XH.xi)).choose_spec)))))))), rp__law_refused⟩

theorem kn_look_answers {P : Program} {w : World} {K : PySem.W.Frag} {mg : Str → Option Value} {base : Heap} {k : Nat} (B : Bi mg) (M : Mi mg) (O : Ow K mg "look_answers" s_look_answers ["answers", "bound"])   : Kn P w K mg base (k + 1) "look_answers" ["answers", "bound"] C_look_answers.s := by
  obtain ⟨f, fd, F, gm, bd⟩ := O.ex
  refine ⟨f, fd, pfn_ok F sc_look_answers ln_look_answers ?_, gm, F.kp, bd⟩
  intro cdv A outer s H E hr
  exact ⟨_, rd_look_answers, dss_one (ds_if (dt_w (dw_or (dt_lt (de_var 1) (de_int)) (dw_or1 (dt_ne hr (de_lcU (fin := finT) (own := [("answer", 2)]) fin_T rfl sc_look_answers.nd (di_list (de_var 0)) (blkOk_by (own := [("answer", 2)]) (N := ["answers", "bound", "answer"]) (sc := defScope s_look_answers) (by decide +kernel)) (fun _ _ _ _ _ => ⟨_, cg_name 2 sc_look_answers.nd⟩) (fun _ _ _ _ _ => ⟨_, dts_one (dt_w (dw_and (dt_ne hr (de_var 2) (de_int)) (dw_and1 (dt_ne hr (de_var 2) (de_int)))))⟩) (fun _ _ _ _ _ => ⟨_, de_var 2⟩) s) (de_lst (da_nil)))))) (dss_one (ds_never)) (dss_nil)), rp_look_answers⟩

abbrev s_stands : Stmt := topS 13
theorem sc_stands : FnScope ["code", "state", "answers", "bound", "at", "frames", "boxes", "told", "chain", "rows", "used", "idle", "word"] ["code", "state", "answers", "bound"] (defScope s_stands) := ⟨rfl, rfl, rfl, by decide +kernel, rfl, by decide +kernel, by decide +kernel⟩
theorem kn_stands {P : Program} {w : World} {K : PySem.W.Frag} {mg : Str → Option Value} {base : Heap} {k : Nat} (B : Bi mg) (M : Mi mg) (O : Ow K mg "stands" s_stands ["code", "state", "answers", "bound"])   : Kn P w K mg base (k + 1) "stands" ["code", "state", "answers", "bound"] C_stands.s := by
  obtain ⟨f, fd, F, gm, bd⟩ := O.ex
  refine ⟨f, fd, pfn_ok F sc_stands ln_stands ?_, gm, F.kp, bd⟩
  intro cdv A outer s H E hr
  exact ⟨_, rd_stands, dss_cons (ds_asg (de_var 1) (dg_tup rfl (dgs_cons (dg_name 4 sc_stands.nd) (dgs_cons (dg_name 5 sc_stands.nd) (dgs_cons (dg_name 6 sc_stands.nd) (dgs_cons (dg_name 7 sc_stands.nd) (dgs_cons (dg_name 8 sc_stands.nd) (dgs_cons (dg_name 9 sc_stands.nd) (dgs_cons (dg_name 10 sc_stands.nd) (dgs_cons (dg_name 11 sc_stands.nd) (dgs_nil)))))))))))
  (dss_cons (ds_if (dt_w (dw_or (dt_ge (de_var 4) (de_len B.h_len (da_cons (de_var 0) (da_nil)))) (dw_or1 (dt_ge (de_var 11) (de_globE (by rfl) M.m_MOST_IDLE))))) (dss_one (ds_ret (de_str))) (dss_nil))
  (dss_cons (ds_set 12 sc_stands.nd (de_ix (de_ix (de_var 0) (de_var 4)) (de_int)))
  (dss_cons (ds_if (dt_w (dw_and (dt_in (de_var 12) (de_lst (da_cons (de_str) (da_cons (de_str) (da_cons (de_str) (da_nil)))))) (dw_and1 (dt_ge (de_len B.h_len (da_cons (de_var 9) (da_nil))) (de_var 3))))) (dss_one (ds_ret (de_str))) (dss_nil))
  (dss_cons (ds_if (dt_w (dw_and (dt_eq hr (de_var 12) (de_str)) (dw_and1 (dt_ge (de_var 10) (de_len B.h_len (da_cons (de_var 2) (da_nil))))))) (dss_one (ds_ret (de_str))) (dss_nil))
  (dss_cons (ds_if (dt_w (dw_and (dt_eq hr (de_var 12) (de_str)) (dw_and1 (dt_eq hr (de_len B.h_len (da_cons (de_var 5) (da_nil))) (de_int))))) (dss_one (ds_ret (de_str))) (dss_nil))
  (dss_one (ds_ret (de_non)))))))), rp_stands⟩

abbrev s_gone_through : Stmt := topS 15
theorem sc_gone_through : FnScope ["state", "row", "at", "frames", "chain", "asked", "boxes", "told", "rows", "used"] ["state", "row", "at", "frames", "chain", "asked"] (defScope s_gone_through) := ⟨rfl, rfl, rfl, by decide +kernel, rfl, by decide +kernel, by decide +kernel⟩
theorem kn_gone_through {P : Program} {w : World} {K : PySem.W.Frag} {mg : Str → Option Value} {base : Heap} {k : Nat} (B : Bi mg) (M : Mi mg) (O : Ow K mg "gone_through" s_gone_through ["state", "row", "at", "frames", "chain", "asked"])   : Kn P w K mg base (k + 1) "gone_through" ["state", "row", "at", "frames", "chain", "asked"] C_gone_through.s := by
  obtain ⟨f, fd, F, gm, bd⟩ := O.ex
  refine ⟨f, fd, pfn_ok F sc_gone_through ln_gone_through ?_, gm, F.kp, bd⟩
  intro cdv A outer s H E hr
  exact ⟨_, rd_gone_through, dss_cons (ds_asg (de_tup (da_cons (de_ix (de_var 0) (de_int)) (da_cons (de_ix (de_var 0) (de_int)) (da_cons (de_ix (de_var 0) (de_int)) (da_cons (de_ix (de_var 0) (de_int)) (da_nil)))))) (dg_tup rfl (dgs_cons (dg_name 6 sc_gone_through.nd) (dgs_cons (dg_name 7 sc_gone_through.nd) (dgs_cons (dg_name 8 sc_gone_through.nd) (dgs_cons (dg_name 9 sc_gone_through.nd) (dgs_nil)))))))
  (dss_one (ds_ret (de_tup (da_cons (de_var 2) (da_cons (de_var 3) (da_cons (de_listOf B.h_list (da_cons (de_var 6) (da_nil))) (da_cons (de_listOf B.h_list (da_cons (de_var 7) (da_nil))) (da_cons (de_var 4) (da_cons (de_add (de_var 8) (de_lst (da_cons (de_var 1) (da_nil)))) (da_cons (de_add (de_var 9) (de_var 5)) (da_cons (de_int) (da_nil)))))))))))), rp_gone_through⟩

abbrev s_row_done : Stmt := topS 16
theorem sc_row_done : FnScope ["code", "state", "answers", "at", "frames", "boxes", "told", "chain", "rows", "used", "idle", "line", "more"] ["code", "state", "answers"] (defScope s_row_done) := ⟨rfl, rfl, rfl, by decide +kernel, rfl, by decide +kernel, by decide +kernel⟩
theorem kn_row_done {P : Program} {w : World} {K : PySem.W.Frag} {mg : Str → Option Value} {base : Heap} {k : Nat} (B : Bi mg) (M : Mi mg) (O : Ow K mg "row_done" s_row_done ["code", "state", "answers"]) (G_gone_through : Kn P w K mg base k "gone_through" ["state", "row", "at", "frames", "chain", "asked"] C_gone_through.s)  : Kn P w K mg base (k + 1) "row_done" ["code", "state", "answers"] C_row_done.s := by
  obtain ⟨f, fd, F, gm, bd⟩ := O.ex
  obtain ⟨f_gone_through, fd_gone_through, ok_gone_through, mg_gone_through, kp_gone_through, bd_gone_through⟩ := G_gone_through.ex
  refine ⟨f, fd, pfn_ok F sc_row_done ln_row_done ?_, gm, F.kp, bd⟩
  intro cdv A outer s H E hr
  exact ⟨_, rd_row_done, dss_cons (ds_asg (de_var 1) (dg_tup rfl (dgs_cons (dg_name 3 sc_row_done.nd) (dgs_cons (dg_name 4 sc_row_done.nd) (dgs_cons (dg_name 5 sc_row_done.nd) (dgs_cons (dg_name 6 sc_row_done.nd) (dgs_cons (dg_name 7 sc_row_done.nd) (dgs_cons (dg_name 8 sc_row_done.nd) (dgs_cons (dg_name 9 sc_row_done.nd) (dgs_cons (dg_name 10 sc_row_done.nd) (dgs_nil)))))))))))
  (dss_cons (ds_set 11 sc_row_done.nd (de_ix (de_var 0) (de_var 3)))
  (dss_cons (ds_if (dt_eq hr (de_ix (de_var 11) (de_int)) (de_str)) (dss_one (ds_ret (de_callH ok_gone_through hr mg_gone_through kp_gone_through bd_gone_through (da_cons (de_var 1) (da_cons (de_ix (de_var 11) (de_int)) (da_cons (de_add (de_var 3) (de_int)) (da_cons (de_listOf B.h_list (da_cons (de_var 4) (da_nil))) (da_cons (de_var 7) (da_cons (de_int) (da_nil)))))))))) (dss_nil))
  (dss_cons (ds_if (dt_eq hr (de_ix (de_var 11) (de_int)) (de_str)) (dss_cons (ds_set 12 sc_row_done.nd (de_add (de_var 4) (de_lst (da_cons (de_tup (da_cons (de_add (de_var 3) (de_int)) (da_cons (de_int) (da_cons (de_var 7) (da_nil))))) (da_nil)))))
  (dss_one (ds_ret (de_callH ok_gone_through hr mg_gone_through kp_gone_through bd_gone_through (da_cons (de_var 1) (da_cons (de_ix (de_var 11) (de_int)) (da_cons (de_ix (de_var 11) (de_int)) (da_cons (de_var 12) (da_cons (de_add (de_var 7) (de_ix (de_var 11) (de_int))) (da_cons (de_int) (da_nil))))))))))) (dss_nil))
  (dss_cons (ds_if (dt_eq hr (de_ix (de_var 2) (de_var 9)) (de_int)) (dss_one (ds_ret (de_callH ok_gone_through hr mg_gone_through kp_gone_through bd_gone_through (da_cons (de_var 1) (da_cons (de_ix (de_var 11) (de_int)) (da_cons (de_add (de_var 3) (de_int)) (da_cons (de_listOf B.h_list (da_cons (de_var 4) (da_nil))) (da_cons (de_var 7) (da_cons (de_int) (da_nil)))))))))) (dss_nil))
  (dss_one (ds_ret (de_callH ok_gone_through hr mg_gone_through kp_gone_through bd_gone_through (da_cons (de_var 1) (da_cons (de_ix (de_var 11) (de_int)) (da_cons (de_ix (de_var 11) (de_int)) (da_cons (de_listOf B.h_list (da_cons (de_var 4) (da_nil))) (da_cons (de_var 7) (da_cons (de_int) (da_nil)))))))))))))), rp_row_done⟩

abbrev s_one_more : Stmt := topS 14
theorem sc_one_more : FnScope ["boxes", "box", "found"] ["boxes", "box"] (defScope s_one_more) := ⟨rfl, rfl, rfl, by decide +kernel, rfl, by decide +kernel, by decide +kernel⟩
theorem kn_one_more {P : Program} {w : World} {K : PySem.W.Frag} {mg : Str → Option Value} {base : Heap} {k : Nat} (B : Bi mg) (M : Mi mg) (O : Ow K mg "one_more" s_one_more ["boxes", "box"])   : Kn P w K mg base (k + 1) "one_more" ["boxes", "box"] C_one_more.s := by
  obtain ⟨f, fd, F, gm, bd⟩ := O.ex
  refine ⟨f, fd, pfn_ok F sc_one_more ln_one_more ?_, gm, F.kp, bd⟩
  intro cdv A outer s H E hr
  exact ⟨_, rd_one_more, dss_cons (ds_set 2 sc_one_more.nd (de_dictOfP rfl B.h_dict (da_cons (de_var 0) (da_nil))))
  (dss_cons (ds_dput hr (de_var 2) (de_var 1) (de_add (de_getD hr (de_var 2) (de_var 1) (de_int)) (de_int)))
  (dss_one (ds_ret (de_sortItems rfl B.h_sorted (de_var 2))))), rp_one_more⟩

abbrev s_other_done : Stmt := topS 17
theorem sc_other_done : FnScope ["code", "state", "at", "frames", "boxes", "told", "chain", "rows", "used", "idle", "line", "last", "total", "kept", "near"] ["code", "state"] (defScope s_other_done) := ⟨rfl, rfl, rfl, by decide +kernel, rfl, by decide +kernel, by decide +kernel⟩
theorem kn_other_done {P : Program} {w : World} {K : PySem.W.Frag} {mg : Str → Option Value} {base : Heap} {k : Nat} (B : Bi mg) (M : Mi mg) (O : Ow K mg "other_done" s_other_done ["code", "state"]) (G_one_more : Kn P w K mg base k "one_more" ["boxes", "box"] C_one_more.s)  : Kn P w K mg base (k + 1) "other_done" ["code", "state"] C_other_done.s := by
  obtain ⟨f, fd, F, gm, bd⟩ := O.ex
  obtain ⟨f_one_more, fd_one_more, ok_one_more, mg_one_more, kp_one_more, bd_one_more⟩ := G_one_more.ex
  refine ⟨f, fd, pfn_ok F sc_other_done ln_other_done ?_, gm, F.kp, bd⟩
  intro cdv A outer s H E hr
  exact ⟨_, rd_other_done, dss_cons (ds_asg (de_var 1) (dg_tup rfl (dgs_cons (dg_name 2 sc_other_done.nd) (dgs_cons (dg_name 3 sc_other_done.nd) (dgs_cons (dg_name 4 sc_other_done.nd) (dgs_cons (dg_name 5 sc_other_done.nd) (dgs_cons (dg_name 6 sc_other_done.nd) (dgs_cons (dg_name 7 sc_other_done.nd) (dgs_cons (dg_name 8 sc_other_done.nd) (dgs_cons (dg_name 9 sc_other_done.nd) (dgs_nil)))))))))))
  (dss_cons (ds_set 10 sc_other_done.nd (de_ix (de_var 0) (de_var 2)))
  (dss_cons (ds_asg (de_ix (de_var 3) (de_neg (de_int))) (dg_tup rfl (dgs_cons (dg_name 11 sc_other_done.nd) (dgs_cons (dg_name 12 sc_other_done.nd) (dgs_cons (dg_name 13 sc_other_done.nd) (dgs_nil))))))
  (dss_cons (ds_set 14 sc_other_done.nd (de_add (de_var 2) (de_int)))
  (dss_cons (ds_set 3 sc_other_done.nd (de_listOfH B.h_list (da_cons (de_var 3) (da_nil))))
  (dss_cons (ds_set 5 sc_other_done.nd (de_listOfH B.h_list (da_cons (de_var 5) (da_nil))))
  (dss_cons (ds_set 4 sc_other_done.nd (de_listOf B.h_list (da_cons (de_var 4) (da_nil))))
  (dss_cons (ds_if (dt_eq hr (de_ix (de_var 10) (de_int)) (de_str)) (dss_one (ds_set 14 sc_other_done.nd (de_ix (de_var 10) (de_int)))) (dss_nil))
  (dss_cons (ds_if (dt_eq hr (de_ix (de_var 10) (de_int)) (de_str)) (dss_one (ds_set 4 sc_other_done.nd (de_callT ok_one_more hr mg_one_more kp_one_more bd_one_more (da_cons (de_var 4) (da_cons (de_ix (de_var 10) (de_int)) (da_nil)))))) (dss_nil))
  (dss_cons (ds_if (dt_eq hr (de_ix (de_var 10) (de_int)) (de_str)) (dss_one (ds_asg (de_tup (da_cons (de_var 11) (da_cons (de_add (de_var 12) (de_ix (de_var 10) (de_int))) (da_cons (de_var 13) (da_nil))))) (dg_sub (de_var 3) (de_neg (de_int))))) (dss_nil))
  (dss_cons (ds_if (dt_eq hr (de_ix (de_var 10) (de_int)) (de_str)) (dss_cons (ds_expr (de_append (de_var 5) (da_cons (de_tup (da_cons (de_ix (de_var 10) (de_int)) (da_cons (de_var 6) (da_cons (de_var 12) (da_nil))))) (da_nil))))
  (dss_one (ds_asg (de_tup (da_cons (de_var 11) (da_cons (de_ix (de_var 10) (de_int)) (da_cons (de_var 13) (da_nil))))) (dg_sub (de_var 3) (de_neg (de_int)))))) (dss_nil))
  (dss_cons (ds_if (dt_eq hr (de_ix (de_var 10) (de_int)) (de_str)) (dss_cons (ds_expr (de_pop (de_var 3)))
  (dss_cons (ds_set 6 sc_other_done.nd (de_var 13))
  (dss_one (ds_set 14 sc_other_done.nd (de_var 11))))) (dss_nil))
  (dss_one (ds_ret (de_tup (da_cons (de_var 14) (da_cons (de_frz 3) (da_cons (de_var 4) (da_cons (de_frz 5) (da_cons (de_var 6) (da_cons (de_listOf B.h_list (da_cons (de_var 7) (da_nil))) (da_cons (de_var 8) (da_cons (de_add (de_var 9) (de_int)) (da_nil))))))))))))))))))))))), rp_other_done⟩

abbrev s_stepped : Stmt := topS 18
theorem sc_stepped : FnScope ["code", "state", "answers", "bound", "word"] ["code", "state", "answers", "bound"] (defScope s_stepped) := ⟨rfl, rfl, rfl, by decide +kernel, rfl, by decide +kernel, by decide +kernel⟩
theorem kn_stepped {P : Program} {w : World} {K : PySem.W.Frag} {mg : Str → Option Value} {base : Heap} {k : Nat} (B : Bi mg) (M : Mi mg) (O : Ow K mg "stepped" s_stepped ["code", "state", "answers", "bound"]) (G_stands : Kn P w K mg base k "stands" ["code", "state", "answers", "bound"] C_stands.s) (G_row_done : Kn P w K mg base k "row_done" ["code", "state", "answers"] C_row_done.s) (G_other_done : Kn P w K mg base k "other_done" ["code", "state"] C_other_done.s)  : Kn P w K mg base (k + 1) "stepped" ["code", "state", "answers", "bound"] C_stepped.s := by
  obtain ⟨f, fd, F, gm, bd⟩ := O.ex
  obtain ⟨f_stands, fd_stands, ok_stands, mg_stands, kp_stands, bd_stands⟩ := G_stands.ex
  obtain ⟨f_row_done, fd_row_done, ok_row_done, mg_row_done, kp_row_done, bd_row_done⟩ := G_row_done.ex
  obtain ⟨f_other_done, fd_other_done, ok_other_done, mg_other_done, kp_other_done, bd_other_done⟩ := G_other_done.ex
  refine ⟨f, fd, pfn_ok F sc_stepped ln_stepped ?_, gm, F.kp, bd⟩
  intro cdv A outer s H E hr
  exact ⟨_, rd_stepped, dss_cons (ds_set 4 sc_stepped.nd (de_callT ok_stands hr mg_stands kp_stands bd_stands (da_cons (de_var 0) (da_cons (de_var 1) (da_cons (de_var 2) (da_cons (de_var 3) (da_nil)))))))
  (dss_cons (ds_if (dt_notNone (de_var 4)) (dss_one (ds_ret (de_var 4))) (dss_nil))
  (dss_cons (ds_if (dt_in (de_ix (de_ix (de_var 0) (de_ix (de_var 1) (de_int))) (de_int)) (de_lst (da_cons (de_str) (da_cons (de_str) (da_cons (de_str) (da_nil)))))) (dss_one (ds_ret (de_callH ok_row_done hr mg_row_done kp_row_done bd_row_done (da_cons (de_var 0) (da_cons (de_var 1) (da_cons (de_var 2) (da_nil))))))) (dss_nil))
  (dss_one (ds_ret (de_callH ok_other_done hr mg_other_done kp_other_done bd_other_done (da_cons (de_var 0) (da_cons (de_var 1) (da_nil)))))))), rp_stepped⟩

theorem kn_run_code {P : Program} {w : World} {K : PySem.W.Frag} {mg : Str → Option Value} {base : Heap} {k : Nat} (B : Bi mg) (M : Mi mg) (O : Ow K mg "run_code" s_run_code ["code", "answers", "bound"]) (G_look_code : Kn P w K mg base k "look_code" ["code"] C_look_code.s) (G_look_answers : Kn P w K mg base k "look_answers" ["answers", "bound"] C_look_answers.s) (G_begun : Kn P w K mg base k "begun" [] C_begun.s) (G_stepped : Kn P w K mg base k "stepped" ["code", "state", "answers", "bound"] C_stepped.s)  : Kn P w K mg base (k + 1) "run_code" ["code", "answers", "bound"] C_run_code.s := by
  obtain ⟨f, fd, F, gm, bd⟩ := O.ex
  obtain ⟨f_look_code, fd_look_code, ok_look_code, mg_look_code, kp_look_code, bd_look_code⟩ := G_look_code.ex
  obtain ⟨f_look_answers, fd_look_answers, ok_look_answers, mg_look_answers, kp_look_answers, bd_look_answers⟩ := G_look_answers.ex
  obtain ⟨f_begun, fd_begun, ok_begun, mg_begun, kp_begun, bd_begun⟩ := G_begun.ex
  obtain ⟨f_stepped, fd_stepped, ok_stepped, mg_stepped, kp_stepped, bd_stepped⟩ := G_stepped.ex
  refine ⟨f, fd, pfn_ok F sc_run_code ln_run_code ?_, gm, F.kp, bd⟩
  intro cdv A outer s H E hr
  exact ⟨_, rd_run_code, dss_cons (ds_expr (de_callT ok_look_code hr mg_look_code kp_look_code bd_look_code (da_cons (de_var 0) (da_nil))))
  (dss_cons (ds_expr (de_callT ok_look_answers hr mg_look_answers kp_look_answers bd_look_answers (da_cons (de_var 1) (da_cons (de_var 2) (da_nil)))))
  (dss_cons (ds_set 3 sc_run_code.nd (de_callT0 ok_begun hr mg_begun kp_begun bd_begun))
  (dss_cons (ds_set 4 sc_run_code.nd (de_callT ok_stepped hr mg_stepped kp_stepped bd_stepped (da_cons (de_var 0) (da_cons (de_var 3) (da_cons (de_var 1) (da_cons (de_var 2) (da_nil)))))))
  (dss_cons (ds_while (dt_not (dt_val (de_isi B.h_isinstance (da_cons (de_var 4) (da_cons (de_bltn (by rfl) B.h_str (by decide +kernel)) (da_nil)))))) (dss_cons (ds_set 3 sc_run_code.nd (de_var 4))
  (dss_one (ds_set 4 sc_run_code.nd (de_callT ok_stepped hr mg_stepped kp_stepped bd_stepped (da_cons (de_var 0) (da_cons (de_var 3) (da_cons (de_var 1) (da_cons (de_var 2) (da_nil))))))))))
  (dss_one (ds_ret (de_tup (da_cons (de_var 4) (da_cons (de_var 3) (da_nil)))))))))), rp_run_code⟩

abbrev s__law_idle : Stmt := topS 31
theorem sc__law_idle : FnScope ["_law_number", "_law_many", "_law_most", "_law_last"] ["_law_number"] (defScope s__law_idle) := ⟨rfl, rfl, rfl, by decide +kernel, rfl, by decide +kernel, by decide +kernel⟩
theorem kn__law_idle {P : Program} {w : World} {K : PySem.W.Frag} {mg : Str → Option Value} {base : Heap} {k : Nat} (B : Bi mg) (M : Mi mg) (O : Ow K mg "_law_idle" s__law_idle ["_law_number"]) (G_run_code : Kn P w K mg base k "run_code" ["code", "answers", "bound"] C_run_code.s)  : Kn P w K mg base (k + 1) "_law_idle" ["_law_number"] C__law_idle.s := by
  obtain ⟨f, fd, F, gm, bd⟩ := O.ex
  obtain ⟨f_run_code, fd_run_code, ok_run_code, mg_run_code, kp_run_code, bd_run_code⟩ := G_run_code.ex
  refine ⟨f, fd, pfn_ok F sc__law_idle ln__law_idle ?_, gm, F.kp, bd⟩
  intro cdv A outer s H E hr
  exact ⟨_, rd__law_idle, dss_cons (ds_set 1 sc__law_idle.nd (de_add (de_int) (de_mod (de_var 0) (de_int))))
  (dss_cons (ds_set 2 sc__law_idle.nd (de_min rfl B.h_min (da_cons (de_var 1) (da_cons (de_int) (da_nil)))))
  (dss_cons (ds_set 3 sc__law_idle.nd (de_callT ok_run_code hr mg_run_code kp_run_code bd_run_code (da_cons (de_add (de_rep (de_lst (da_cons (de_tup (da_cons (de_str) (da_cons (de_int) (da_nil)))) (da_nil))) (de_var 1)) (de_lst (da_cons (de_tup (da_cons (de_str) (da_nil))) (da_nil)))) (da_cons (de_lst (da_nil)) (da_cons (de_int) (da_nil))))))
  (dss_cons (ds_if (dt_ne hr (de_var 3) (de_tup (da_cons (de_ix (de_lst (da_cons (de_str) (da_cons (de_str) (da_nil)))) (de_intOf B.h_int (da_cons (de_gt (de_var 1) (de_int)) (da_nil)))) (da_cons (de_tup (da_cons (de_var 2) (da_cons (de_lst (da_cons (de_tup (da_cons (de_neg (de_int)) (da_cons (de_var 2) (da_cons (de_int) (da_nil))))) (da_nil))) (da_cons (de_lst (da_nil)) (da_cons (de_lst (da_nil)) (da_cons (de_int) (da_cons (de_lst (da_nil)) (da_cons (de_int) (da_cons (de_var 2) (da_nil)))))))))) (da_nil))))) (dss_one (ds_ret (de_bl))) (dss_nil))
  (dss_one (ds_ret (de_eq hr (de_callT ok_run_code hr mg_run_code kp_run_code bd_run_code (da_cons (de_lst (da_cons (de_tup (da_cons (de_str) (da_cons (de_int) (da_nil)))) (da_nil))) (da_cons (de_lst (da_nil)) (da_cons (de_int) (da_nil))))) (de_tup (da_cons (de_str) (da_cons (de_tup (da_cons (de_int) (da_cons (de_lst (da_cons (de_tup (da_cons (de_neg (de_int)) (da_cons (de_int) (da_cons (de_int) (da_nil))))) (da_nil))) (da_cons (de_lst (da_nil)) (da_cons (de_lst (da_nil)) (da_cons (de_int) (da_cons (de_lst (da_nil)) (da_cons (de_int) (da_cons (de_int) (da_nil)))))))))) (da_nil)))))))))), rp__law_idle⟩

abbrev s_begunL : Stmt := topS 12
theorem sc_begunL : FnScope [] [] (defScope s_begunL) := ⟨rfl, rfl, rfl, by decide +kernel, rfl, by decide +kernel, by decide +kernel⟩
theorem kn_begunL {P : Program} {w : World} {K : PySem.W.Frag} {mg : Str → Option Value} {base : Heap} {k : Nat} (B : Bi mg) (M : Mi mg) (O : Ow K mg "begun" s_begunL [])   : Kn P w K mg base (k + 1) "begun" [] C_begunL := by
  obtain ⟨f, fd, F, gm, bd⟩ := O.ex
  refine ⟨f, fd, dfn_ok F sc_begunL ln_begunL ?_, gm, F.kp, bd⟩
  intro cdv A outer s H E hr
  exact ⟨_, rd_begunL, dss_one (ds_ret (de_tupW (da_cons (de_int) (da_cons (de_lstH (da_cons (de_tup (da_cons (de_neg (de_int)) (da_cons (de_int) (da_cons (de_int) (da_nil))))) (da_nil))) (da_cons (de_lstH (da_nil)) (da_cons (de_lstH (da_nil)) (da_cons (de_int) (da_cons (de_lstH (da_nil)) (da_cons (de_int) (da_cons (de_int) (da_nil))))))))))), rp_begunL⟩

abbrev s__law_whole : Stmt := topS 22
theorem sc__law_whole : FnScope ["_law_found"] ["_law_found"] (defScope s__law_whole) := ⟨rfl, rfl, rfl, by decide +kernel, rfl, by decide +kernel, by decide +kernel⟩
theorem kn__law_whole {P : Program} {w : World} {K : PySem.W.Frag} {mg : Str → Option Value} {base : Heap} {k : Nat} (B : Bi mg) (M : Mi mg) (O : Ow K mg "_law_whole" s__law_whole ["_law_found"])   : Kn P w K mg base (k + 1) "_law_whole" ["_law_found"] C__law_whole.s := by
  obtain ⟨f, fd, F, gm, bd⟩ := O.ex
  refine ⟨f, fd, pfn_ok F sc__law_whole ln__law_whole ?_, gm, F.kp, bd⟩
  intro cdv A outer s H E hr
  exact ⟨_, rd__law_whole, dss_one (ds_ret (de_and (de_isi B.h_isinstance (da_cons (de_var 0) (da_cons (de_bltn (by rfl) B.h_int (by decide +kernel)) (da_nil)))) (de_one (de_not (de_isi B.h_isinstance (da_cons (de_var 0) (da_cons (de_bltn (by rfl) B.h_bool (by decide +kernel)) (da_nil)))))))), rp__law_whole⟩

abbrev s__law_whole_state : Stmt := topS 30
theorem sc__law_whole_state : FnScope ["_law_state", "_law_k", "_law_part"] ["_law_state"] (defScope s__law_whole_state) := ⟨rfl, rfl, rfl, by decide +kernel, rfl, by decide +kernel, by decide +kernel⟩
theorem kn__law_whole_state {P : Program} {w : World} {K : PySem.W.Frag} {mg : Str → Option Value} {base : Heap} {k : Nat} (B : Bi mg) (M : Mi mg) (O : Ow K mg "_law_whole_state" s__law_whole_state ["_law_state"]) (G__law_whole : Kn P w K mg base k "_law_whole" ["_law_found"] C__law_whole.s)  : Kn P w K mg base (k + 1) "_law_whole_state" ["_law_state"] C__law_whole_state.s := by
  obtain ⟨f, fd, F, gm, bd⟩ := O.ex
  obtain ⟨f__law_whole, fd__law_whole, ok__law_whole, mg__law_whole, kp__law_whole, bd__law_whole⟩ := G__law_whole.ex
  refine ⟨f, fd, pfn_ok F sc__law_whole_state ln__law_whole_state ?_, gm, F.kp, bd⟩
  intro cdv A outer s H E hr
  exact ⟨_, rd__law_whole_state, dss_cons (ds_if (dt_w (dw_or (dt_not (dt_val (de_isi B.h_isinstance (da_cons (de_var 0) (da_cons (de_bltn (by rfl) B.h_tuple (by decide +kernel)) (da_nil)))))) (dw_or1 (dt_ne hr (de_len B.h_len (da_cons (de_var 0) (da_nil))) (de_int))))) (dss_one (ds_ret (de_bl))) (dss_nil))
  (dss_cons (ds_for rfl (di_list (de_lst (da_cons (de_int) (da_cons (de_int) (da_cons (de_int) (da_cons (de_int) (da_nil))))))) (dg_name 1 sc__law_whole_state.nd) (dss_one (ds_if (dt_not (dt_val (de_callT ok__law_whole hr mg__law_whole kp__law_whole bd__law_whole (da_cons (de_ix (de_var 0) (de_var 1)) (da_nil))))) (dss_one (ds_ret (de_bl))) (dss_nil))))
  (dss_one (ds_ret (de_eq hr (de_lcU (fin := finT) (own := [("_law_part", 2)]) fin_T rfl sc__law_whole_state.nd (di_list (de_lst (da_cons (de_ix (de_var 0) (de_int)) (da_cons (de_ix (de_var 0) (de_int)) (da_cons (de_ix (de_var 0) (de_int)) (da_cons (de_ix (de_var 0) (de_int)) (da_nil))))))) (blkOk_by (own := [("_law_part", 2)]) (N := ["_law_state", "_law_k", "_law_part"]) (sc := defScope s__law_whole_state) (by decide +kernel)) (fun _ _ _ _ _ => ⟨_, cg_name 2 sc__law_whole_state.nd⟩) (fun _ _ _ _ _ => ⟨_, dts_one (dt_not (dt_val (de_isi B.h_isinstance (da_cons (de_var 2) (da_cons (de_bltn (by rfl) B.h_list (by decide +kernel)) (da_nil))))))⟩) (fun _ _ _ _ _ => ⟨_, de_var 2⟩) s) (de_lst (da_nil)))))), rp__law_whole_state⟩

abbrev s__law_still : Stmt := topS 25
theorem sc__law_still : FnScope ["_law_code", "_law_state", "_law_answers", "_law_bound", "_law_word"] ["_law_code", "_law_state", "_law_answers", "_law_bound"] (defScope s__law_still) := ⟨rfl, rfl, rfl, by decide +kernel, rfl, by decide +kernel, by decide +kernel⟩
theorem kn__law_still {P : Program} {w : World} {K : PySem.W.Frag} {mg : Str → Option Value} {base : Heap} {k : Nat} (B : Bi mg) (M : Mi mg) (O : Ow K mg "_law_still" s__law_still ["_law_code", "_law_state", "_law_answers", "_law_bound"])   : Kn P w K mg base (k + 1) "_law_still" ["_law_code", "_law_state", "_law_answers", "_law_bound"] C__law_still.s := by
  obtain ⟨f, fd, F, gm, bd⟩ := O.ex
  refine ⟨f, fd, pfn_ok F sc__law_still ln__law_still ?_, gm, F.kp, bd⟩
  intro cdv A outer s H E hr
  exact ⟨_, rd__law_still, dss_cons (ds_set 4 sc__law_still.nd (de_str))
  (dss_cons (ds_if (dt_lt (de_ix (de_var 1) (de_int)) (de_len B.h_len (da_cons (de_var 0) (da_nil)))) (dss_one (ds_set 4 sc__law_still.nd (de_ix (de_ix (de_var 0) (de_ix (de_var 1) (de_int))) (de_int)))) (dss_nil))
  (dss_cons (ds_if (dt_w (dw_or (dt_eq hr (de_var 4) (de_str)) (dw_or1 (dt_gt (de_ix (de_var 1) (de_int)) (de_int))))) (dss_one (ds_ret (de_str))) (dss_nil))
  (dss_cons (ds_if (dt_w (dw_and (dt_in (de_var 4) (de_tup (da_cons (de_str) (da_cons (de_str) (da_cons (de_str) (da_nil)))))) (dw_and1 (dt_ge (de_len B.h_len (da_cons (de_ix (de_var 1) (de_int)) (da_nil))) (de_var 3))))) (dss_one (ds_ret (de_str))) (dss_nil))
  (dss_cons (ds_if (dt_w (dw_and (dt_eq hr (de_var 4) (de_str)) (dw_and1 (dt_ge (de_ix (de_var 1) (de_int)) (de_len B.h_len (da_cons (de_var 2) (da_nil))))))) (dss_one (ds_ret (de_str))) (dss_nil))
  (dss_cons (ds_if (dt_w (dw_and (dt_eq hr (de_var 4) (de_str)) (dw_and1 (dt_lt (de_len B.h_len (da_cons (de_ix (de_var 1) (de_int)) (da_nil))) (de_int))))) (dss_one (ds_ret (de_str))) (dss_nil))
  (dss_one (ds_ret (de_non)))))))), rp__law_still⟩

abbrev s_gone_throughL : Stmt := topS 15
theorem sc_gone_throughL : FnScope ["state", "row", "at", "frames", "chain", "asked", "boxes", "told", "rows", "used"] ["state", "row", "at", "frames", "chain", "asked"] (defScope s_gone_throughL) := ⟨rfl, rfl, rfl, by decide +kernel, rfl, by decide +kernel, by decide +kernel⟩
theorem kn_gone_throughL {P : Program} {w : World} {K : PySem.W.Frag} {mg : Str → Option Value} {base : Heap} {k : Nat} (B : Bi mg) (M : Mi mg) (O : Ow K mg "gone_through" s_gone_throughL ["state", "row", "at", "frames", "chain", "asked"])   : Kn P w K mg base (k + 1) "gone_through" ["state", "row", "at", "frames", "chain", "asked"] C_gone_throughL := by
  obtain ⟨f, fd, F, gm, bd⟩ := O.ex
  refine ⟨f, fd, dfn_ok F sc_gone_throughL ln_gone_throughL ?_, gm, F.kp, bd⟩
  intro cdv A outer s H E hr
  exact ⟨_, rd_gone_throughL, dss_cons (ds_asg (de_tupW (da_cons (de_ixP (de_var 0) (de_int)) (da_cons (de_ixP (de_var 0) (de_int)) (da_cons (de_ixP (de_var 0) (de_int)) (da_cons (de_ixP (de_var 0) (de_int)) (da_nil)))))) (dg_unp rfl (dgw_cons (dg_name 6 sc_gone_throughL.nd) (dgw_cons (dg_name 7 sc_gone_throughL.nd) (dgw_cons (dg_name 8 sc_gone_throughL.nd) (dgw_cons (dg_name 9 sc_gone_throughL.nd) (dgw_nil)))))))
  (dss_one (ds_ret (de_tup (da_cons (de_var 2) (da_cons (de_var 3) (da_cons (de_listOf B.h_list (da_cons (de_var 6) (da_nil))) (da_cons (de_listOf B.h_list (da_cons (de_var 7) (da_nil))) (da_cons (de_var 4) (da_cons (de_add (de_var 8) (de_lst (da_cons (de_var 1) (da_nil)))) (da_cons (de_add (de_var 9) (de_var 5)) (da_cons (de_int) (da_nil)))))))))))), rp_gone_throughL⟩

abbrev s_row_doneL : Stmt := topS 16
theorem sc_row_doneL : FnScope ["code", "state", "answers", "at", "frames", "boxes", "told", "chain", "rows", "used", "idle", "line", "more"] ["code", "state", "answers"] (defScope s_row_doneL) := ⟨rfl, rfl, rfl, by decide +kernel, rfl, by decide +kernel, by decide +kernel⟩
theorem kn_row_doneL {P : Program} {w : World} {K : PySem.W.Frag} {mg : Str → Option Value} {base : Heap} {k : Nat} (B : Bi mg) (M : Mi mg) (O : Ow K mg "row_done" s_row_doneL ["code", "state", "answers"]) (G_gone_throughL : Kn P w K mg base k "gone_through" ["state", "row", "at", "frames", "chain", "asked"] C_gone_throughL)  : Kn P w K mg base (k + 1) "row_done" ["code", "state", "answers"] C_row_doneL := by
  obtain ⟨f, fd, F, gm, bd⟩ := O.ex
  obtain ⟨f_gone_throughL, fd_gone_throughL, ok_gone_throughL, mg_gone_throughL, kp_gone_throughL, bd_gone_throughL⟩ := G_gone_throughL.ex
  refine ⟨f, fd, dfn_ok F sc_row_doneL ln_row_doneL ?_, gm, F.kp, bd⟩
  intro cdv A outer s H E hr
  exact ⟨_, rd_row_doneL, dss_cons (ds_asg (de_var 1) (dg_unp rfl (dgw_cons (dg_name 3 sc_row_doneL.nd) (dgw_cons (dg_name 4 sc_row_doneL.nd) (dgw_cons (dg_name 5 sc_row_doneL.nd) (dgw_cons (dg_name 6 sc_row_doneL.nd) (dgw_cons (dg_name 7 sc_row_doneL.nd) (dgw_cons (dg_name 8 sc_row_doneL.nd) (dgw_cons (dg_name 9 sc_row_doneL.nd) (dgw_cons (dg_name 10 sc_row_doneL.nd) (dgw_nil)))))))))))
  (dss_cons (ds_set 11 sc_row_doneL.nd (de_ix (de_var 0) (de_var 3)))
  (dss_cons (ds_if (dt_eq hr (de_ix (de_var 11) (de_int)) (de_str)) (dss_one (ds_ret (de_callS ok_gone_throughL hr mg_gone_throughL kp_gone_throughL bd_gone_throughL (da_cons (de_var 1) (da_cons (de_ix (de_var 11) (de_int)) (da_cons (de_add (de_var 3) (de_int)) (da_cons (de_listOf B.h_list (da_cons (de_var 4) (da_nil))) (da_cons (de_var 7) (da_cons (de_int) (da_nil)))))))))) (dss_nil))
  (dss_cons (ds_if (dt_eq hr (de_ix (de_var 11) (de_int)) (de_str)) (dss_cons (ds_set 12 sc_row_doneL.nd (de_add (de_var 4) (de_lst (da_cons (de_tup (da_cons (de_add (de_var 3) (de_int)) (da_cons (de_int) (da_cons (de_var 7) (da_nil))))) (da_nil)))))
  (dss_one (ds_ret (de_callS ok_gone_throughL hr mg_gone_throughL kp_gone_throughL bd_gone_throughL (da_cons (de_var 1) (da_cons (de_ix (de_var 11) (de_int)) (da_cons (de_ix (de_var 11) (de_int)) (da_cons (de_var 12) (da_cons (de_add (de_var 7) (de_ix (de_var 11) (de_int))) (da_cons (de_int) (da_nil))))))))))) (dss_nil))
  (dss_cons (ds_if (dt_eq hr (de_ix (de_var 2) (de_var 9)) (de_int)) (dss_one (ds_ret (de_callS ok_gone_throughL hr mg_gone_throughL kp_gone_throughL bd_gone_throughL (da_cons (de_var 1) (da_cons (de_ix (de_var 11) (de_int)) (da_cons (de_add (de_var 3) (de_int)) (da_cons (de_listOf B.h_list (da_cons (de_var 4) (da_nil))) (da_cons (de_var 7) (da_cons (de_int) (da_nil)))))))))) (dss_nil))
  (dss_one (ds_ret (de_callS ok_gone_throughL hr mg_gone_throughL kp_gone_throughL bd_gone_throughL (da_cons (de_var 1) (da_cons (de_ix (de_var 11) (de_int)) (da_cons (de_ix (de_var 11) (de_int)) (da_cons (de_listOf B.h_list (da_cons (de_var 4) (da_nil))) (da_cons (de_var 7) (da_cons (de_int) (da_nil)))))))))))))), rp_row_doneL⟩

abbrev s_other_doneL : Stmt := topS 17
theorem sc_other_doneL : FnScope ["code", "state", "at", "frames", "boxes", "told", "chain", "rows", "used", "idle", "line", "last", "total", "kept", "near"] ["code", "state"] (defScope s_other_doneL) := ⟨rfl, rfl, rfl, by decide +kernel, rfl, by decide +kernel, by decide +kernel⟩
theorem kn_other_doneL {P : Program} {w : World} {K : PySem.W.Frag} {mg : Str → Option Value} {base : Heap} {k : Nat} (B : Bi mg) (M : Mi mg) (O : Ow K mg "other_done" s_other_doneL ["code", "state"]) (G_one_more : Kn P w K mg base k "one_more" ["boxes", "box"] C_one_more.s)  : Kn P w K mg base (k + 1) "other_done" ["code", "state"] C_other_doneL := by
  obtain ⟨f, fd, F, gm, bd⟩ := O.ex
  obtain ⟨f_one_more, fd_one_more, ok_one_more, mg_one_more, kp_one_more, bd_one_more⟩ := G_one_more.ex
  refine ⟨f, fd, dfn_ok F sc_other_doneL ln_other_doneL ?_, gm, F.kp, bd⟩
  intro cdv A outer s H E hr
  exact ⟨_, rd_other_doneL, dss_cons (ds_asg (de_var 1) (dg_unp rfl (dgw_cons (dg_name 2 sc_other_doneL.nd) (dgw_cons (dg_name 3 sc_other_doneL.nd) (dgw_cons (dg_name 4 sc_other_doneL.nd) (dgw_cons (dg_name 5 sc_other_doneL.nd) (dgw_cons (dg_name 6 sc_other_doneL.nd) (dgw_cons (dg_name 7 sc_other_doneL.nd) (dgw_cons (dg_name 8 sc_other_doneL.nd) (dgw_cons (dg_name 9 sc_other_doneL.nd) (dgw_nil)))))))))))
  (dss_cons (ds_set 10 sc_other_doneL.nd (de_ix (de_var 0) (de_var 2)))
  (dss_cons (ds_asg (de_ix (de_var 3) (de_neg (de_int))) (dg_tup rfl (dgs_cons (dg_name 11 sc_other_doneL.nd) (dgs_cons (dg_name 12 sc_other_doneL.nd) (dgs_cons (dg_name 13 sc_other_doneL.nd) (dgs_nil))))))
  (dss_cons (ds_set 14 sc_other_doneL.nd (de_add (de_var 2) (de_int)))
  (dss_cons (ds_set 3 sc_other_doneL.nd (de_listOfH B.h_list (da_cons (de_var 3) (da_nil))))
  (dss_cons (ds_set 5 sc_other_doneL.nd (de_listOfH B.h_list (da_cons (de_var 5) (da_nil))))
  (dss_cons (ds_set 4 sc_other_doneL.nd (de_listOf B.h_list (da_cons (de_var 4) (da_nil))))
  (dss_cons (ds_if (dt_eq hr (de_ix (de_var 10) (de_int)) (de_str)) (dss_one (ds_set 14 sc_other_doneL.nd (de_ix (de_var 10) (de_int)))) (dss_nil))
  (dss_cons (ds_if (dt_eq hr (de_ix (de_var 10) (de_int)) (de_str)) (dss_one (ds_set 4 sc_other_doneL.nd (de_callT ok_one_more hr mg_one_more kp_one_more bd_one_more (da_cons (de_var 4) (da_cons (de_ix (de_var 10) (de_int)) (da_nil)))))) (dss_nil))
  (dss_cons (ds_if (dt_eq hr (de_ix (de_var 10) (de_int)) (de_str)) (dss_one (ds_asg (de_tup (da_cons (de_var 11) (da_cons (de_add (de_var 12) (de_ix (de_var 10) (de_int))) (da_cons (de_var 13) (da_nil))))) (dg_sub (de_var 3) (de_neg (de_int))))) (dss_nil))
  (dss_cons (ds_if (dt_eq hr (de_ix (de_var 10) (de_int)) (de_str)) (dss_cons (ds_expr (de_append (de_var 5) (da_cons (de_tup (da_cons (de_ix (de_var 10) (de_int)) (da_cons (de_var 6) (da_cons (de_var 12) (da_nil))))) (da_nil))))
  (dss_one (ds_asg (de_tup (da_cons (de_var 11) (da_cons (de_ix (de_var 10) (de_int)) (da_cons (de_var 13) (da_nil))))) (dg_sub (de_var 3) (de_neg (de_int)))))) (dss_nil))
  (dss_cons (ds_if (dt_eq hr (de_ix (de_var 10) (de_int)) (de_str)) (dss_cons (ds_expr (de_pop (de_var 3)))
  (dss_cons (ds_set 6 sc_other_doneL.nd (de_var 13))
  (dss_one (ds_set 14 sc_other_doneL.nd (de_var 11))))) (dss_nil))
  (dss_one (ds_ret (de_tup (da_cons (de_var 14) (da_cons (de_frz 3) (da_cons (de_var 4) (da_cons (de_frz 5) (da_cons (de_var 6) (da_cons (de_listOf B.h_list (da_cons (de_var 7) (da_nil))) (da_cons (de_var 8) (da_cons (de_add (de_var 9) (de_int)) (da_nil))))))))))))))))))))))), rp_other_doneL⟩

abbrev s_steppedL : Stmt := topS 18
theorem sc_steppedL : FnScope ["code", "state", "answers", "bound", "word"] ["code", "state", "answers", "bound"] (defScope s_steppedL) := ⟨rfl, rfl, rfl, by decide +kernel, rfl, by decide +kernel, by decide +kernel⟩
theorem kn_steppedL {P : Program} {w : World} {K : PySem.W.Frag} {mg : Str → Option Value} {base : Heap} {k : Nat} (B : Bi mg) (M : Mi mg) (O : Ow K mg "stepped" s_steppedL ["code", "state", "answers", "bound"]) (G_stands : Kn P w K mg base k "stands" ["code", "state", "answers", "bound"] C_stands.s) (G_row_doneL : Kn P w K mg base k "row_done" ["code", "state", "answers"] C_row_doneL) (G_other_doneL : Kn P w K mg base k "other_done" ["code", "state"] C_other_doneL)  : Kn P w K mg base (k + 1) "stepped" ["code", "state", "answers", "bound"] C_steppedL := by
  obtain ⟨f, fd, F, gm, bd⟩ := O.ex
  obtain ⟨f_stands, fd_stands, ok_stands, mg_stands, kp_stands, bd_stands⟩ := G_stands.ex
  obtain ⟨f_row_doneL, fd_row_doneL, ok_row_doneL, mg_row_doneL, kp_row_doneL, bd_row_doneL⟩ := G_row_doneL.ex
  obtain ⟨f_other_doneL, fd_other_doneL, ok_other_doneL, mg_other_doneL, kp_other_doneL, bd_other_doneL⟩ := G_other_doneL.ex
  refine ⟨f, fd, dfn_ok F sc_steppedL ln_steppedL ?_, gm, F.kp, bd⟩
  intro cdv A outer s H E hr
  exact ⟨_, rd_steppedL, dss_cons (ds_set 4 sc_steppedL.nd (de_callN ok_stands hr mg_stands kp_stands bd_stands (da_cons (de_var 0) (da_cons (de_var 1) (da_cons (de_var 2) (da_cons (de_var 3) (da_nil)))))))
  (dss_cons (ds_if (dt_notNone (de_var 4)) (dss_one (ds_ret (de_var 4))) (dss_nil))
  (dss_cons (ds_if (dt_in (de_ix (de_ix (de_var 0) (de_ixP (de_var 1) (de_int))) (de_int)) (de_lst (da_cons (de_str) (da_cons (de_str) (da_cons (de_str) (da_nil)))))) (dss_one (ds_ret (de_callS ok_row_doneL hr mg_row_doneL kp_row_doneL bd_row_doneL (da_cons (de_var 0) (da_cons (de_var 1) (da_cons (de_var 2) (da_nil))))))) (dss_nil))
  (dss_one (ds_ret (de_callS ok_other_doneL hr mg_other_doneL kp_other_doneL bd_other_doneL (da_cons (de_var 0) (da_cons (de_var 1) (da_nil)))))))), rp_steppedL⟩

abbrev s_stepL : Stmt := topS 19
theorem sc_stepL : FnScope ["code", "state", "answers", "bound"] ["code", "state", "answers", "bound"] (defScope s_stepL) := ⟨rfl, rfl, rfl, by decide +kernel, rfl, by decide +kernel, by decide +kernel⟩
theorem kn_stepL {P : Program} {w : World} {K : PySem.W.Frag} {mg : Str → Option Value} {base : Heap} {k : Nat} (B : Bi mg) (M : Mi mg) (O : Ow K mg "step" s_stepL ["code", "state", "answers", "bound"]) (G_look_code : Kn P w K mg base k "look_code" ["code"] C_look_code.s) (G_look_answers : Kn P w K mg base k "look_answers" ["answers", "bound"] C_look_answers.s) (G_steppedL : Kn P w K mg base k "stepped" ["code", "state", "answers", "bound"] C_steppedL)  : Kn P w K mg base (k + 1) "step" ["code", "state", "answers", "bound"] C_stepL := by
  obtain ⟨f, fd, F, gm, bd⟩ := O.ex
  obtain ⟨f_look_code, fd_look_code, ok_look_code, mg_look_code, kp_look_code, bd_look_code⟩ := G_look_code.ex
  obtain ⟨f_look_answers, fd_look_answers, ok_look_answers, mg_look_answers, kp_look_answers, bd_look_answers⟩ := G_look_answers.ex
  obtain ⟨f_steppedL, fd_steppedL, ok_steppedL, mg_steppedL, kp_steppedL, bd_steppedL⟩ := G_steppedL.ex
  refine ⟨f, fd, dfn_ok F sc_stepL ln_stepL ?_, gm, F.kp, bd⟩
  intro cdv A outer s H E hr
  exact ⟨_, rd_stepL, dss_cons (ds_expr (de_callT ok_look_code hr mg_look_code kp_look_code bd_look_code (da_cons (de_var 0) (da_nil))))
  (dss_cons (ds_expr (de_callT ok_look_answers hr mg_look_answers kp_look_answers bd_look_answers (da_cons (de_var 2) (da_cons (de_var 3) (da_nil)))))
  (dss_one (ds_ret (de_callS ok_steppedL hr mg_steppedL kp_steppedL bd_steppedL (da_cons (de_var 0) (da_cons (de_var 1) (da_cons (de_var 2) (da_cons (de_var 3) (da_nil))))))))), rp_stepL⟩

abbrev s__law_box : Stmt := topS 26
theorem sc__law_box : FnScope ["_law_boxes", "_law_box_here", "_law_held", "_law_one", "_law_many", "_law_pair"] ["_law_boxes", "_law_box_here"] (defScope s__law_box) := ⟨rfl, rfl, rfl, by decide +kernel, rfl, by decide +kernel, by decide +kernel⟩
theorem kn__law_box {P : Program} {w : World} {K : PySem.W.Frag} {mg : Str → Option Value} {base : Heap} {k : Nat} (B : Bi mg) (M : Mi mg) (O : Ow K mg "_law_box" s__law_box ["_law_boxes", "_law_box_here"])   : Kn P w K mg base (k + 1) "_law_box" ["_law_boxes", "_law_box_here"] C__law_box.s := by
  obtain ⟨f, fd, F, gm, bd⟩ := O.ex
  refine ⟨f, fd, pfn_ok F sc__law_box ln__law_box ?_, gm, F.kp, bd⟩
  intro cdv A outer s H E hr
  exact ⟨_, rd__law_box, dss_cons (ds_setLcU 2 (fin := finT) (own := [("_law_one", 3), ("_law_many", 4)]) fin_T rfl sc__law_box.nd (di_list (de_var 0)) (blkOk_by (own := [("_law_one", 3), ("_law_many", 4)]) (N := ["_law_boxes", "_law_box_here", "_law_held", "_law_one", "_law_many", "_law_pair"]) (sc := defScope s__law_box) (by decide +kernel)) (fun _ _ _ _ _ => ⟨_, cg_tup rfl (cgs_cons (cg_name 3 sc__law_box.nd) (cgs_cons (cg_name 4 sc__law_box.nd) (cgs_nil)))⟩) (fun _ _ _ _ _ => ⟨_, dts_one (dt_eq hr (de_var 3) (de_var 1))⟩) (fun _ _ _ _ _ => ⟨_, de_var 4⟩) s)
  (dss_one (ds_ret (de_sortP B.h_sorted (da_cons (de_add (de_lcU (fin := finT) (own := [("_law_pair", 5)]) fin_T rfl sc__law_box.nd (di_list (de_var 0)) (blkOk_by (own := [("_law_pair", 5)]) (N := ["_law_boxes", "_law_box_here", "_law_held", "_law_one", "_law_many", "_law_pair"]) (sc := defScope s__law_box) (by decide +kernel)) (fun _ _ _ _ _ => ⟨_, cg_name 5 sc__law_box.nd⟩) (fun _ _ _ _ _ => ⟨_, dts_one (dt_ne hr (de_ix (de_var 5) (de_int)) (de_var 1))⟩) (fun _ _ _ _ _ => ⟨_, de_var 5⟩) s) (de_lst (da_cons (de_tup (da_cons (de_var 1) (da_cons (de_add (de_int) (de_sum rfl B.h_sum (da_cons (de_var 2) (da_nil)))) (da_nil)))) (da_nil)))) (da_nil))))), rp__law_box⟩

abbrev s__law_near : Stmt := topS 27
theorem sc__law_near : FnScope ["_law_code", "_law_state", "_law_answers", "_law_at", "_law_frames", "_law_boxes", "_law_heard", "_law_chain", "_law_rows", "_law_used", "_law_idle_here", "_law_line_here", "_law_back", "_law_total", "_law_kept", "_law_near_here", "_law_row", "_law_to"] ["_law_code", "_law_state", "_law_answers"] (defScope s__law_near) := ⟨rfl, rfl, rfl, by decide +kernel, rfl, by decide +kernel, by decide +kernel⟩
theorem kn__law_near {P : Program} {w : World} {K : PySem.W.Frag} {mg : Str → Option Value} {base : Heap} {k : Nat} (B : Bi mg) (M : Mi mg) (O : Ow K mg "_law_near" s__law_near ["_law_code", "_law_state", "_law_answers"]) (G__law_box : Kn P w K mg base k "_law_box" ["_law_boxes", "_law_box_here"] C__law_box.s)  : Kn P w K mg base (k + 1) "_law_near" ["_law_code", "_law_state", "_law_answers"] C__law_near.s := by
  obtain ⟨f, fd, F, gm, bd⟩ := O.ex
  obtain ⟨f__law_box, fd__law_box, ok__law_box, mg__law_box, kp__law_box, bd__law_box⟩ := G__law_box.ex
  refine ⟨f, fd, pfn_ok F sc__law_near ln__law_near ?_, gm, F.kp, bd⟩
  intro cdv A outer s H E hr
  exact ⟨_, rd__law_near, dss_cons (ds_asg (de_var 1) (dg_tup rfl (dgs_cons (dg_name 3 sc__law_near.nd) (dgs_cons (dg_name 4 sc__law_near.nd) (dgs_cons (dg_name 5 sc__law_near.nd) (dgs_cons (dg_name 6 sc__law_near.nd) (dgs_cons (dg_name 7 sc__law_near.nd) (dgs_cons (dg_name 8 sc__law_near.nd) (dgs_cons (dg_name 9 sc__law_near.nd) (dgs_cons (dg_name 10 sc__law_near.nd) (dgs_nil)))))))))))
  (dss_cons (ds_set 11 sc__law_near.nd (de_ix (de_var 0) (de_var 3)))
  (dss_cons (ds_asg (de_ix (de_var 4) (de_neg (de_int))) (dg_tup rfl (dgs_cons (dg_name 12 sc__law_near.nd) (dgs_cons (dg_name 13 sc__law_near.nd) (dgs_cons (dg_name 14 sc__law_near.nd) (dgs_nil))))))
  (dss_cons (ds_set 15 sc__law_near.nd (de_tup (da_cons (de_add (de_var 3) (de_int)) (da_cons (de_var 4) (da_cons (de_var 5) (da_cons (de_var 6) (da_cons (de_var 7) (da_cons (de_var 8) (da_cons (de_var 9) (da_cons (de_add (de_var 10) (de_int)) (da_nil)))))))))))
  (dss_cons (ds_if (dt_eq hr (de_ix (de_var 11) (de_int)) (de_str)) (dss_one (ds_ret (de_tup (da_cons (de_add (de_var 3) (de_int)) (da_cons (de_var 4) (da_cons (de_var 5) (da_cons (de_var 6) (da_cons (de_var 7) (da_cons (de_add (de_var 8) (de_lst (da_cons (de_ix (de_var 11) (de_int)) (da_nil)))) (da_cons (de_var 9) (da_cons (de_int) (da_nil)))))))))))) (dss_nil))
  (dss_cons (ds_if (dt_eq hr (de_ix (de_var 11) (de_int)) (de_str)) (dss_cons (ds_asg (de_ix (de_lst (da_cons (de_tup (da_cons (de_ix (de_var 11) (de_int)) (da_cons (de_ix (de_var 11) (de_int)) (da_nil)))) (da_cons (de_tup (da_cons (de_ix (de_var 11) (de_int)) (da_cons (de_add (de_var 3) (de_int)) (da_nil)))) (da_nil)))) (de_ix (de_var 2) (de_var 9))) (dg_tup rfl (dgs_cons (dg_name 16 sc__law_near.nd) (dgs_cons (dg_name 17 sc__law_near.nd) (dgs_nil)))))
  (dss_one (ds_ret (de_tup (da_cons (de_var 17) (da_cons (de_var 4) (da_cons (de_var 5) (da_cons (de_var 6) (da_cons (de_var 7) (da_cons (de_add (de_var 8) (de_lst (da_cons (de_var 16) (da_nil)))) (da_cons (de_add (de_var 9) (de_int)) (da_cons (de_int) (da_nil))))))))))))) (dss_nil))
  (dss_cons (ds_if (dt_eq hr (de_ix (de_var 11) (de_int)) (de_str)) (dss_cons (ds_set 4 sc__law_near.nd (de_add (de_var 4) (de_lst (da_cons (de_tup (da_cons (de_add (de_var 3) (de_int)) (da_cons (de_int) (da_cons (de_var 7) (da_nil))))) (da_nil)))))
  (dss_one (ds_ret (de_tup (da_cons (de_ix (de_var 11) (de_int)) (da_cons (de_var 4) (da_cons (de_var 5) (da_cons (de_var 6) (da_cons (de_add (de_var 7) (de_ix (de_var 11) (de_int))) (da_cons (de_add (de_var 8) (de_lst (da_cons (de_ix (de_var 11) (de_int)) (da_nil)))) (da_cons (de_var 9) (da_cons (de_int) (da_nil))))))))))))) (dss_nil))
  (dss_cons (ds_if (dt_eq hr (de_ix (de_var 11) (de_int)) (de_str)) (dss_one (ds_ret (de_addT (de_tup (da_cons (de_ix (de_var 11) (de_int)) (da_nil))) (de_slA (de_var 15) (do_some (de_int)) (do_none))))) (dss_nil))
  (dss_cons (ds_if (dt_eq hr (de_ix (de_var 11) (de_int)) (de_str)) (dss_one (ds_ret (de_addT (de_tup (da_cons (de_var 12) (da_cons (de_sl (de_var 4) (do_none) (do_some (de_neg (de_int)))) (da_cons (de_var 5) (da_cons (de_var 6) (da_cons (de_var 14) (da_nil))))))) (de_slA (de_var 15) (do_some (de_int)) (do_none))))) (dss_nil))
  (dss_cons (ds_if (dt_eq hr (de_ix (de_var 11) (de_int)) (de_str)) (dss_one (ds_ret (de_addT (de_addT (de_slA (de_var 15) (do_none) (do_some (de_int))) (de_tup (da_cons (de_callT ok__law_box hr mg__law_box kp__law_box bd__law_box (da_cons (de_var 5) (da_cons (de_ix (de_var 11) (de_int)) (da_nil)))) (da_nil)))) (de_slA (de_var 15) (do_some (de_int)) (do_none))))) (dss_nil))
  (dss_cons (ds_if (dt_eq hr (de_ix (de_var 11) (de_int)) (de_str)) (dss_one (ds_ret (de_addT (de_addT (de_slA (de_var 15) (do_none) (do_some (de_int))) (de_tup (da_cons (de_add (de_sl (de_var 4) (do_none) (do_some (de_neg (de_int)))) (de_lst (da_cons (de_tup (da_cons (de_var 12) (da_cons (de_add (de_var 13) (de_ix (de_var 11) (de_int))) (da_cons (de_var 14) (da_nil))))) (da_nil)))) (da_nil)))) (de_slA (de_var 15) (do_some (de_int)) (do_none))))) (dss_nil))
  (dss_cons (ds_set 6 sc__law_near.nd (de_add (de_var 6) (de_lst (da_cons (de_tup (da_cons (de_ix (de_var 11) (de_int)) (da_cons (de_var 7) (da_cons (de_var 13) (da_nil))))) (da_nil)))))
  (dss_one (ds_ret (de_addT (de_tup (da_cons (de_add (de_var 3) (de_int)) (da_cons (de_add (de_sl (de_var 4) (do_none) (do_some (de_neg (de_int)))) (de_lst (da_cons (de_tup (da_cons (de_var 12) (da_cons (de_ix (de_var 11) (de_int)) (da_cons (de_var 14) (da_nil))))) (da_nil)))) (da_cons (de_var 5) (da_cons (de_var 6) (da_nil)))))) (de_slA (de_var 15) (do_some (de_int)) (do_none)))))))))))))))), rp__law_near⟩

abbrev s__law_copy : Stmt := topS 28
theorem sc__law_copy : FnScope ["_law_state", "_law_part"] ["_law_state"] (defScope s__law_copy) := ⟨rfl, rfl, rfl, by decide +kernel, rfl, by decide +kernel, by decide +kernel⟩
theorem kn__law_copy {P : Program} {w : World} {K : PySem.W.Frag} {mg : Str → Option Value} {base : Heap} {k : Nat} (B : Bi mg) (M : Mi mg) (O : Ow K mg "_law_copy" s__law_copy ["_law_state"])   : Kn P w K mg base (k + 1) "_law_copy" ["_law_state"] C__law_copy := by
  obtain ⟨f, fd, F, gm, bd⟩ := O.ex
  refine ⟨f, fd, dfn_ok F sc__law_copy ln__law_copy ?_, gm, F.kp, bd⟩
  intro cdv A outer s H E hr
  exact ⟨_, rd__law_copy, dss_one (ds_ret (de_tupOfW B.h_tuple (da_cons (de_lcU (fin := finW) (own := [("_law_part", 1)]) fin_W rfl sc__law_copy.nd (di_tup (de_var 0)) (blkOk_by (own := [("_law_part", 1)]) (N := ["_law_state", "_law_part"]) (sc := defScope s__law_copy) (by decide +kernel)) (fun _ _ _ _ _ => ⟨_, cg_name 1 sc__law_copy.nd⟩) (fun _ _ _ _ _ => ⟨_, dts_nil⟩) (fun _ _ _ _ _ => ⟨_, de_ifExp (dt_val (de_isi B.h_isinstance (da_cons (de_var 1) (da_cons (de_bltn (by rfl) B.h_list (by decide +kernel)) (da_nil))))) (de_listOfH B.h_list (da_cons (de_var 1) (da_nil))) (de_var 1)⟩) s) (da_nil)))), rp__law_copy⟩

abbrev s_law : Stmt := topS 32
theorem sc_law : FnScope ["_law_script", "_law_draws_here", "_law_many", "_law_code", "_law_answers", "_law_bound", "_law_wrong", "_law_handed", "_law_due", "_law_state", "_law_word", "_law_k", "_law_near_here", "_law_last"] ["_law_script"] (defScope s_law) := ⟨rfl, rfl, rfl, by decide +kernel, rfl, by decide +kernel, by decide +kernel⟩
theorem kl_law {P : Program} {w : World} {K : PySem.W.Frag} {mg : Str → Option Value} {base : Heap} {k : Nat} {f : Addr} {fd : FuncData} (B : Bi mg) (M : Mi mg) (F : Fun K "law" "law" s_law f fd) (G__law_draws : Kn P w K mg base k "_law_draws" ["_law_script", "_law_many"] C__law_draws.s) (G__law_line : Kn P w K mg base k "_law_line" ["_law_number", "_law_many"] C__law_line.s) (G__law_refused : Kn P w K mg base k "_law_refused" ["_law_way", "_law_code", "_law_answers", "_law_bound"] C__law_refused.s) (G__law_idle : Kn P w K mg base k "_law_idle" ["_law_number"] C__law_idle.s) (G_begunL : Kn P w K mg base k "begun" [] C_begunL) (G__law_whole_state : Kn P w K mg base k "_law_whole_state" ["_law_state"] C__law_whole_state.s) (G__law_still : Kn P w K mg base k "_law_still" ["_law_code", "_law_state", "_law_answers", "_law_bound"] C__law_still.s) (G_stepL : Kn P w K mg base k "step" ["code", "state", "answers", "bound"] C_stepL) (G_run_code : Kn P w K mg base k "run_code" ["code", "answers", "bound"] C_run_code.s) (G__law_near : Kn P w K mg base k "_law_near" ["_law_code", "_law_state", "_law_answers"] C__law_near.s) (G__law_copy : Kn P w K mg base k "_law_copy" ["_law_state"] C__law_copy)  : FnOk P w K mg base CX0 (k + 1) f fd ["_law_script"] (sps K C_law) := by
  obtain ⟨f__law_draws, fd__law_draws, ok__law_draws, mg__law_draws, kp__law_draws, bd__law_draws⟩ := G__law_draws.ex
  obtain ⟨f__law_line, fd__law_line, ok__law_line, mg__law_line, kp__law_line, bd__law_line⟩ := G__law_line.ex
  obtain ⟨f__law_refused, fd__law_refused, ok__law_refused, mg__law_refused, kp__law_refused, bd__law_refused⟩ := G__law_refused.ex
  obtain ⟨f__law_idle, fd__law_idle, ok__law_idle, mg__law_idle, kp__law_idle, bd__law_idle⟩ := G__law_idle.ex
  obtain ⟨f_begunL, fd_begunL, ok_begunL, mg_begunL, kp_begunL, bd_begunL⟩ := G_begunL.ex
  obtain ⟨f__law_whole_state, fd__law_whole_state, ok__law_whole_state, mg__law_whole_state, kp__law_whole_state, bd__law_whole_state⟩ := G__law_whole_state.ex
  obtain ⟨f__law_still, fd__law_still, ok__law_still, mg__law_still, kp__law_still, bd__law_still⟩ := G__law_still.ex
  obtain ⟨f_stepL, fd_stepL, ok_stepL, mg_stepL, kp_stepL, bd_stepL⟩ := G_stepL.ex
  obtain ⟨f_run_code, fd_run_code, ok_run_code, mg_run_code, kp_run_code, bd_run_code⟩ := G_run_code.ex
  obtain ⟨f__law_near, fd__law_near, ok__law_near, mg__law_near, kp__law_near, bd__law_near⟩ := G__law_near.ex
  obtain ⟨f__law_copy, fd__law_copy, ok__law_copy, mg__law_copy, kp__law_copy, bd__law_copy⟩ := G__law_copy.ex
  refine dfn_ok F sc_law ln_law ?_
  intro cdv A outer s H E hr
  exact ⟨_, rd_law, dss_cons (ds_set 1 sc_law.nd (de_callT ok__law_draws hr mg__law_draws kp__law_draws bd__law_draws (da_cons (de_var 0) (da_cons (de_int) (da_nil)))))
  (dss_cons (ds_set 2 sc_law.nd (de_add (de_int) (de_mod (de_ix (de_var 1) (de_int)) (de_int))))
  (dss_cons (ds_setLcU 3 (fin := finT) (own := [("_law_k", 11)]) fin_T rfl sc_law.nd (di_range1 B.h_range (da_cons (de_var 2) (da_nil))) (blkOk_by (own := [("_law_k", 11)]) (N := ["_law_script", "_law_draws_here", "_law_many", "_law_code", "_law_answers", "_law_bound", "_law_wrong", "_law_handed", "_law_due", "_law_state", "_law_word", "_law_k", "_law_near_here", "_law_last"]) (sc := defScope s_law) (by decide +kernel)) (fun _ _ _ _ _ => ⟨_, cg_name 11 sc_law.nd⟩) (fun _ _ _ _ _ => ⟨_, dts_nil⟩) (fun _ _ _ _ _ => ⟨_, de_callT ok__law_line hr mg__law_line kp__law_line bd__law_line (da_cons (de_add (de_ix (de_var 1) (de_add (de_int) (de_var 11))) (de_mul (de_int) (de_ix (de_var 1) (de_add (de_int) (de_var 11))))) (da_cons (de_var 2) (da_nil)))⟩) s)
  (dss_cons (ds_setLcU 4 (fin := finT) (own := [("_law_k", 11)]) fin_T rfl sc_law.nd (di_range1 B.h_range (da_cons (de_mod (de_ix (de_var 1) (de_int)) (de_int)) (da_nil))) (blkOk_by (own := [("_law_k", 11)]) (N := ["_law_script", "_law_draws_here", "_law_many", "_law_code", "_law_answers", "_law_bound", "_law_wrong", "_law_handed", "_law_due", "_law_state", "_law_word", "_law_k", "_law_near_here", "_law_last"]) (sc := defScope s_law) (by decide +kernel)) (fun _ _ _ _ _ => ⟨_, cg_name 11 sc_law.nd⟩) (fun _ _ _ _ _ => ⟨_, dts_nil⟩) (fun _ _ _ _ _ => ⟨_, de_mod (de_ix (de_var 1) (de_add (de_int) (de_var 11))) (de_int)⟩) s)
  (dss_cons (ds_set 5 sc_law.nd (de_mod (de_ix (de_var 1) (de_int)) (de_int)))
  (dss_cons (ds_if (dt_eq hr (de_mod (de_ix (de_var 1) (de_int)) (de_int)) (de_int)) (dss_cons (ds_set 6 sc_law.nd (de_add (de_var 4) (de_lst (da_cons (de_ix (de_lst (da_cons (de_int) (da_cons (de_neg (de_int)) (da_nil)))) (de_mod (de_ix (de_var 1) (de_int)) (de_int))) (da_nil)))))
  (dss_cons (ds_if (dt_w (dw_or (dt_not (dt_val (de_callT ok__law_refused hr mg__law_refused kp__law_refused bd__law_refused (da_cons (de_int) (da_cons (de_var 3) (da_cons (de_var 6) (da_cons (de_var 5) (da_nil)))))))) (dw_or1 (dt_not (dt_val (de_callT ok__law_refused hr mg__law_refused kp__law_refused bd__law_refused (da_cons (de_int) (da_cons (de_var 3) (da_cons (de_var 6) (da_cons (de_var 5) (da_nil))))))))))) (dss_one (ds_ret (de_bl))) (dss_nil))
  (dss_one (ds_if (dt_w (dw_or (dt_not (dt_val (de_callT ok__law_refused hr mg__law_refused kp__law_refused bd__law_refused (da_cons (de_int) (da_cons (de_var 3) (da_cons (de_var 4) (da_cons (de_sub (de_neg (de_int)) (de_var 5)) (da_nil)))))))) (dw_or1 (dt_not (dt_val (de_callT ok__law_refused hr mg__law_refused kp__law_refused bd__law_refused (da_cons (de_int) (da_cons (de_var 3) (da_cons (de_var 4) (da_cons (de_sub (de_neg (de_int)) (de_var 5)) (da_nil))))))))))) (dss_one (ds_ret (de_bl))) (dss_nil))))) (dss_nil))
  (dss_cons (ds_if (dt_w (dw_and (dt_eq hr (de_mod (de_ix (de_var 1) (de_int)) (de_int)) (de_int)) (dw_and1 (dt_not (dt_val (de_callT ok__law_idle hr mg__law_idle kp__law_idle bd__law_idle (da_cons (de_ix (de_var 1) (de_int)) (da_nil)))))))) (dss_one (ds_ret (de_bl))) (dss_nil))
  (dss_cons (ds_set 7 sc_law.nd (de_tup (da_cons (de_listOf B.h_list (da_cons (de_var 3) (da_nil))) (da_cons (de_listOf B.h_list (da_cons (de_var 4) (da_nil))) (da_nil)))))
  (dss_cons (ds_set 8 sc_law.nd (de_tup (da_cons (de_int) (da_cons (de_lst (da_cons (de_tup (da_cons (de_neg (de_int)) (da_cons (de_int) (da_cons (de_int) (da_nil))))) (da_nil))) (da_cons (de_lst (da_nil)) (da_cons (de_lst (da_nil)) (da_cons (de_int) (da_cons (de_lst (da_nil)) (da_cons (de_int) (da_cons (de_int) (da_nil)))))))))))
  (dss_cons (ds_set 9 sc_law.nd (de_callS0 ok_begunL hr mg_begunL kp_begunL bd_begunL))
  (dss_cons (ds_set 10 sc_law.nd (de_non))
  (dss_cons (ds_for rfl (di_range1 B.h_range (da_cons (de_int) (da_nil))) (dg_name 11 sc_law.nd) (dss_cons (ds_if (dt_w (dw_or (dt_neN hr (de_var 9) (de_var 8)) (dw_or1 (dt_not (dt_val (de_callN ok__law_whole_state hr mg__law_whole_state kp__law_whole_state bd__law_whole_state (da_cons (de_var 9) (da_nil)))))))) (dss_one (ds_ret (de_bl))) (dss_nil))
  (dss_cons (ds_set 10 sc_law.nd (de_callT ok__law_still hr mg__law_still kp__law_still bd__law_still (da_cons (de_var 3) (da_cons (de_var 8) (da_cons (de_var 4) (da_cons (de_var 5) (da_nil)))))))
  (dss_cons (ds_set 12 sc_law.nd (de_callS ok_stepL hr mg_stepL kp_stepL bd_stepL (da_cons (de_ix (de_var 7) (de_int)) (da_cons (de_var 9) (da_cons (de_ix (de_var 7) (de_int)) (da_cons (de_var 5) (da_nil)))))))
  (dss_cons (ds_if (dt_w (dw_or (dt_neN hr (de_var 9) (de_var 8)) (dw_or1 (dt_ne hr (de_var 7) (de_tup (da_cons (de_var 3) (da_cons (de_var 4) (da_nil)))))))) (dss_one (ds_ret (de_bl))) (dss_nil))
  (dss_cons (ds_if (dt_notNone (de_var 10)) (dss_cons (ds_set 13 sc_law.nd (de_callT ok_run_code hr mg_run_code kp_run_code bd_run_code (da_cons (de_ix (de_var 7) (de_int)) (da_cons (de_ix (de_var 7) (de_int)) (da_cons (de_var 5) (da_nil))))))
  (dss_one (ds_ret (de_and (de_eq hr (de_var 12) (de_var 10)) (de_and (de_isi B.h_isinstance (da_cons (de_var 13) (da_cons (de_bltn (by rfl) B.h_tuple (by decide +kernel)) (da_nil)))) (de_one (de_eq hr (de_var 13) (de_tup (da_cons (de_var 10) (da_cons (de_var 8) (da_nil))))))))))) (dss_nil))
  (dss_cons (ds_set 8 sc_law.nd (de_callT ok__law_near hr mg__law_near kp__law_near bd__law_near (da_cons (de_var 3) (da_cons (de_var 8) (da_cons (de_var 4) (da_nil))))))
  (dss_cons (ds_expr (de_append (de_ixP (de_var 9) (de_int)) (da_cons (de_int) (da_nil))))
  (dss_cons (ds_expr (de_append (de_ixP (de_var 9) (de_int)) (da_cons (de_int) (da_nil))))
  (dss_cons (ds_set 9 sc_law.nd (de_callS ok__law_copy hr mg__law_copy kp__law_copy bd__law_copy (da_cons (de_var 12) (da_nil))))
  (dss_one (ds_if (dt_not (dt_val (de_isi B.h_isinstance (da_cons (de_var 12) (da_cons (de_bltn (by rfl) B.h_tuple (by decide +kernel)) (da_nil)))))) (dss_one (ds_ret (de_bl))) (dss_nil)))))))))))))
  (dss_one (ds_ret (de_bl)))))))))))))), rp_law⟩

/-! the law's promise -/
def spLaw (K : PySem.W.Frag) : L2.Sp := fun vs H Q _ => ∃ (a : Addr) (ns : List Int), vs = [.ref a] ∧ SqL K H a (ns.map V.int) ∧ ns.length ≤ 63 ∧ ∀ H', Q (.bl true) H'
theorem spLaw_of {K : PySem.W.Frag} : ∀ vs H Q E, spLaw K vs H Q E → sps K C_law vs H Q E := by
  rintro vs H Q E ⟨a, ns, rfl, hS, hl, q⟩
  refine ⟨[], H, fun _ => none, [], [.t (.sq (ns.map T.int))], fun w m cs => w = .t (.bl true), ⟨fun _ _ e => e, (fun _ _ e => by cases e), fun _ _ _ => rfl, rfl, (fun n c e => by simp at e), (fun n k c d a e => by simp at e)⟩, .cons ?_ .nil, ⟨ns, rfl, rfl, hl, rfl⟩, fun al2 S' H' m1 cs v w R' _ _ d e => ?_⟩
  · unfold DenW Den
    exact ⟨a, ns.map V.int, rfl, hS, Dens.iff.mpr (den_ints ns)⟩
  · subst e
    unfold DenW Den at d
    subst d
    exact q H'

theorem all_mk {l : PySem.W.OpenLaw} {w : World} {K : PySem.W.Frag} {h : Heap} {mg : Str → Option Value} {fa f1 f2 f3 f4 f5 f6 f7 f8 f9 f10 f11 f12 f13 f14 f15 f16 f17 f18 f19 f20 f21 f22 f23 f24 f25 f26 f27 f28 f29 f30 f31 : Addr} (X : K.In h) (G : h.Ns mainGlobals mg) (hfa : mg "law" = some (.ref fa))
    {od1 an1 od2 an2 od3 an3 od4 an4 od5 an5 od6 an6 od7 an7 od8 an8 od9 an9 od10 an10 od11 an11 od12 an12 od13 an13 od14 an14 od15 an15 od16 an16 od17 an17 od18 an18 od19 an19 od20 an20 od21 an21 od22 an22 od23 an23 od24 an24 od25 an25 od26 an26 od27 an27 od28 an28 od29 an29 od30 an30 od31 an31 : Option Addr} {sl1 sl2 sl3 sl4 sl5 sl6 sl7 sl8 sl9 sl10 sl11 sl12 sl13 sl14 sl15 sl16 sl17 sl18 sl19 sl20 sl21 sl22 sl23 sl24 sl25 sl26 sl27 sl28 sl29 sl30 sl31 : Array (Option Value)} {oc1 kV1 dc1 pm1 cd1 ct1 oc2 kV2 dc2 pm2 cd2 ct2 oc3 kV3 dc3 pm3 cd3 ct3 oc4 kV4 dc4 pm4 cd4 ct4 oc5 kV5 dc5 pm5 cd5 ct5 oc6 kV6 dc6 pm6 cd6 ct6 oc7 kV7 dc7 pm7 cd7 ct7 oc8 kV8 dc8 pm8 cd8 ct8 oc9 kV9 dc9 pm9 cd9 ct9 oc10 kV10 dc10 pm10 cd10 ct10 oc11 kV11 dc11 pm11 cd11 ct11 oc12 kV12 dc12 pm12 cd12 ct12 oc13 kV13 dc13 pm13 cd13 ct13 oc14 kV14 dc14 pm14 cd14 ct14 oc15 kV15 dc15 pm15 cd15 ct15 oc16 kV16 dc16 pm16 cd16 ct16 oc17 kV17 dc17 pm17 cd17 ct17 oc18 kV18 dc18 pm18 cd18 ct18 oc19 kV19 dc19 pm19 cd19 ct19 oc20 kV20 dc20 pm20 cd20 ct20 oc21 kV21 dc21 pm21 cd21 ct21 oc22 kV22 dc22 pm22 cd22 ct22 oc23 kV23 dc23 pm23 cd23 ct23 oc24 kV24 dc24 pm24 cd24 ct24 oc25 kV25 dc25 pm25 cd25 ct25 oc26 kV26 dc26 pm26 cd26 ct26 oc27 kV27 dc27 pm27 cd27 ct27 oc28 kV28 dc28 pm28 cd28 ct28 oc29 kV29 dc29 pm29 cd29 ct29 oc30 kV30 dc30 pm30 cd30 ct30 oc31 kV31 dc31 pm31 cd31 ct31 : Value} {tk_MOST_IDLE : Tok}
    (a1 : PySem.W.nsIn K mainGlobals "_law_draws" = some (some (.ref f1))) (l1 : K.lookup f1 = some ⟨oc1, od1, .func (PySem.W.fnOf "_law_draws" "_law_draws" (defArgs s__law_draws) (defBody s__law_draws) (defScope s__law_draws) .none kV1 dc1 pm1 an1 cd1 ct1), sl1⟩) (c1 : PySem.W.codeIn K cd1 "_law_draws" = true) (k1 : PySem.W.keepIn K (.ref f1) = true)
    (a2 : PySem.W.nsIn K mainGlobals "_law_line" = some (some (.ref f2))) (l2 : K.lookup f2 = some ⟨oc2, od2, .func (PySem.W.fnOf "_law_line" "_law_line" (defArgs s__law_line) (defBody s__law_line) (defScope s__law_line) .none kV2 dc2 pm2 an2 cd2 ct2), sl2⟩) (c2 : PySem.W.codeIn K cd2 "_law_line" = true) (k2 : PySem.W.keepIn K (.ref f2) = true)
    (a3 : PySem.W.nsIn K mainGlobals "begun" = some (some (.ref f3))) (l3 : K.lookup f3 = some ⟨oc3, od3, .func (PySem.W.fnOf "begun" "begun" (defArgs s_begun) (defBody s_begun) (defScope s_begun) .none kV3 dc3 pm3 an3 cd3 ct3), sl3⟩) (c3 : PySem.W.codeIn K cd3 "begun" = true) (k3 : PySem.W.keepIn K (.ref f3) = true)
    (a4 : PySem.W.nsIn K mainGlobals "is_number" = some (some (.ref f4))) (l4 : K.lookup f4 = some ⟨oc4, od4, .func (PySem.W.fnOf "is_number" "is_number" (defArgs s_is_number) (defBody s_is_number) (defScope s_is_number) .none kV4 dc4 pm4 an4 cd4 ct4), sl4⟩) (c4 : PySem.W.codeIn K cd4 "is_number" = true) (k4 : PySem.W.keepIn K (.ref f4) = true)
    (a5 : PySem.W.nsIn K mainGlobals "fits" = some (some (.ref f5))) (l5 : K.lookup f5 = some ⟨oc5, od5, .func (PySem.W.fnOf "fits" "fits" (defArgs s_fits) (defBody s_fits) (defScope s_fits) .none kV5 dc5 pm5 an5 cd5 ct5), sl5⟩) (c5 : PySem.W.codeIn K cd5 "fits" = true) (k5 : PySem.W.keepIn K (.ref f5) = true)
    (a6 : PySem.W.nsIn K mainGlobals "is_done" = some (some (.ref f6))) (l6 : K.lookup f6 = some ⟨oc6, od6, .func (PySem.W.fnOf "is_done" "is_done" (defArgs s_is_done) (defBody s_is_done) (defScope s_is_done) .none kV6 dc6 pm6 an6 cd6 ct6), sl6⟩) (c6 : PySem.W.codeIn K cd6 "is_done" = true) (k6 : PySem.W.keepIn K (.ref f6) = true)
    (a7 : PySem.W.nsIn K mainGlobals "look_code" = some (some (.ref f7))) (l7 : K.lookup f7 = some ⟨oc7, od7, .func (PySem.W.fnOf "look_code" "look_code" (defArgs s_look_code) (defBody s_look_code) (defScope s_look_code) .none kV7 dc7 pm7 an7 cd7 ct7), sl7⟩) (c7 : PySem.W.codeIn K cd7 "look_code" = true) (k7 : PySem.W.keepIn K (.ref f7) = true)
    (a8 : PySem.W.nsIn K mainGlobals "look_answers" = some (some (.ref f8))) (l8 : K.lookup f8 = some ⟨oc8, od8, .func (PySem.W.fnOf "look_answers" "look_answers" (defArgs s_look_answers) (defBody s_look_answers) (defScope s_look_answers) .none kV8 dc8 pm8 an8 cd8 ct8), sl8⟩) (c8 : PySem.W.codeIn K cd8 "look_answers" = true) (k8 : PySem.W.keepIn K (.ref f8) = true)
    (a9 : PySem.W.nsIn K mainGlobals "step" = some (some (.ref f9))) (l9 : K.lookup f9 = some ⟨oc9, od9, .func (PySem.W.fnOf "step" "step" (defArgs s_step) (defBody s_step) (defScope s_step) .none kV9 dc9 pm9 an9 cd9 ct9), sl9⟩) (c9 : PySem.W.codeIn K cd9 "step" = true) (k9 : PySem.W.keepIn K (.ref f9) = true)
    (a10 : PySem.W.nsIn K mainGlobals "run_code" = some (some (.ref f10))) (l10 : K.lookup f10 = some ⟨oc10, od10, .func (PySem.W.fnOf "run_code" "run_code" (defArgs s_run_code) (defBody s_run_code) (defScope s_run_code) .none kV10 dc10 pm10 an10 cd10 ct10), sl10⟩) (c10 : PySem.W.codeIn K cd10 "run_code" = true) (k10 : PySem.W.keepIn K (.ref f10) = true)
    (a11 : PySem.W.nsIn K mainGlobals "_law_refused" = some (some (.ref f11))) (l11 : K.lookup f11 = some ⟨oc11, od11, .func (PySem.W.fnOf "_law_refused" "_law_refused" (defArgs s__law_refused) (defBody s__law_refused) (defScope s__law_refused) .none kV11 dc11 pm11 an11 cd11 ct11), sl11⟩) (c11 : PySem.W.codeIn K cd11 "_law_refused" = true) (k11 : PySem.W.keepIn K (.ref f11) = true)
    (a12 : PySem.W.nsIn K mainGlobals "stands" = some (some (.ref f12))) (l12 : K.lookup f12 = some ⟨oc12, od12, .func (PySem.W.fnOf "stands" "stands" (defArgs s_stands) (defBody s_stands) (defScope s_stands) .none kV12 dc12 pm12 an12 cd12 ct12), sl12⟩) (c12 : PySem.W.codeIn K cd12 "stands" = true) (k12 : PySem.W.keepIn K (.ref f12) = true)
    (a13 : PySem.W.nsIn K mainGlobals "gone_through" = some (some (.ref f13))) (l13 : K.lookup f13 = some ⟨oc13, od13, .func (PySem.W.fnOf "gone_through" "gone_through" (defArgs s_gone_through) (defBody s_gone_through) (defScope s_gone_through) .none kV13 dc13 pm13 an13 cd13 ct13), sl13⟩) (c13 : PySem.W.codeIn K cd13 "gone_through" = true) (k13 : PySem.W.keepIn K (.ref f13) = true)
    (a14 : PySem.W.nsIn K mainGlobals "row_done" = some (some (.ref f14))) (l14 : K.lookup f14 = some ⟨oc14, od14, .func (PySem.W.fnOf "row_done" "row_done" (defArgs s_row_done) (defBody s_row_done) (defScope s_row_done) .none kV14 dc14 pm14 an14 cd14 ct14), sl14⟩) (c14 : PySem.W.codeIn K cd14 "row_done" = true) (k14 : PySem.W.keepIn K (.ref f14) = true)
    (a15 : PySem.W.nsIn K mainGlobals "one_more" = some (some (.ref f15))) (l15 : K.lookup f15 = some ⟨oc15, od15, .func (PySem.W.fnOf "one_more" "one_more" (defArgs s_one_more) (defBody s_one_more) (defScope s_one_more) .none kV15 dc15 pm15 an15 cd15 ct15), sl15⟩) (c15 : PySem.W.codeIn K cd15 "one_more" = true) (k15 : PySem.W.keepIn K (.ref f15) = true)
    (a16 : PySem.W.nsIn K mainGlobals "other_done" = some (some (.ref f16))) (l16 : K.lookup f16 = some ⟨oc16, od16, .func (PySem.W.fnOf "other_done" "other_done" (defArgs s_other_done) (defBody s_other_done) (defScope s_other_done) .none kV16 dc16 pm16 an16 cd16 ct16), sl16⟩) (c16 : PySem.W.codeIn K cd16 "other_done" = true) (k16 : PySem.W.keepIn K (.ref f16) = true)
    (a17 : PySem.W.nsIn K mainGlobals "stepped" = some (some (.ref f17))) (l17 : K.lookup f17 = some ⟨oc17, od17, .func (PySem.W.fnOf "stepped" "stepped" (defArgs s_stepped) (defBody s_stepped) (defScope s_stepped) .none kV17 dc17 pm17 an17 cd17 ct17), sl17⟩) (c17 : PySem.W.codeIn K cd17 "stepped" = true) (k17 : PySem.W.keepIn K (.ref f17) = true)
    (a18 : PySem.W.nsIn K mainGlobals "_law_idle" = some (some (.ref f18))) (l18 : K.lookup f18 = some ⟨oc18, od18, .func (PySem.W.fnOf "_law_idle" "_law_idle" (defArgs s__law_idle) (defBody s__law_idle) (defScope s__law_idle) .none kV18 dc18 pm18 an18 cd18 ct18), sl18⟩) (c18 : PySem.W.codeIn K cd18 "_law_idle" = true) (k18 : PySem.W.keepIn K (.ref f18) = true)
    (a19 : PySem.W.nsIn K mainGlobals "begun" = some (some (.ref f19))) (l19 : K.lookup f19 = some ⟨oc19, od19, .func (PySem.W.fnOf "begun" "begun" (defArgs s_begunL) (defBody s_begunL) (defScope s_begunL) .none kV19 dc19 pm19 an19 cd19 ct19), sl19⟩) (c19 : PySem.W.codeIn K cd19 "begun" = true) (k19 : PySem.W.keepIn K (.ref f19) = true)
    (a20 : PySem.W.nsIn K mainGlobals "_law_whole" = some (some (.ref f20))) (l20 : K.lookup f20 = some ⟨oc20, od20, .func (PySem.W.fnOf "_law_whole" "_law_whole" (defArgs s__law_whole) (defBody s__law_whole) (defScope s__law_whole) .none kV20 dc20 pm20 an20 cd20 ct20), sl20⟩) (c20 : PySem.W.codeIn K cd20 "_law_whole" = true) (k20 : PySem.W.keepIn K (.ref f20) = true)
    (a21 : PySem.W.nsIn K mainGlobals "_law_whole_state" = some (some (.ref f21))) (l21 : K.lookup f21 = some ⟨oc21, od21, .func (PySem.W.fnOf "_law_whole_state" "_law_whole_state" (defArgs s__law_whole_state) (defBody s__law_whole_state) (defScope s__law_whole_state) .none kV21 dc21 pm21 an21 cd21 ct21), sl21⟩) (c21 : PySem.W.codeIn K cd21 "_law_whole_state" = true) (k21 : PySem.W.keepIn K (.ref f21) = true)
    (a22 : PySem.W.nsIn K mainGlobals "_law_still" = some (some (.ref f22))) (l22 : K.lookup f22 = some ⟨oc22, od22, .func (PySem.W.fnOf "_law_still" "_law_still" (defArgs s__law_still) (defBody s__law_still) (defScope s__law_still) .none kV22 dc22 pm22 an22 cd22 ct22), sl22⟩) (c22 : PySem.W.codeIn K cd22 "_law_still" = true) (k22 : PySem.W.keepIn K (.ref f22) = true)
    (a23 : PySem.W.nsIn K mainGlobals "gone_through" = some (some (.ref f23))) (l23 : K.lookup f23 = some ⟨oc23, od23, .func (PySem.W.fnOf "gone_through" "gone_through" (defArgs s_gone_throughL) (defBody s_gone_throughL) (defScope s_gone_throughL) .none kV23 dc23 pm23 an23 cd23 ct23), sl23⟩) (c23 : PySem.W.codeIn K cd23 "gone_through" = true) (k23 : PySem.W.keepIn K (.ref f23) = true)
    (a24 : PySem.W.nsIn K mainGlobals "row_done" = some (some (.ref f24))) (l24 : K.lookup f24 = some ⟨oc24, od24, .func (PySem.W.fnOf "row_done" "row_done" (defArgs s_row_doneL) (defBody s_row_doneL) (defScope s_row_doneL) .none kV24 dc24 pm24 an24 cd24 ct24), sl24⟩) (c24 : PySem.W.codeIn K cd24 "row_done" = true) (k24 : PySem.W.keepIn K (.ref f24) = true)
    (a25 : PySem.W.nsIn K mainGlobals "other_done" = some (some (.ref f25))) (l25 : K.lookup f25 = some ⟨oc25, od25, .func (PySem.W.fnOf "other_done" "other_done" (defArgs s_other_doneL) (defBody s_other_doneL) (defScope s_other_doneL) .none kV25 dc25 pm25 an25 cd25 ct25), sl25⟩) (c25 : PySem.W.codeIn K cd25 "other_done" = true) (k25 : PySem.W.keepIn K (.ref f25) = true)
    (a26 : PySem.W.nsIn K mainGlobals "stepped" = some (some (.ref f26))) (l26 : K.lookup f26 = some ⟨oc26, od26, .func (PySem.W.fnOf "stepped" "stepped" (defArgs s_steppedL) (defBody s_steppedL) (defScope s_steppedL) .none kV26 dc26 pm26 an26 cd26 ct26), sl26⟩) (c26 : PySem.W.codeIn K cd26 "stepped" = true) (k26 : PySem.W.keepIn K (.ref f26) = true)
    (a27 : PySem.W.nsIn K mainGlobals "step" = some (some (.ref f27))) (l27 : K.lookup f27 = some ⟨oc27, od27, .func (PySem.W.fnOf "step" "step" (defArgs s_stepL) (defBody s_stepL) (defScope s_stepL) .none kV27 dc27 pm27 an27 cd27 ct27), sl27⟩) (c27 : PySem.W.codeIn K cd27 "step" = true) (k27 : PySem.W.keepIn K (.ref f27) = true)
    (a28 : PySem.W.nsIn K mainGlobals "_law_box" = some (some (.ref f28))) (l28 : K.lookup f28 = some ⟨oc28, od28, .func (PySem.W.fnOf "_law_box" "_law_box" (defArgs s__law_box) (defBody s__law_box) (defScope s__law_box) .none kV28 dc28 pm28 an28 cd28 ct28), sl28⟩) (c28 : PySem.W.codeIn K cd28 "_law_box" = true) (k28 : PySem.W.keepIn K (.ref f28) = true)
    (a29 : PySem.W.nsIn K mainGlobals "_law_near" = some (some (.ref f29))) (l29 : K.lookup f29 = some ⟨oc29, od29, .func (PySem.W.fnOf "_law_near" "_law_near" (defArgs s__law_near) (defBody s__law_near) (defScope s__law_near) .none kV29 dc29 pm29 an29 cd29 ct29), sl29⟩) (c29 : PySem.W.codeIn K cd29 "_law_near" = true) (k29 : PySem.W.keepIn K (.ref f29) = true)
    (a30 : PySem.W.nsIn K mainGlobals "_law_copy" = some (some (.ref f30))) (l30 : K.lookup f30 = some ⟨oc30, od30, .func (PySem.W.fnOf "_law_copy" "_law_copy" (defArgs s__law_copy) (defBody s__law_copy) (defScope s__law_copy) .none kV30 dc30 pm30 an30 cd30 ct30), sl30⟩) (c30 : PySem.W.codeIn K cd30 "_law_copy" = true) (k30 : PySem.W.keepIn K (.ref f30) = true)
    (a31 : PySem.W.nsIn K mainGlobals "law" = some (some (.ref f31))) (l31 : K.lookup f31 = some ⟨oc31, od31, .func (PySem.W.fnOf "law" "law" (defArgs s_law) (defBody s_law) (defScope s_law) .none kV31 dc31 pm31 an31 cd31 ct31), sl31⟩) (c31 : PySem.W.codeIn K cd31 "law" = true) (k31 : PySem.W.keepIn K (.ref f31) = true)
    (z_len : PySem.W.nsIn K mainGlobals "len" = some none)
    (z_range : PySem.W.nsIn K mainGlobals "range" = some none)
    (z_sum : PySem.W.nsIn K mainGlobals "sum" = some none)
    (z_min : PySem.W.nsIn K mainGlobals "min" = some none)
    (z_max : PySem.W.nsIn K mainGlobals "max" = some none)
    (z_all : PySem.W.nsIn K mainGlobals "all" = some none)
    (z_any : PySem.W.nsIn K mainGlobals "any" = some none)
    (z_abs : PySem.W.nsIn K mainGlobals "abs" = some none)
    (z_isinstance : PySem.W.nsIn K mainGlobals "isinstance" = some none)
    (z_int : PySem.W.nsIn K mainGlobals "int" = some none)
    (z_bool : PySem.W.nsIn K mainGlobals "bool" = some none)
    (z_list : PySem.W.nsIn K mainGlobals "list" = some none)
    (z_tuple : PySem.W.nsIn K mainGlobals "tuple" = some none)
    (z_str : PySem.W.nsIn K mainGlobals "str" = some none)
    (z_dict : PySem.W.nsIn K mainGlobals "dict" = some none)
    (z_sorted : PySem.W.nsIn K mainGlobals "sorted" = some none)
    (z_zip : PySem.W.nsIn K mainGlobals "zip" = some none)
    (z_enumerate : PySem.W.nsIn K mainGlobals "enumerate" = some none)
    (z_set : PySem.W.nsIn K mainGlobals "set" = some none)
    {d_SHAPES : Addr} {n_SHAPES : Nat} {e0_SHAPES : Int} {e1_SHAPES : Int} {e2_SHAPES : Int} {e3_SHAPES : Int} {e4_SHAPES : Int} {e5_SHAPES : Int} {e6_SHAPES : Int} {e7_SHAPES : Int} {t0_SHAPES u0_SHAPES : Tok} {t1_SHAPES u1_SHAPES : Tok} {t2_SHAPES u2_SHAPES : Tok} {t3_SHAPES u3_SHAPES : Tok} {t4_SHAPES u4_SHAPES : Tok} {t5_SHAPES u5_SHAPES : Tok} {t6_SHAPES u6_SHAPES : Tok} {t7_SHAPES u7_SHAPES : Tok}
    {c_CountError c_NoAnswer c_NoCode : Addr}
    (b_CountError : PySem.W.nsIn K mainGlobals "CountError" = some (some (.ref c_CountError)))
    (b_NoAnswer : PySem.W.nsIn K mainGlobals "NoAnswer" = some (some (.ref c_NoAnswer)))
    (b_NoCode : PySem.W.nsIn K mainGlobals "NoCode" = some (some (.ref c_NoCode)))
    (h0_NoAnswer : PySem.W.keepIn K (.ref c_NoAnswer) = true)
    (h1_NoAnswer : PySem.W.subIn K (.ref c_NoAnswer) (.type "BaseException") = some true)
    (h2_NoAnswer : PySem.W.typeIn K (.ref c_NoAnswer) = some (.type "type"))
    (h3_NoAnswer : PySem.W.excIn K c_NoAnswer [.type "ValueError", .type "Exception", .type "BaseException", .type "object"] "ValueError.__new__" = true)
    (h4_NoAnswer : PySem.W.findIn K (.ref c_NoAnswer) "__getattribute__" = some (some (.builtin "BaseException.__getattribute__")))
    (h5_NoAnswer : PySem.W.findIn K (.ref c_NoAnswer) "__getattr__" = some none)
    (h6_NoAnswer : PySem.W.hasDictIn K c_NoAnswer = true)
    (h7_NoAnswer : PySem.W.findIn K (.ref c_NoAnswer) "__class__" = some (some (.builtin "object.__class__")))
    (h8_NoAnswer : PySem.W.mroIn K c_NoAnswer (.type "object") = some true)
    (h9_NoAnswer : PySem.W.subIn K (.ref c_NoAnswer) (.type "ValueError") = some true)
    (h10_NoAnswer : PySem.W.subIn K (.ref c_NoAnswer) (.ref c_CountError) = some true)
    (n_NoAnswer_NoCode : c_NoAnswer ≠ c_NoCode)
    (q_NoAnswer_NoCode : PySem.W.subIn K (.ref c_NoAnswer) (.ref c_NoCode) = some false)
    (i_CountError : PySem.W.isClsIn K c_CountError = true)
    (j_CountError : PySem.W.typeIn K (.ref c_CountError) = some (.type "type"))
    (i_NoAnswer : PySem.W.isClsIn K c_NoAnswer = true)
    (j_NoAnswer : PySem.W.typeIn K (.ref c_NoAnswer) = some (.type "type"))
    (i_NoCode : PySem.W.isClsIn K c_NoCode = true)
    (j_NoCode : PySem.W.typeIn K (.ref c_NoCode) = some (.type "type"))
    (y3 : PySem.W.subIn K (.ref c_CountError) (.type "BaseException") = some true)
    (y4 : PySem.W.hasDictIn K c_CountError = true)
    (y1 : PySem.W.specialIn K (.builtin "object.__class__") "__get__" = some (some (.builtin "getset_descriptor.__get__")))
    (y2 : PySem.W.takesIn K (.builtin "object.__class__") = some true)
    (z_ValueError : PySem.W.nsIn K mainGlobals "ValueError" = some none)
    (da_SHAPES : PySem.W.nsIn K mainGlobals "SHAPES" = some (some (.ref d_SHAPES)))
    (dl_SHAPES : K.lookup d_SHAPES = some ⟨.type "dict", none, .dict #[⟨e0_SHAPES, .str "row" t0_SHAPES, .str "n" u0_SHAPES⟩, ⟨e1_SHAPES, .str "ask" t1_SHAPES, .str "nnt" u1_SHAPES⟩, ⟨e2_SHAPES, .str "jump" t2_SHAPES, .str "t" u2_SHAPES⟩, ⟨e3_SHAPES, .str "call" t3_SHAPES, .str "ntz" u3_SHAPES⟩, ⟨e4_SHAPES, .str "back" t4_SHAPES, .str "" u4_SHAPES⟩, ⟨e5_SHAPES, .str "count" t5_SHAPES, .str "n" u5_SHAPES⟩, ⟨e6_SHAPES, .str "add" t6_SHAPES, .str "z" u6_SHAPES⟩, ⟨e7_SHAPES, .str "tell" t7_SHAPES, .str "nz" u7_SHAPES⟩] n_SHAPES, #[]⟩)
    (de0_SHAPES : e0_SHAPES = PyData.keyHash w.params "row")
    (de1_SHAPES : e1_SHAPES = PyData.keyHash w.params "ask")
    (de2_SHAPES : e2_SHAPES = PyData.keyHash w.params "jump")
    (de3_SHAPES : e3_SHAPES = PyData.keyHash w.params "call")
    (de4_SHAPES : e4_SHAPES = PyData.keyHash w.params "back")
    (de5_SHAPES : e5_SHAPES = PyData.keyHash w.params "count")
    (de6_SHAPES : e6_SHAPES = PyData.keyHash w.params "add")
    (de7_SHAPES : e7_SHAPES = PyData.keyHash w.params "tell")
    (dw_SHAPES : (d_SHAPES == sysModules) = false)
    (t_MOST_IDLE : PySem.W.nsIn K mainGlobals "MOST_IDLE" = some (some (.int 1000 tk_MOST_IDLE)))
    : ∃ fd : FuncData, (∀ (s : Shared) (v : Value), BindsTo s fd ⟨[v], []⟩ [("_law_script", v)]) ∧ ∀ base : Heap, K.In base → base.Ns mainGlobals mg → FnOk l.prog w K mg base CX0 7 fa fd ["_law_script"] (spLaw K) := by
  have e := hfa.symm.trans (PySem.W.mg_of X G a31)
  cases e
  refine ⟨PySem.W.fnOf "law" "law" (defArgs s_law) (defBody s_law) (defScope s_law) .none kV31 dc31 pm31 an31 cd31 ct31, fun s v => .of_eq rfl, fun base _ _ => ?_⟩
  have B : Bi mg := ⟨PySem.W.mg_none_of X G z_len, PySem.W.mg_none_of X G z_range, PySem.W.mg_none_of X G z_sum, PySem.W.mg_none_of X G z_min, PySem.W.mg_none_of X G z_max, PySem.W.mg_none_of X G z_all, PySem.W.mg_none_of X G z_any, PySem.W.mg_none_of X G z_abs, PySem.W.mg_none_of X G z_isinstance, PySem.W.mg_none_of X G z_int, PySem.W.mg_none_of X G z_bool, PySem.W.mg_none_of X G z_list, PySem.W.mg_none_of X G z_tuple, PySem.W.mg_none_of X G z_str, PySem.W.mg_none_of X G z_dict, PySem.W.mg_none_of X G z_sorted, PySem.W.mg_none_of X G z_zip, PySem.W.mg_none_of X G z_enumerate⟩
  have M : Mi mg := ⟨PySem.W.mg_none_of X G z_set, ⟨_, PySem.W.mg_of X G t_MOST_IDLE⟩⟩
  have XH : XFY K mg RL ML NL := ⟨⟨(List.forall_mem_cons.mpr ⟨fun C hC => (only b_NoAnswer hC) ▸ (⟨h4_NoAnswer, h5_NoAnswer, h1_NoAnswer, h6_NoAnswer, h7_NoAnswer, y1, y2, h8_NoAnswer⟩ : ExcC K c_NoAnswer), (List.forall_mem_nil _)⟩),
    (List.forall_mem_cons.mpr ⟨⟨c_NoAnswer, PySem.W.mg_of X G b_NoAnswer, (List.forall_mem_cons.mpr ⟨fun C hC => (only b_NoAnswer hC) ▸ (kit_self.trans (congrArg some (show true = subX "NoAnswer" "NoAnswer" by decide +kernel))), (List.forall_mem_nil _)⟩)⟩, (List.forall_mem_cons.mpr ⟨⟨c_NoCode, PySem.W.mg_of X G b_NoCode, (List.forall_mem_cons.mpr ⟨fun C hC => (only b_NoAnswer hC) ▸ ((kit_own n_NoAnswer_NoCode i_NoCode j_NoCode q_NoAnswer_NoCode).trans (congrArg some (show false = subX "NoAnswer" "NoCode" by decide +kernel))), (List.forall_mem_nil _)⟩)⟩, (List.forall_mem_nil _)⟩)⟩),
    ⟨PySem.W.mg_none_of X G z_ValueError, (List.forall_mem_cons.mpr ⟨fun C hC => (only b_NoAnswer hC) ▸ (kit_val h9_NoAnswer), (List.forall_mem_nil _)⟩)⟩,
    ⟨c_CountError, PySem.W.mg_of X G b_CountError, (List.forall_mem_cons.mpr ⟨fun C hC => (only b_NoAnswer hC) ▸ (PySem.W.exm_ref y3 y4 j_CountError h10_NoAnswer), (List.forall_mem_nil _)⟩)⟩⟩,
    (List.forall_mem_cons.mpr ⟨⟨c_NoAnswer, ⟨b_NoAnswer, PySem.W.mg_of X G b_NoAnswer, h0_NoAnswer, h1_NoAnswer, h2_NoAnswer⟩, h3_NoAnswer⟩, (List.forall_mem_nil _)⟩)⟩
  have MD_SHAPES : MDict K w mg "SHAPES" tbl_SHAPES := mdict_of (PySem.W.mg_of X G da_SHAPES) ⟨dl_SHAPES, ⟨⟨_, _, rfl, de0_SHAPES⟩, ⟨⟨_, _, rfl, de1_SHAPES⟩, ⟨⟨_, _, rfl, de2_SHAPES⟩, ⟨⟨_, _, rfl, de3_SHAPES⟩, ⟨⟨_, _, rfl, de4_SHAPES⟩, ⟨⟨_, _, rfl, de5_SHAPES⟩, ⟨⟨_, _, rfl, de6_SHAPES⟩, ⟨⟨_, _, rfl, de7_SHAPES⟩, trivial⟩⟩⟩⟩⟩⟩⟩⟩, dw_SHAPES⟩ (show Tbl _ _ from (.cons rfl rfl (.cons rfl rfl (.cons rfl rfl (.cons rfl rfl (.cons rfl rfl (.cons rfl rfl (.cons rfl rfl (.cons rfl rfl .nil)))))))))
  have O1 : Ow K mg "_law_draws" s__law_draws ["_law_script", "_law_many"] := ⟨_, _, fun_mk (st := s__law_draws) l1 c1 k1, PySem.W.mg_of X G a1, (fun_mk (st := s__law_draws) l1 c1 k1).binds (ps := ["_law_script", "_law_many"]) fun _ _ _ _ _ _ us hl => match us, hl with | [_, _], _ => rfl⟩
  have O2 : Ow K mg "_law_line" s__law_line ["_law_number", "_law_many"] := ⟨_, _, fun_mk (st := s__law_line) l2 c2 k2, PySem.W.mg_of X G a2, (fun_mk (st := s__law_line) l2 c2 k2).binds (ps := ["_law_number", "_law_many"]) fun _ _ _ _ _ _ us hl => match us, hl with | [_, _], _ => rfl⟩
  have O3 : Ow K mg "begun" s_begun [] := ⟨_, _, fun_mk (st := s_begun) l3 c3 k3, PySem.W.mg_of X G a3, (fun_mk (st := s_begun) l3 c3 k3).binds (ps := []) fun _ _ _ _ _ _ us hl => match us, hl with | [], _ => rfl⟩
  have O4 : Ow K mg "is_number" s_is_number ["thing"] := ⟨_, _, fun_mk (st := s_is_number) l4 c4 k4, PySem.W.mg_of X G a4, (fun_mk (st := s_is_number) l4 c4 k4).binds (ps := ["thing"]) fun _ _ _ _ _ _ us hl => match us, hl with | [_], _ => rfl⟩
  have O5 : Ow K mg "fits" s_fits ["thing", "mark", "many"] := ⟨_, _, fun_mk (st := s_fits) l5 c5 k5, PySem.W.mg_of X G a5, (fun_mk (st := s_fits) l5 c5 k5).binds (ps := ["thing", "mark", "many"]) fun _ _ _ _ _ _ us hl => match us, hl with | [_, _, _], _ => rfl⟩
  have O6 : Ow K mg "is_done" s_is_done ["line", "many"] := ⟨_, _, fun_mk (st := s_is_done) l6 c6 k6, PySem.W.mg_of X G a6, (fun_mk (st := s_is_done) l6 c6 k6).binds (ps := ["line", "many"]) fun _ _ _ _ _ _ us hl => match us, hl with | [_, _], _ => rfl⟩
  have O7 : Ow K mg "look_code" s_look_code ["code"] := ⟨_, _, fun_mk (st := s_look_code) l7 c7 k7, PySem.W.mg_of X G a7, (fun_mk (st := s_look_code) l7 c7 k7).binds (ps := ["code"]) fun _ _ _ _ _ _ us hl => match us, hl with | [_], _ => rfl⟩
  have O8 : Ow K mg "look_answers" s_look_answers ["answers", "bound"] := ⟨_, _, fun_mk (st := s_look_answers) l8 c8 k8, PySem.W.mg_of X G a8, (fun_mk (st := s_look_answers) l8 c8 k8).binds (ps := ["answers", "bound"]) fun _ _ _ _ _ _ us hl => match us, hl with | [_, _], _ => rfl⟩
  have O9 : Ow K mg "step" s_step ["code", "state", "answers", "bound"] := ⟨_, _, fun_mk (st := s_step) l9 c9 k9, PySem.W.mg_of X G a9, (fun_mk (st := s_step) l9 c9 k9).binds (ps := ["code", "state", "answers", "bound"]) fun _ _ _ _ _ _ us hl => match us, hl with | [_, _, _, _], _ => rfl⟩
  have O10 : Ow K mg "run_code" s_run_code ["code", "answers", "bound"] := ⟨_, _, fun_mk (st := s_run_code) l10 c10 k10, PySem.W.mg_of X G a10, (fun_mk (st := s_run_code) l10 c10 k10).binds (ps := ["code", "answers", "bound"]) fun _ _ _ _ _ _ us hl => match us, hl with | [_, _, _], _ => rfl⟩
  have O11 : Ow K mg "_law_refused" s__law_refused ["_law_way", "_law_code", "_law_answers", "_law_bound"] := ⟨_, _, fun_mk (st := s__law_refused) l11 c11 k11, PySem.W.mg_of X G a11, (fun_mk (st := s__law_refused) l11 c11 k11).binds (ps := ["_law_way", "_law_code", "_law_answers", "_law_bound"]) fun _ _ _ _ _ _ us hl => match us, hl with | [_, _, _, _], _ => rfl⟩
  have O12 : Ow K mg "stands" s_stands ["code", "state", "answers", "bound"] := ⟨_, _, fun_mk (st := s_stands) l12 c12 k12, PySem.W.mg_of X G a12, (fun_mk (st := s_stands) l12 c12 k12).binds (ps := ["code", "state", "answers", "bound"]) fun _ _ _ _ _ _ us hl => match us, hl with | [_, _, _, _], _ => rfl⟩
  have O13 : Ow K mg "gone_through" s_gone_through ["state", "row", "at", "frames", "chain", "asked"] := ⟨_, _, fun_mk (st := s_gone_through) l13 c13 k13, PySem.W.mg_of X G a13, (fun_mk (st := s_gone_through) l13 c13 k13).binds (ps := ["state", "row", "at", "frames", "chain", "asked"]) fun _ _ _ _ _ _ us hl => match us, hl with | [_, _, _, _, _, _], _ => rfl⟩
  have O14 : Ow K mg "row_done" s_row_done ["code", "state", "answers"] := ⟨_, _, fun_mk (st := s_row_done) l14 c14 k14, PySem.W.mg_of X G a14, (fun_mk (st := s_row_done) l14 c14 k14).binds (ps := ["code", "state", "answers"]) fun _ _ _ _ _ _ us hl => match us, hl with | [_, _, _], _ => rfl⟩
  have O15 : Ow K mg "one_more" s_one_more ["boxes", "box"] := ⟨_, _, fun_mk (st := s_one_more) l15 c15 k15, PySem.W.mg_of X G a15, (fun_mk (st := s_one_more) l15 c15 k15).binds (ps := ["boxes", "box"]) fun _ _ _ _ _ _ us hl => match us, hl with | [_, _], _ => rfl⟩
  have O16 : Ow K mg "other_done" s_other_done ["code", "state"] := ⟨_, _, fun_mk (st := s_other_done) l16 c16 k16, PySem.W.mg_of X G a16, (fun_mk (st := s_other_done) l16 c16 k16).binds (ps := ["code", "state"]) fun _ _ _ _ _ _ us hl => match us, hl with | [_, _], _ => rfl⟩
  have O17 : Ow K mg "stepped" s_stepped ["code", "state", "answers", "bound"] := ⟨_, _, fun_mk (st := s_stepped) l17 c17 k17, PySem.W.mg_of X G a17, (fun_mk (st := s_stepped) l17 c17 k17).binds (ps := ["code", "state", "answers", "bound"]) fun _ _ _ _ _ _ us hl => match us, hl with | [_, _, _, _], _ => rfl⟩
  have O18 : Ow K mg "_law_idle" s__law_idle ["_law_number"] := ⟨_, _, fun_mk (st := s__law_idle) l18 c18 k18, PySem.W.mg_of X G a18, (fun_mk (st := s__law_idle) l18 c18 k18).binds (ps := ["_law_number"]) fun _ _ _ _ _ _ us hl => match us, hl with | [_], _ => rfl⟩
  have O19 : Ow K mg "begun" s_begunL [] := ⟨_, _, fun_mk (st := s_begunL) l19 c19 k19, PySem.W.mg_of X G a19, (fun_mk (st := s_begunL) l19 c19 k19).binds (ps := []) fun _ _ _ _ _ _ us hl => match us, hl with | [], _ => rfl⟩
  have O20 : Ow K mg "_law_whole" s__law_whole ["_law_found"] := ⟨_, _, fun_mk (st := s__law_whole) l20 c20 k20, PySem.W.mg_of X G a20, (fun_mk (st := s__law_whole) l20 c20 k20).binds (ps := ["_law_found"]) fun _ _ _ _ _ _ us hl => match us, hl with | [_], _ => rfl⟩
  have O21 : Ow K mg "_law_whole_state" s__law_whole_state ["_law_state"] := ⟨_, _, fun_mk (st := s__law_whole_state) l21 c21 k21, PySem.W.mg_of X G a21, (fun_mk (st := s__law_whole_state) l21 c21 k21).binds (ps := ["_law_state"]) fun _ _ _ _ _ _ us hl => match us, hl with | [_], _ => rfl⟩
  have O22 : Ow K mg "_law_still" s__law_still ["_law_code", "_law_state", "_law_answers", "_law_bound"] := ⟨_, _, fun_mk (st := s__law_still) l22 c22 k22, PySem.W.mg_of X G a22, (fun_mk (st := s__law_still) l22 c22 k22).binds (ps := ["_law_code", "_law_state", "_law_answers", "_law_bound"]) fun _ _ _ _ _ _ us hl => match us, hl with | [_, _, _, _], _ => rfl⟩
  have O23 : Ow K mg "gone_through" s_gone_throughL ["state", "row", "at", "frames", "chain", "asked"] := ⟨_, _, fun_mk (st := s_gone_throughL) l23 c23 k23, PySem.W.mg_of X G a23, (fun_mk (st := s_gone_throughL) l23 c23 k23).binds (ps := ["state", "row", "at", "frames", "chain", "asked"]) fun _ _ _ _ _ _ us hl => match us, hl with | [_, _, _, _, _, _], _ => rfl⟩
  have O24 : Ow K mg "row_done" s_row_doneL ["code", "state", "answers"] := ⟨_, _, fun_mk (st := s_row_doneL) l24 c24 k24, PySem.W.mg_of X G a24, (fun_mk (st := s_row_doneL) l24 c24 k24).binds (ps := ["code", "state", "answers"]) fun _ _ _ _ _ _ us hl => match us, hl with | [_, _, _], _ => rfl⟩
  have O25 : Ow K mg "other_done" s_other_doneL ["code", "state"] := ⟨_, _, fun_mk (st := s_other_doneL) l25 c25 k25, PySem.W.mg_of X G a25, (fun_mk (st := s_other_doneL) l25 c25 k25).binds (ps := ["code", "state"]) fun _ _ _ _ _ _ us hl => match us, hl with | [_, _], _ => rfl⟩
  have O26 : Ow K mg "stepped" s_steppedL ["code", "state", "answers", "bound"] := ⟨_, _, fun_mk (st := s_steppedL) l26 c26 k26, PySem.W.mg_of X G a26, (fun_mk (st := s_steppedL) l26 c26 k26).binds (ps := ["code", "state", "answers", "bound"]) fun _ _ _ _ _ _ us hl => match us, hl with | [_, _, _, _], _ => rfl⟩
  have O27 : Ow K mg "step" s_stepL ["code", "state", "answers", "bound"] := ⟨_, _, fun_mk (st := s_stepL) l27 c27 k27, PySem.W.mg_of X G a27, (fun_mk (st := s_stepL) l27 c27 k27).binds (ps := ["code", "state", "answers", "bound"]) fun _ _ _ _ _ _ us hl => match us, hl with | [_, _, _, _], _ => rfl⟩
  have O28 : Ow K mg "_law_box" s__law_box ["_law_boxes", "_law_box_here"] := ⟨_, _, fun_mk (st := s__law_box) l28 c28 k28, PySem.W.mg_of X G a28, (fun_mk (st := s__law_box) l28 c28 k28).binds (ps := ["_law_boxes", "_law_box_here"]) fun _ _ _ _ _ _ us hl => match us, hl with | [_, _], _ => rfl⟩
  have O29 : Ow K mg "_law_near" s__law_near ["_law_code", "_law_state", "_law_answers"] := ⟨_, _, fun_mk (st := s__law_near) l29 c29 k29, PySem.W.mg_of X G a29, (fun_mk (st := s__law_near) l29 c29 k29).binds (ps := ["_law_code", "_law_state", "_law_answers"]) fun _ _ _ _ _ _ us hl => match us, hl with | [_, _, _], _ => rfl⟩
  have O30 : Ow K mg "_law_copy" s__law_copy ["_law_state"] := ⟨_, _, fun_mk (st := s__law_copy) l30 c30 k30, PySem.W.mg_of X G a30, (fun_mk (st := s__law_copy) l30 c30 k30).binds (ps := ["_law_state"]) fun _ _ _ _ _ _ us hl => match us, hl with | [_], _ => rfl⟩
  have K1 := kn__law_draws (P := l.prog) (w := w) (base := base) (k := 0) B M O1
  have K2 := kn__law_line (P := l.prog) (w := w) (base := base) (k := 0) B M O2
  have K3 := kn_begun (P := l.prog) (w := w) (base := base) (k := 0) B M O3
  have K4 := kn_is_number (P := l.prog) (w := w) (base := base) (k := 0) B M O4
  have K5 := kn_fits (P := l.prog) (w := w) (base := base) (k := 1) B M O5 (K4.mono (by decide))
  have K6 := kn_is_done (P := l.prog) (w := w) (base := base) (k := 2) B M O6 (K5.mono (by decide)) MD_SHAPES
  have K7 := kn_look_code (P := l.prog) (w := w) (base := base) (k := 3) B M O7 (K6.mono (by decide))
  have KX8 := kx_look_answers (P := l.prog) (w := w) (base := base) (k := 0) B M XH O8
  have KX9 := kx_step (P := l.prog) (w := w) (base := base) (k := 4) B M XH O9 (K7.mono (by decide)) (KX8.mono (by decide))
  have KX10 := kx_run_code (P := l.prog) (w := w) (base := base) (k := 4) B M XH O10 (K7.mono (by decide)) (KX8.mono (by decide))
  have K11 := kn__law_refused (P := l.prog) (w := w) (base := base) (k := 5) B M XH O11 (K3.mono (by decide)) (KX9.mono (by decide)) (KX10.mono (by decide))
  have K8 := kn_look_answers (P := l.prog) (w := w) (base := base) (k := 0) B M O8
  have K12 := kn_stands (P := l.prog) (w := w) (base := base) (k := 0) B M O12
  have K13 := kn_gone_through (P := l.prog) (w := w) (base := base) (k := 0) B M O13
  have K14 := kn_row_done (P := l.prog) (w := w) (base := base) (k := 1) B M O14 (K13.mono (by decide))
  have K15 := kn_one_more (P := l.prog) (w := w) (base := base) (k := 0) B M O15
  have K16 := kn_other_done (P := l.prog) (w := w) (base := base) (k := 1) B M O16 (K15.mono (by decide))
  have K17 := kn_stepped (P := l.prog) (w := w) (base := base) (k := 2) B M O17 (K12.mono (by decide)) (K14.mono (by decide)) (K16.mono (by decide))
  have K10 := kn_run_code (P := l.prog) (w := w) (base := base) (k := 4) B M O10 (K7.mono (by decide)) (K8.mono (by decide)) (K3.mono (by decide)) (K17.mono (by decide))
  have K18 := kn__law_idle (P := l.prog) (w := w) (base := base) (k := 5) B M O18 (K10.mono (by decide))
  have K19 := kn_begunL (P := l.prog) (w := w) (base := base) (k := 0) B M O19
  have K20 := kn__law_whole (P := l.prog) (w := w) (base := base) (k := 0) B M O20
  have K21 := kn__law_whole_state (P := l.prog) (w := w) (base := base) (k := 1) B M O21 (K20.mono (by decide))
  have K22 := kn__law_still (P := l.prog) (w := w) (base := base) (k := 0) B M O22
  have K23 := kn_gone_throughL (P := l.prog) (w := w) (base := base) (k := 0) B M O23
  have K24 := kn_row_doneL (P := l.prog) (w := w) (base := base) (k := 1) B M O24 (K23.mono (by decide))
  have K25 := kn_other_doneL (P := l.prog) (w := w) (base := base) (k := 1) B M O25 (K15.mono (by decide))
  have K26 := kn_steppedL (P := l.prog) (w := w) (base := base) (k := 2) B M O26 (K12.mono (by decide)) (K24.mono (by decide)) (K25.mono (by decide))
  have K27 := kn_stepL (P := l.prog) (w := w) (base := base) (k := 4) B M O27 (K7.mono (by decide)) (K8.mono (by decide)) (K26.mono (by decide))
  have K28 := kn__law_box (P := l.prog) (w := w) (base := base) (k := 0) B M O28
  have K29 := kn__law_near (P := l.prog) (w := w) (base := base) (k := 1) B M O29 (K28.mono (by decide))
  have K30 := kn__law_copy (P := l.prog) (w := w) (base := base) (k := 0) B M O30
  exact (kl_law (k := 6) B M (fun_mk (st := s_law) l31 c31 k31) (K1.mono (by decide)) (K2.mono (by decide)) (K11.mono (by decide)) (K18.mono (by decide)) (K19.mono (by decide)) (K21.mono (by decide)) (K22.mono (by decide)) (K27.mono (by decide)) (K10.mono (by decide)) (K29.mono (by decide)) (K30.mono (by decide))).imp spLaw_of
end DL
open PySem PySem.W PyProof.Rows
set_option maxHeartbeats 0 in
theorem PySem.Challenge.cw_fewcounters_k77_whole_machine_holds : PySem.Challenge.rw_fewcounters_k77_whole_machine.Holds := by
  w_on; o_law; k_head; (case hw => w_witness2)
  k_fill
  refine L2.walk_of (l := PySem.Challenge.rw_fewcounters_k77_whole_machine) (n := 63) (k := 7) (x := "_law_script") (CX := fun _ => L2.CX0) (sp := fun w => DL.spLaw _) rfl (by decide) rfl ⟨rfl, by decide, by decide⟩ (fun w h Y => by first | exact PySem.W.kIn_of Y | exact PySem.W.km_in_of Y) ?F (fun _ _ a ns hl _ hS => ⟨a, ns, rfl, hS, hl, fun _ => rfl⟩) (fun _ _ _ _ _ h => h)
  case F =>
    intro w mg fa h KX G hmg
    refine' DL.all_mk KX G hmg ?a1 ?l1 ?c1 ?k1 ?a2 ?l2 ?c2 ?k2 ?a3 ?l3 ?c3 ?k3 ?a4 ?l4 ?c4 ?k4 ?a5 ?l5 ?c5 ?k5 ?a6 ?l6 ?c6 ?k6 ?a7 ?l7 ?c7 ?k7 ?a8 ?l8 ?c8 ?k8 ?a9 ?l9 ?c9 ?k9 ?a10 ?l10 ?c10 ?k10 ?a11 ?l11 ?c11 ?k11 ?a12 ?l12 ?c12 ?k12 ?a13 ?l13 ?c13 ?k13 ?a14 ?l14 ?c14 ?k14 ?a15 ?l15 ?c15 ?k15 ?a16 ?l16 ?c16 ?k16 ?a17 ?l17 ?c17 ?k17 ?a18 ?l18 ?c18 ?k18 ?a19 ?l19 ?c19 ?k19 ?a20 ?l20 ?c20 ?k20 ?a21 ?l21 ?c21 ?k21 ?a22 ?l22 ?c22 ?k22 ?a23 ?l23 ?c23 ?k23 ?a24 ?l24 ?c24 ?k24 ?a25 ?l25 ?c25 ?k25 ?a26 ?l26 ?c26 ?k26 ?a27 ?l27 ?c27 ?k27 ?a28 ?l28 ?c28 ?k28 ?a29 ?l29 ?c29 ?k29 ?a30 ?l30 ?c30 ?k30 ?a31 ?l31 ?c31 ?k31 ?z_len ?z_range ?z_sum ?z_min ?z_max ?z_all ?z_any ?z_abs ?z_isinstance ?z_int ?z_bool ?z_list ?z_tuple ?z_str ?z_dict ?z_sorted ?z_zip ?z_enumerate ?z_set ?b_CountError ?b_NoAnswer ?b_NoCode ?h0_NoAnswer ?h1_NoAnswer ?h2_NoAnswer ?h3_NoAnswer ?h4_NoAnswer ?h5_NoAnswer ?h6_NoAnswer ?h7_NoAnswer ?h8_NoAnswer ?h9_NoAnswer ?h10_NoAnswer ?n_NoAnswer_NoCode ?q_NoAnswer_NoCode ?i_CountError ?j_CountError ?i_NoAnswer ?j_NoAnswer ?i_NoCode ?j_NoCode ?y3 ?y4 ?y1 ?y2 ?z_ValueError ?da_SHAPES ?dl_SHAPES ?de0_SHAPES ?de1_SHAPES ?de2_SHAPES ?de3_SHAPES ?de4_SHAPES ?de5_SHAPES ?de6_SHAPES ?de7_SHAPES ?dw_SHAPES ?t_MOST_IDLE
    (case a1 => k_is); (case l1 => k_is); (case c1 => k_is); (case k1 => k_is); (case a2 => k_is); (case l2 => k_is); (case c2 => k_is); (case k2 => k_is); (case a3 => k_is); (case l3 => k_is); (case c3 => k_is); (case k3 => k_is); (case a4 => k_is); (case l4 => k_is); (case c4 => k_is); (case k4 => k_is); (case a5 => k_is); (case l5 => k_is); (case c5 => k_is); (case k5 => k_is); (case a6 => k_is); (case l6 => k_is); (case c6 => k_is); (case k6 => k_is); (case a7 => k_is); (case l7 => k_is); (case c7 => k_is); (case k7 => k_is); (case a8 => k_is); (case l8 => k_is); (case c8 => k_is); (case k8 => k_is); (case a9 => k_is); (case l9 => k_is); (case c9 => k_is); (case k9 => k_is); (case a10 => k_is); (case l10 => k_is); (case c10 => k_is); (case k10 => k_is); (case a11 => k_is); (case l11 => k_is); (case c11 => k_is); (case k11 => k_is); (case a12 => k_is); (case l12 => k_is); (case c12 => k_is); (case k12 => k_is); (case a13 => k_is); (case l13 => k_is); (case c13 => k_is); (case k13 => k_is); (case a14 => k_is); (case l14 => k_is); (case c14 => k_is); (case k14 => k_is); (case a15 => k_is); (case l15 => k_is); (case c15 => k_is); (case k15 => k_is); (case a16 => k_is); (case l16 => k_is); (case c16 => k_is); (case k16 => k_is); (case a17 => k_is); (case l17 => k_is); (case c17 => k_is); (case k17 => k_is); (case a18 => k_is); (case l18 => k_is); (case c18 => k_is); (case k18 => k_is); (case a19 => k_is); (case l19 => k_is); (case c19 => k_is); (case k19 => k_is); (case a20 => k_is); (case l20 => k_is); (case c20 => k_is); (case k20 => k_is); (case a21 => k_is); (case l21 => k_is); (case c21 => k_is); (case k21 => k_is); (case a22 => k_is); (case l22 => k_is); (case c22 => k_is); (case k22 => k_is); (case a23 => k_is); (case l23 => k_is); (case c23 => k_is); (case k23 => k_is); (case a24 => k_is); (case l24 => k_is); (case c24 => k_is); (case k24 => k_is); (case a25 => k_is); (case l25 => k_is); (case c25 => k_is); (case k25 => k_is); (case a26 => k_is); (case l26 => k_is); (case c26 => k_is); (case k26 => k_is); (case a27 => k_is); (case l27 => k_is); (case c27 => k_is); (case k27 => k_is); (case a28 => k_is); (case l28 => k_is); (case c28 => k_is); (case k28 => k_is); (case a29 => k_is); (case l29 => k_is); (case c29 => k_is); (case k29 => k_is); (case a30 => k_is); (case l30 => k_is); (case c30 => k_is); (case k30 => k_is); (case a31 => k_is); (case l31 => k_is); (case c31 => k_is); (case k31 => k_is); (case z_len => k_is); (case z_range => k_is); (case z_sum => k_is); (case z_min => k_is); (case z_max => k_is); (case z_all => k_is); (case z_any => k_is); (case z_abs => k_is); (case z_isinstance => k_is); (case z_int => k_is); (case z_bool => k_is); (case z_list => k_is); (case z_tuple => k_is); (case z_str => k_is); (case z_dict => k_is); (case z_sorted => k_is); (case z_zip => k_is); (case z_enumerate => k_is); (case z_set => k_is); (case b_CountError => k_is); (case b_NoAnswer => k_is); (case b_NoCode => k_is); (case h0_NoAnswer => k_is); (case h1_NoAnswer => k_is); (case h2_NoAnswer => k_is); (case h3_NoAnswer => k_exc); (case h4_NoAnswer => k_is); (case h5_NoAnswer => k_is); (case h6_NoAnswer => k_is); (case h7_NoAnswer => k_is); (case h8_NoAnswer => k_is); (case h9_NoAnswer => k_is); (case h10_NoAnswer => first | rfl | k_is); (case n_NoAnswer_NoCode => decide); (case q_NoAnswer_NoCode => first | rfl | k_is); (case i_CountError => k_is); (case j_CountError => k_is); (case i_NoAnswer => k_is); (case j_NoAnswer => k_is); (case i_NoCode => k_is); (case j_NoCode => k_is); (case y3 => k_is); (case y4 => k_is); (case y1 => k_is); (case y2 => k_is); (case z_ValueError => k_is); (case da_SHAPES => k_is); (case dl_SHAPES => k_is); (case de0_SHAPES => rfl); (case de1_SHAPES => rfl); (case de2_SHAPES => rfl); (case de3_SHAPES => rfl); (case de4_SHAPES => rfl); (case de5_SHAPES => rfl); (case de6_SHAPES => rfl); (case de7_SHAPES => rfl); (case dw_SHAPES => rfl); (case t_MOST_IDLE => k_is)


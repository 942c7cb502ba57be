import PyProof.Rows.All
import Wide.All
import OpenK.AllK
import Wide.FinOn
import PySem.Challenge.RW_turnedpairs_k54_whole_deals_counted
import HandS.ForMost
import HandS.Star
import HandS.IsInst
import HandS.Deep
import HandS.EndTab
import HandS.TupAny
import HandS.TupMul
import HandS.Wide
import HandS.Style
import HandS.Conv
import HandS.Words
set_option Elab.async false
set_option linter.all false
set_option maxRecDepth 100000
set_option maxHeartbeats 4000000
/-! MPA: data, memory, what a value and a heap stand for. -/
namespace MP
open PySem L2

inductive P where
  | non | bl (b : Bool) | int (i : Int) | str (s : List Nat) | tup (xs : List P) | lst (xs : List P) | dct (t : Bool) (kvs : List (P × P)) | ins (c : Nat) (fs : List P)
inductive D where
  | p (v : P) | ref (n : Nat) | tup (xs : List D)
inductive Cell where
  | lst (xs : List P) | dct (t : Bool) (kvs : List (P × P)) | bowl
abbrev Env := List (Option D)
abbrev Mem := List Cell
abbrev KD := D → Mem → Bool
abbrev CE := Env → Mem → KD → Bool
abbrev KB := Bool → Mem → Bool
abbrev CT := Env → Mem → KB → Bool
abbrev CA := Env → Mem → (List D → Mem → Bool) → Bool
structure En where
  nx : Env → Mem → Bool
  rt : D → Mem → Bool
  bk : Env → Mem → Bool
  ct : Env → Mem → Bool
abbrev CS := En → Env → Mem → Bool
abbrev CC := List D → Mem → KD → Bool
abbrev CG := D → Env → Mem → (Env → Mem → Bool) → Bool

/-- what stays the same through a law's run: the written part, the own classes with their fields, the tables of code objects -/
structure Wd where
  K : PySem.W.Frag
  cls : List (Addr × List Str)
  T : List (Addr × Str)

def okStr (s : List Nat) : Bool := s.all (fun c => decide (c < 0x110000)) && decide (s.length ≤ 1000)
abbrev mkS (s : List Nat) : Str := ⟨⟨s⟩⟩

def TupAt (W : Wd) (F : Addr → Prop) (H : Hp) (a : Addr) (vs : List V) : Prop :=
  vs.length ≤ sizeLine ∧ ((∃ o, H a = some (.frz o (.tup vs)) ∧ o.dict = none ∧ o.cls = .type "tuple" ∧ ¬ F a) ∨
    ∃ (o : Obj) (its : Array Value) (n : Nat), W.K.lookup a = some o ∧ o.cls = .type "tuple" ∧ o.dict = none ∧ o.data = .seq its n ∧ its.size ≤ sizeLine ∧ Vals vs its.toList)
def LstAt (W : Wd) (F : Addr → Prop) (H : Hp) (a : Addr) (vs : List V) : Prop := vs.length ≤ sizeLine ∧ H a = some (.lst vs) ∧ ¬ F a
/-- the mark of the script: a list that is only read -/
abbrev scrC : Nat := 1000000
def ScrAt (W : Wd) (F : Addr → Prop) (H : Hp) (a : Addr) (vs : List V) : Prop :=
  vs.length ≤ sizeLine ∧ ((∃ o, H a = some (.frz o (.lst vs)) ∧ ¬ F a) ∨
    ∃ (o : Obj) (its : Array Value) (n : Nat), W.K.lookup a = some o ∧ o.cls = .type "list" ∧ o.dict = none ∧ o.data = .seq its n ∧ its.size ≤ sizeLine ∧ Vals vs its.toList)
theorem ScrAt.sq {W : Wd} {F : Addr → Prop} {H : Hp} {a : Addr} {vs : List V} (h : ScrAt W F H a vs) : SqL W.K H a vs := by
  rcases h.2 with ⟨o, q, _⟩ | q
  · exact .inl (.inr ⟨o, q⟩)
  · exact .inr q
def keyOf : P → Option Key
  | .int i => some (.inl i)
  | .str s => some (.inr (mkS s))
  | _ => none
def keysOf : List P → Option (List Key)
  | [] => some []
  | x :: r => match keyOf x, keysOf r with
    | some k, some ks => some (k :: ks)
    | _, _ => none
def DctAt (F : Addr → Prop) (H : Hp) (a : Addr) (t : Bool) (kvs : List (P × V)) : Prop :=
  kvs.length ≤ sizeLine ∧ ¬ F a ∧ (if t then ∃ l : List (List Key × V), H a = some (.dT l) ∧ Paired (fun (p : P × V) (q : List Key × V) => (∃ xs, p.1 = .tup xs ∧ keysOf xs = some q.1) ∧ p.2 = q.2) kvs l
    else ∃ l : List (Key × V), H a = some (.dK l) ∧ Paired (fun (p : P × V) (q : Key × V) => keyOf p.1 = some q.1 ∧ p.2 = q.2) kvs l)
mutual
def RepP (W : Wd) (F : Addr → Prop) (H : Hp) : P → V → Prop
  | .non, v => v = .non
  | .bl b, v => v = .bl b
  | .int i, v => v = .int i
  | .str s, v => v = .str (mkS s) ∧ okStr s = true
  | .tup xs, v => ∃ a vs, v = .ref a ∧ TupAt W F H a vs ∧ RepPs W F H xs vs
  | .lst xs, v => ∃ a vs, v = .ref a ∧ LstAt W F H a vs ∧ RepPs W F H xs vs
  | .dct t kvs, v => ∃ a l, v = .ref a ∧ DctAt F H a t l ∧ RepKv W F H kvs l
  | .ins c fs, v => (c = scrC ∧ ∃ a vs, v = .ref a ∧ ScrAt W F H a vs ∧ RepPs W F H fs vs) ∨ c ≠ scrC ∧ ∃ a C ns dx vs, v = .ref a ∧ W.cls[c]? = some (C, ns) ∧ H a = some (.ins C dx (ns.zip vs)) ∧ ¬ F a ∧ vs.length = ns.length ∧ RepPs W F H fs vs
def RepPs (W : Wd) (F : Addr → Prop) (H : Hp) : List P → List V → Prop
  | [], vs => vs = []
  | x :: xs, vs => ∃ v r, vs = v :: r ∧ RepP W F H x v ∧ RepPs W F H xs r
def RepKv (W : Wd) (F : Addr → Prop) (H : Hp) : List (P × P) → List (P × V) → Prop
  | [], l => l = []
  | (k, x) :: xs, l => ∃ v r, l = (k, v) :: r ∧ RepP W F H x v ∧ RepKv W F H xs r
end

/-- what is not open to writing is kept -/
def Kp (F : Addr → Prop) (H : Hp) (F' : Addr → Prop) (H' : Hp) : Prop := ∀ a o, H a = some o → ¬ F a → H' a = some o ∧ ¬ F' a
/-- what stood and is not open to writing stays so -/
structure Step (F : Addr → Prop) (M : List Addr) (H : Hp) (F' : Addr → Prop) (M' : List Addr) (H' : Hp) : Prop where
  fm : ∀ a, F a → F' a
  mm : ∃ r, M' = M ++ r ∧ ∀ a ∈ r, H a = none
  kp : Kp F H F' H'
  dm : ∀ a, H a ≠ none → H' a ≠ none
  kf : ∀ a o, F a → a ∉ M → (∀ ps, o ≠ HO.tbl ps) → H a = some o → H' a = some o
section
variable {W : Wd} {F F' F'' : Addr → Prop} {M M' M'' : List Addr} {H H' H'' : Hp}
theorem Step.refl : Step F M H F M H := ⟨fun _ h => h, ⟨[], by simp, by simp⟩, fun _ _ h n => ⟨h, n⟩, fun _ h => h, fun _ _ _ _ _ h => h⟩
theorem Step.trans (a : Step F M H F' M' H') (b : Step F' M' H' F'' M'' H'') : Step F M H F'' M'' H'' := by
  obtain ⟨r, e, n⟩ := a.mm
  obtain ⟨r', e', n'⟩ := b.mm
  refine ⟨fun x h => b.fm x (a.fm x h), ⟨r ++ r', by rw [e', e, List.append_assoc], fun x hx => ?_⟩, fun x o h n => ?_, fun x h => b.dm x (a.dm x h), fun x o h1 h2 h3 h4 => b.kf x o (a.fm x h1) (fun q => ?_) h3 (a.kf x o h1 h2 h3 h4)⟩
  · rcases List.mem_append.mp hx with h | h
    · exact n x h
    · cases q : H x with
      | none => rfl
      | some o => exact absurd (n' x h) (a.dm x (by rw [q]; simp))
  · obtain ⟨h1, h2⟩ := a.kp x o h n
    exact b.kp x o h1 h2
  · rw [e] at q
    rcases List.mem_append.mp q with q | q
    · exact h2 q
    · rw [n x q] at h4
      cases h4
theorem TupAt.kp {a : Addr} {vs : List V} (s : Kp F H F' H') (h : TupAt W F H a vs) : TupAt W F' H' a vs := by
  obtain ⟨z, h⟩ := h
  refine ⟨z, ?_⟩
  rcases h with ⟨o, h, d, c, n⟩ | h
  · obtain ⟨h1, h2⟩ := s _ _ h n
    exact .inl ⟨o, h1, d, c, h2⟩
  · exact .inr h
theorem LstAt.kp {a : Addr} {vs : List V} (s : Kp F H F' H') (h : LstAt W F H a vs) : LstAt W F' H' a vs := ⟨h.1, s _ _ h.2.1 h.2.2⟩
theorem ScrAt.kp {a : Addr} {vs : List V} (s : Kp F H F' H') (h : ScrAt W F H a vs) : ScrAt W F' H' a vs := by
  refine ⟨h.1, ?_⟩
  rcases h.2 with ⟨o, q, n⟩ | q
  · exact .inl ⟨o, s _ _ q n⟩
  · exact .inr q
theorem DctAt.kp {a : Addr} {t : Bool} {kvs : List (P × V)} (s : Kp F H F' H') (h : DctAt F H a t kvs) : DctAt F' H' a t kvs := by
  obtain ⟨z, n, h⟩ := h
  cases t with
  | true =>
    obtain ⟨l, e, h⟩ := h
    obtain ⟨e', n'⟩ := s _ _ e n
    exact ⟨z, n', l, e', h⟩
  | false =>
    obtain ⟨l, e, h⟩ := h
    obtain ⟨e', n'⟩ := s _ _ e n
    exact ⟨z, n', l, e', h⟩
mutual
theorem RepP.kp (s : Kp F H F' H') : ∀ (p : P) (v : V), RepP W F H p v → RepP W F' H' p v
  | .non, v, h => h
  | .bl b, v, h => h
  | .int i, v, h => h
  | .str s, v, h => h
  | .tup xs, v, h => by
    obtain ⟨a, vs, e, h1, h2⟩ := h
    exact ⟨a, vs, e, h1.kp s, RepPs.kp s xs vs h2⟩
  | .lst xs, v, h => by
    obtain ⟨a, vs, e, h1, h2⟩ := h
    exact ⟨a, vs, e, h1.kp s, RepPs.kp s xs vs h2⟩
  | .dct t kvs, v, h => by
    obtain ⟨a, l, e, h1, h2⟩ := h
    exact ⟨a, l, e, h1.kp s, RepKv.kp s kvs l h2⟩
  | .ins c fs, v, h => by
    rcases h with ⟨e0, a, vs, e, h1, h2⟩ | ⟨e0, a, C, ns, dx, vs, e, h1, h2, h3, h4, h5⟩
    · exact .inl ⟨e0, a, vs, e, h1.kp s, RepPs.kp s fs vs h2⟩
    · obtain ⟨h2', h3'⟩ := s _ _ h2 h3
      exact .inr ⟨e0, a, C, ns, dx, vs, e, h1, h2', h3', h4, RepPs.kp s fs vs h5⟩
theorem RepPs.kp (s : Kp F H F' H') : ∀ (p : List P) (v : List V), RepPs W F H p v → RepPs W F' H' p v
  | [], v, h => h
  | x :: xs, v, h => by
    obtain ⟨w, r, e, h1, h2⟩ := h
    exact ⟨w, r, e, RepP.kp s x w h1, RepPs.kp s xs r h2⟩
theorem RepKv.kp (s : Kp F H F' H') : ∀ (p : List (P × P)) (v : List (P × V)), RepKv W F H p v → RepKv W F' H' p v
  | [], v, h => h
  | (k, x) :: xs, v, h => by
    obtain ⟨w, r, e, h1, h2⟩ := h
    exact ⟨w, r, e, RepP.kp s x w h1, RepKv.kp s xs r h2⟩
end
theorem RepP.mono (s : Step F M H F' M' H') {p : P} {v : V} (h : RepP W F H p v) : RepP W F' H' p v := RepP.kp s.kp p v h
theorem RepPs.mono (s : Step F M H F' M' H') {p : List P} {v : List V} (h : RepPs W F H p v) : RepPs W F' H' p v := RepPs.kp s.kp p v h
theorem Kp.less (s : ∀ a, F' a → F a) : Kp F H F' H := fun a o h n => ⟨h, fun q => n (s a q)⟩
theorem RepPs.length : ∀ {p : List P} {v : List V}, RepPs W F H p v → p.length = v.length
  | [], v, h => by
    have e : v = [] := h
    rw [e] <;> rfl
  | x :: xs, v, h => by
    obtain ⟨w, r, e, h1, h2⟩ := h
    rw [e, List.length_cons, List.length_cons, RepPs.length h2]
theorem RepPs.nil : RepPs W F H [] [] := rfl
theorem RepPs.cons {x : P} {xs : List P} {v : V} {vs : List V} (h : RepP W F H x v) (t : RepPs W F H xs vs) : RepPs W F H (x :: xs) (v :: vs) := ⟨v, vs, rfl, h, t⟩
theorem RepPs.append : ∀ {xs ys : List P} {vs ws : List V}, RepPs W F H xs vs → RepPs W F H ys ws → RepPs W F H (xs ++ ys) (vs ++ ws)
  | [], ys, vs, ws, h, t => by
    have e : vs = [] := h
    rw [e]
    exact t
  | x :: xs, ys, vs, ws, h, t => by
    obtain ⟨w, r, e, h1, h2⟩ := h
    rw [e]
    exact ⟨w, r ++ ws, rfl, h1, RepPs.append h2 t⟩
theorem RepPs.get : ∀ {xs : List P} {vs : List V} {i : Nat} {v : V}, RepPs W F H xs vs → vs[i]? = some v → ∃ x, xs[i]? = some x ∧ RepP W F H x v
  | [], vs, i, v, h, g => by
    have e : vs = [] := h
    rw [e] at g
    simp at g
  | x :: xs, vs, 0, v, h, g => by
    obtain ⟨w, r, e, h1, h2⟩ := h
    rw [e] at g
    simp at g
    subst g
    exact ⟨x, rfl, h1⟩
  | x :: xs, vs, i + 1, v, h, g => by
    obtain ⟨w, r, e, h1, h2⟩ := h
    rw [e] at g
    have g' : r[i]? = some v := by simpa using g
    obtain ⟨y, h3, h4⟩ := RepPs.get h2 g'
    exact ⟨y, by simpa using h3, h4⟩
theorem RepPs.get' : ∀ {xs : List P} {vs : List V} {i : Nat} {x : P}, RepPs W F H xs vs → xs[i]? = some x → ∃ v, vs[i]? = some v ∧ RepP W F H x v
  | [], vs, i, v, h, g => by simp at g
  | y :: xs, vs, 0, x, h, g => by
    obtain ⟨w, r, e, h1, h2⟩ := h
    simp at g
    subst g
    rw [e]
    exact ⟨w, rfl, h1⟩
  | y :: xs, vs, i + 1, x, h, g => by
    obtain ⟨w, r, e, h1, h2⟩ := h
    have g' : xs[i]? = some x := by simpa using g
    obtain ⟨v, h3, h4⟩ := RepPs.get' h2 g'
    rw [e]
    exact ⟨v, by simpa using h3, h4⟩
theorem RepPs.set : ∀ {xs : List P} {vs : List V} {x : P} {v : V} (i : Nat), RepPs W F H xs vs → RepP W F H x v → RepPs W F H (xs.set i x) (vs.set i v)
  | [], vs, x, v, i, h, g => by
    have e : vs = [] := h
    rw [e]
    exact rfl
  | y :: xs, vs, x, v, 0, h, g => by
    obtain ⟨w, r, e, h1, h2⟩ := h
    rw [e]
    exact ⟨v, r, rfl, g, h2⟩
  | y :: xs, vs, x, v, i + 1, h, g => by
    obtain ⟨w, r, e, h1, h2⟩ := h
    rw [e]
    exact ⟨w, r.set i v, rfl, h1, RepPs.set i h2 g⟩
theorem RepPs.take : ∀ {xs : List P} {vs : List V} (i : Nat), RepPs W F H xs vs → RepPs W F H (xs.take i) (vs.take i)
  | xs, vs, 0, h => by
    rw [List.take_zero, List.take_zero]
    exact rfl
  | [], vs, i + 1, h => by
    have e : vs = [] := h
    rw [e]
    exact rfl
  | y :: xs, vs, i + 1, h => by
    obtain ⟨w, r, e, h1, h2⟩ := h
    rw [e]
    exact ⟨w, r.take i, rfl, h1, RepPs.take i h2⟩
theorem RepPs.drop : ∀ {xs : List P} {vs : List V} (i : Nat), RepPs W F H xs vs → RepPs W F H (xs.drop i) (vs.drop i)
  | xs, vs, 0, h => h
  | [], vs, i + 1, h => by
    have e : vs = [] := h
    rw [e]
    exact rfl
  | y :: xs, vs, i + 1, h => by
    obtain ⟨w, r, e, h1, h2⟩ := h
    rw [e]
    exact RepPs.drop i h2
end

/-! ### memory -/
/-- the bowl that draws come from -/
def Bowl (vs : List V) : Prop := ∃ x y z : Int, vs = [.int x, .int y, .int z] ∧ 0 ≤ x ∧ 0 ≤ y ∧ y < 2147483563 ∧ 0 ≤ z
def CellR (W : Wd) (F : Addr → Prop) (H : Hp) (a : Addr) : Cell → Prop
  | .lst xs => ∃ vs, vs.length ≤ sizeLine ∧ H a = some (.lst vs) ∧ RepPs W F H xs vs
  | .dct t kvs => ∃ l : List (P × V), l.length ≤ sizeLine ∧ RepKv W F H kvs l ∧ (if t then ∃ l' : List (List Key × V), H a = some (.dT l') ∧ Paired (fun (p : P × V) (q : List Key × V) => (∃ xs, p.1 = .tup xs ∧ keysOf xs = some q.1) ∧ p.2 = q.2) l l'
    else ∃ l' : List (Key × V), H a = some (.dK l') ∧ Paired (fun (p : P × V) (q : Key × V) => keyOf p.1 = some q.1 ∧ p.2 = q.2) l l')
  | .bowl => ∃ vs, H a = some (.lst vs) ∧ Bowl vs
structure StR (W : Wd) (F : Addr → Prop) (M : List Addr) (H : Hp) (mem : Mem) : Prop where
  dom : ∀ a, F a → H a ≠ none
  nd : M.Nodup
  inF : ∀ a ∈ M, F a
  len : M.length = mem.length
  cell : ∀ (n : Nat) (a : Addr) (c : Cell), M[n]? = some a → mem[n]? = some c → CellR W F H a c
  tab : LamX.Tabs W.T H
  tabF : ∀ p ∈ W.T, F p.1
/-- a tuple that is soon unpacked -/
def TupW (W : Wd) (F : Addr → Prop) (H : Hp) (a : Addr) (vs : List V) : Prop := TupAt W F H a vs ∨ (H a = some (.tup vs) ∧ ¬ F a)
theorem TupW.kp {W : Wd} {F F' : Addr → Prop} {H H' : Hp} {a : Addr} {vs : List V} (s : Kp F H F' H') (h : TupW W F H a vs) : TupW W F' H' a vs := by
  rcases h with h | ⟨h, n⟩
  · exact .inl (h.kp s)
  · exact .inr (s _ _ h n)
mutual
def RepD (W : Wd) (F : Addr → Prop) (M : List Addr) (H : Hp) : D → V → Prop
  | .p x, v => RepP W F H x v
  | .ref n, v => ∃ a, M[n]? = some a ∧ v = .ref a
  | .tup ds, v => ∃ a vs, v = .ref a ∧ TupW W F H a vs ∧ RepDs W F M H ds vs
def RepDs (W : Wd) (F : Addr → Prop) (M : List Addr) (H : Hp) : List D → List V → Prop
  | [], vs => vs = []
  | d :: ds, vs => ∃ v r, vs = v :: r ∧ RepD W F M H d v ∧ RepDs W F M H ds r
end
section
variable {W : Wd} {F F' F'' : Addr → Prop} {M M' M'' : List Addr} {H H' H'' : Hp} {mem : Mem}
theorem Step.get {n : Nat} {a : Addr} (s : Step F M H F' M' H') (h : M[n]? = some a) : M'[n]? = some a := by
  obtain ⟨r, e, _⟩ := s.mm
  rw [e, List.getElem?_append_left (List.getElem?_eq_some_iff.mp h).1]
  exact h
mutual
theorem RepD.kp (k : Kp F H F' H') (g : ∀ (n : Nat) (a : Addr), M[n]? = some a → M'[n]? = some a) : ∀ (d : D) (v : V), RepD W F M H d v → RepD W F' M' H' d v
  | .p x, v, h => RepP.kp k x v h
  | .ref n, v, h => by
    obtain ⟨a, h1, h2⟩ := h
    exact ⟨a, g n a h1, h2⟩
  | .tup ds, v, h => by
    obtain ⟨a, vs, e, h1, h2⟩ := h
    exact ⟨a, vs, e, h1.kp k, RepDs.kp k g ds vs h2⟩
theorem RepDs.kp (k : Kp F H F' H') (g : ∀ (n : Nat) (a : Addr), M[n]? = some a → M'[n]? = some a) : ∀ (d : List D) (v : List V), RepDs W F M H d v → RepDs W F' M' H' d v
  | [], v, h => h
  | d :: ds, v, h => by
    obtain ⟨w, r, e, h1, h2⟩ := h
    exact ⟨w, r, e, RepD.kp k g d w h1, RepDs.kp k g ds r h2⟩
end
theorem RepD.mono (s : Step F M H F' M' H') (d : D) (v : V) (h : RepD W F M H d v) : RepD W F' M' H' d v := RepD.kp s.kp (fun _ _ => s.get) d v h
theorem RepDs.mono (s : Step F M H F' M' H') (d : List D) (v : List V) (h : RepDs W F M H d v) : RepDs W F' M' H' d v := RepDs.kp s.kp (fun _ _ => s.get) d v h
/-- a frame's slots -/
structure EnvR (W : Wd) (F : Addr → Prop) (M : List Addr) (H : Hp) (env : Env) (σ : St) : Prop where
  len : env.length = σ.length
  at_ : ∀ (i : Nat) (d : D), env[i]? = some (some d) → ∃ v, σ[i]? = some (some v) ∧ RepD W F M H d v
theorem EnvR.mono {env : Env} {σ : St} (s : Step F M H F' M' H') (h : EnvR W F M H env σ) : EnvR W F' M' H' env σ :=
  ⟨h.len, fun i d e => let ⟨v, h1, h2⟩ := h.at_ i d e; ⟨v, h1, RepD.mono s d v h2⟩⟩
theorem EnvR.set {env : Env} {σ : St} {i : Nat} {d : D} {v : V} (h : EnvR W F M H env σ) (hd : RepD W F M H d v) : EnvR W F M H (env.set i (some d)) (σ.set i (some v)) := by
  refine ⟨by rw [List.length_set, List.length_set, h.len], fun j e q => ?_⟩
  by_cases hj : i = j
  · subst hj
    by_cases hl : i < env.length
    · rw [List.getElem?_set_self hl] at q
      cases q
      exact ⟨v, List.getElem?_set_self (by rw [← h.len]; exact hl), hd⟩
    · rw [List.getElem?_eq_none (by rw [List.length_set]; omega)] at q
      cases q
  · rw [List.getElem?_set_ne hj] at q
    obtain ⟨w, h1, h2⟩ := h.at_ j e q
    exact ⟨w, by rw [List.getElem?_set_ne hj]; exact h1, h2⟩
end
end MP
/-! MPB: closures of expressions and what they stand for. -/
namespace MP
open PySem L2

section
variable {W : Wd} {F F' : Addr → Prop} {M M' : List Addr} {H H' : Hp} {mem : Mem}
theorem StR.fresh (st : StR W F M H mem) {p : Addr} (h : H p = none) : ¬ F p := fun q => st.dom p q h
theorem Kp.same (e : Same H H') : Kp F H F H' := fun a o h n => ⟨e a o h, n⟩
theorem Step.same (e : Same H H') : Step F M H F M H' := by
  refine ⟨fun _ h => h, ⟨[], by simp, by simp⟩, Kp.same e, fun a q => ?_, fun a o _ _ _ q => e a o q⟩
  cases h : H a with
  | none => exact absurd h q
  | some o =>
    rw [e a o h]
    simp
theorem Same.new {p : Addr} {o : HO} (h : H p = none) : Same H (upd H p o) := fun a u e => by
  rw [upd_ne (ne_of_none e h)]
  exact e
theorem CellR.kp {a : Addr} {c : Cell} (k : Kp F H F' H') (e : ∀ o, H a = some o → H' a = some o) (h : CellR W F H a c) : CellR W F' H' a c := by
  cases c with
  | lst xs =>
    obtain ⟨vs, z, q, r⟩ := h
    exact ⟨vs, z, e _ q, RepPs.kp k xs vs r⟩
  | dct t kvs =>
    obtain ⟨l, z, r, q⟩ := h
    refine ⟨l, z, RepKv.kp k kvs l r, ?_⟩
    cases t with
    | true =>
      obtain ⟨l', q, p⟩ := q
      exact ⟨l', e _ q, p⟩
    | false =>
      obtain ⟨l', q, p⟩ := q
      exact ⟨l', e _ q, p⟩
  | bowl =>
    obtain ⟨vs, q, r⟩ := h
    exact ⟨vs, e _ q, r⟩
theorem StR.same (st : StR W F M H mem) (e : Same H H') : StR W F M H' mem :=
  ⟨fun a q => (Step.same (F := F) (M := M) e).dm a (st.dom a q), st.nd, st.inF, st.len, fun n a c h1 h2 => (st.cell n a c h1 h2).kp (Kp.same e) (e a), st.tab.ext e, st.tabF⟩

/-- what is behind: looking into a cell -/
def look (m : Mem) : D → Option P
  | .p v => some v
  | .ref n => match m[n]? with
    | some (.lst xs) => some (.lst xs)
    | some (.dct t k) => some (.dct t k)
    | _ => none
  | .tup _ => none
/-- as RepP, but the object itself may be open to writing -/
def RepL (W : Wd) (F : Addr → Prop) (H : Hp) : P → V → Prop
  | .lst xs, v => ∃ a vs, v = .ref a ∧ H a = some (.lst vs) ∧ vs.length ≤ sizeLine ∧ RepPs W F H xs vs
  | .dct t kvs, v => ∃ a l, v = .ref a ∧ RepKv W F H kvs l ∧ l.length ≤ sizeLine ∧ (if t then ∃ l' : List (List Key × V), H a = some (.dT l') ∧ Paired (fun (p : P × V) (q : List Key × V) => (∃ xs, p.1 = .tup xs ∧ keysOf xs = some q.1) ∧ p.2 = q.2) l l'
    else ∃ l' : List (Key × V), H a = some (.dK l') ∧ Paired (fun (p : P × V) (q : Key × V) => keyOf p.1 = some q.1 ∧ p.2 = q.2) l l')
  | x, v => RepP W F H x v
theorem RepP.rl {x : P} {v : V} (h : RepP W F H x v) : RepL W F H x v := by
  cases x with
  | lst xs =>
    obtain ⟨a, vs, e, ⟨z, q, _⟩, r⟩ := h
    exact ⟨a, vs, e, q, z, r⟩
  | dct t kvs =>
    obtain ⟨a, l, e, ⟨z, _, q⟩, r⟩ := h
    exact ⟨a, l, e, r, z, q⟩
  | _ => exact h
theorem look_rl {d : D} {x : P} {v : V} (st : StR W F M H mem) (r : RepD W F M H d v) (h : look mem d = some x) : RepL W F H x v := by
  cases d with
  | p y =>
    cases h
    exact RepP.rl r
  | ref n =>
    obtain ⟨a, e, rfl⟩ := r
    have hn : n < mem.length := by rw [← st.len]; exact (List.getElem?_eq_some_iff.mp e).1
    have hc := st.cell n a mem[n] e (List.getElem?_eq_getElem hn)
    dsimp only [look] at h
    rw [List.getElem?_eq_getElem hn] at h
    cases q : mem[n] with
    | lst xs =>
      rw [q] at h hc
      cases h
      obtain ⟨vs, z, h1, h2⟩ := hc
      exact ⟨a, vs, rfl, h1, z, h2⟩
    | dct t k =>
      rw [q] at h hc
      cases h
      obtain ⟨l, z, h1, h2⟩ := hc
      exact ⟨a, l, rfl, h1, z, h2⟩
    | bowl =>
      rw [q] at h
      cases h
  | tup ds => cases h
/-- a result: a list is a new one -/
def ResP (W : Wd) (F : Addr → Prop) (H H' : Hp) (z : P) (u : V) : Prop := match z with
  | .lst xs => ∃ a vs, u = .ref a ∧ H a = none ∧ H' a = some (.lst vs) ∧ vs.length ≤ sizeLine ∧ RepPs W F H xs vs
  | z => RepP W F H' z u
theorem ResP.rep {z : P} {u : V} (st : StR W F M H mem) (e : Same H H') (h : ResP W F H H' z u) : RepP W F H' z u := by
  cases z with
  | lst xs =>
    obtain ⟨a, vs, e1, n, q, l, r⟩ := h
    exact ⟨a, vs, e1, ⟨l, q, st.fresh n⟩, RepPs.kp (Kp.same e) _ _ r⟩
  | _ => exact h
/-- a new cell -/
theorem cell_new (st : StR W F M H mem) {a : Addr} {c : Cell} (h : H a = none) (e : Same H H') (ha : H' a ≠ none) (hc : CellR W (fun b => F b ∨ b = a) H' a c) :
    Step F M H (fun b => F b ∨ b = a) (M ++ [a]) H' ∧ StR W (fun b => F b ∨ b = a) (M ++ [a]) H' (mem ++ [c]) := by
  have nF : ¬ F a := st.fresh h
  have s := Step.same (F := F) (M := M) e
  have st' := st.same e
  have kpn : Kp F H (fun b => F b ∨ b = a) H' := fun b o q n => by
    refine ⟨e b o q, fun z => ?_⟩
    rcases z with z | z
    · exact n z
    · subst z
      rw [h] at q
      cases q
  have nM : a ∉ M := fun q => nF (st.inF a q)
  refine ⟨⟨fun b q => .inl q, ⟨[a], rfl, fun b q => ?_⟩, kpn, s.dm, fun b o _ _ _ q => e b o q⟩, ⟨fun b q => ?_, ?_, fun b q => ?_, ?_, fun n b c' e1 e2 => ?_, st'.tab, fun p hp => .inl (st'.tabF p hp)⟩⟩
  · have : b = a := by simpa using q
    subst this
    exact h
  · rcases q with q | q
    · exact st'.dom b q
    · subst q
      exact ha
  · exact List.nodup_append.mpr ⟨st.nd, by simp, fun x hx y hy => by
      have : y = a := by simpa using hy
      subst this
      exact fun z => nM (z ▸ hx)⟩
  · rcases List.mem_append.mp q with q | q
    · exact .inl (st.inF b q)
    · exact .inr (by simpa using q)
  · rw [List.length_append, List.length_append, st.len] <;> rfl
  · by_cases hn : n < M.length
    · rw [List.getElem?_append_left hn] at e1
      rw [List.getElem?_append_left (by rw [← st.len]; exact hn)] at e2
      exact (st.cell n b c' e1 e2).kp kpn (e b)
    · rw [List.getElem?_append_right (by omega)] at e1
      rw [List.getElem?_append_right (by rw [← st.len]; omega), ← st.len] at e2
      have hk : n - M.length = 0 := by
        have := (List.getElem?_eq_some_iff.mp e1).1
        simp at this
        omega
      rw [hk] at e1 e2
      cases e1
      cases e2
      exact hc
end

/-! ### readings -/
def RdE (W : Wd) (f : CE) : TE := fun σ H Q => ∃ F M env mem Qb, StR W F M H mem ∧ EnvR W F M H env σ ∧ f env mem Qb = true ∧
  ∀ v H' F' M' d mem', Step F M H F' M' H' → StR W F' M' H' mem' → RepD W F' M' H' d v → Qb d mem' = true → Q v H'
def RdT (W : Wd) (f : CT) : TT := fun σ H Q => ∃ F M env mem Qb, StR W F M H mem ∧ EnvR W F M H env σ ∧ f env mem Qb = true ∧
  ∀ b H' F' M' mem', Step F M H F' M' H' → StR W F' M' H' mem' → Qb b mem' = true → Q b H'
def RdA (W : Wd) (f : CA) : TA := fun σ H Q => ∃ F M env mem Qb, StR W F M H mem ∧ EnvR W F M H env σ ∧ f env mem Qb = true ∧
  ∀ vs H' F' M' ds mem', Step F M H F' M' H' → StR W F' M' H' mem' → RepDs W F' M' H' ds vs → Qb ds mem' = true → Q vs H'
theorem PE.imp {X : Cx} {e : Expr} {t t' : TE} (h : PE X e t) (w : ∀ σ H Q, t' σ H Q → t σ H Q) : PE X e t' := ⟨fun pins s σ H Q I q => h.run pins s σ H Q I (w σ H Q q)⟩
theorem PT.imp {X : Cx} {e : Expr} {t t' : TT} (h : PT X e t) (w : ∀ σ H Q, t' σ H Q → t σ H Q) : PT X e t' := ⟨fun pins s σ H Q I q => h.run pins s σ H Q I (w σ H Q q)⟩
theorem PA.imp {X : Cx} {e : List Expr} {t t' : TA} (h : PA X e t) (w : ∀ σ H Q, t' σ H Q → t σ H Q) : PA X e t' := ⟨fun pos pins s σ H Q I q => h.run pos pins s σ H Q I (w σ H Q q)⟩
theorem PS.imp {X : Cx} {e : Stmt} {t t' : TS} (h : PS X e t) (w : ∀ D σ H, t' D σ H → t D σ H) : PS X e t' := ⟨fun pins s σ H D I q => h.run pins s σ H D I (w D σ H q)⟩
theorem PSs.imp {X : Cx} {e : List Stmt} {t t' : TS} (h : PSs X e t) (w : ∀ D σ H, t' D σ H → t D σ H) : PSs X e t' := ⟨fun pins s σ H D I q => h.run pins s σ H D I (w D σ H q)⟩

section
variable {W : Wd} {F : Addr → Prop} {M : List Addr} {H : Hp} {mem : Mem} {env : Env} {σ : L2.St}
theorem RdE.go {f : CE} {Qb : KD} {Q : VK} (st : StR W F M H mem) (en : EnvR W F M H env σ) (h : f env mem Qb = true)
    (k : ∀ v H' F' M' d mem', Step F M H F' M' H' → StR W F' M' H' mem' → RepD W F' M' H' d v → Qb d mem' = true → Q v H') : RdE W f σ H Q := ⟨F, M, env, mem, Qb, st, en, h, k⟩
theorem RdT.go {f : CT} {Qb : KB} {Q : Bool → Hp → Prop} (st : StR W F M H mem) (en : EnvR W F M H env σ) (h : f env mem Qb = true)
    (k : ∀ b H' F' M' mem', Step F M H F' M' H' → StR W F' M' H' mem' → Qb b mem' = true → Q b H') : RdT W f σ H Q := ⟨F, M, env, mem, Qb, st, en, h, k⟩
theorem RdA.go {f : CA} {Qb : List D → Mem → Bool} {Q : List V → Hp → Prop} (st : StR W F M H mem) (en : EnvR W F M H env σ) (h : f env mem Qb = true)
    (k : ∀ vs H' F' M' ds mem', Step F M H F' M' H' → StR W F' M' H' mem' → RepDs W F' M' H' ds vs → Qb ds mem' = true → Q vs H') : RdA W f σ H Q := ⟨F, M, env, mem, Qb, st, en, h, k⟩
end

/-! ### names, constants -/
def cVar (i : Nat) : CE := fun env m Q => match env[i]? with
  | some (some d) => Q d m
  | _ => false
def cP (v : P) : CE := fun _ m Q => Q (.p v) m
/-- the result of an operation, a list made open to writing or not -/
def out (mu : Bool) (z : P) (m : Mem) (Q : KD) : Bool := match mu, z with
  | true, .lst xs => Q (.ref m.length) (m ++ [.lst xs])
  | _, z => Q (.p z) m
def c1 (mu : Bool) (f : P → Option P) (a : CE) : CE := fun env m Q => a env m fun x m1 => match look m1 x with
  | some x => (match f x with
    | some z => out mu z m1 Q
    | none => false)
  | none => false
def c2 (mu : Bool) (f : P → P → Option P) (a b : CE) : CE := fun env m Q => a env m fun x m1 => b env m1 fun y m2 => match look m2 x, look m2 y with
  | some x, some y => (match f x y with
    | some z => out mu z m2 Q
    | none => false)
  | _, _ => false
section
variable {W : Wd} {F : Addr → Prop} {M : List Addr} {H H' : Hp} {mem : Mem} {σ : L2.St} {Q : VK}
theorem rd_var {i : Nat} (h : RdE W (cVar i) σ H Q) : tVar i σ H Q := by
  obtain ⟨F, M, env, mem, Qb, st, en, h, k⟩ := h
  unfold cVar at h
  split at h
  · rename_i d e
    obtain ⟨v, h1, h2⟩ := en.at_ i d e
    exact ⟨v, h1, k v H F M d mem Step.refl st h2 h⟩
  · cases h
theorem rd_P {p : P} {v : V} (hv : ∀ F H, RepP W F H p v) (h : RdE W (cP p) σ H Q) : tC v σ H Q := by
  obtain ⟨F, M, env, mem, Qb, st, en, h, k⟩ := h
  exact k v H F M (.p p) mem Step.refl st (hv F H) h
/-- a value's way out: as it is, or as a new cell -/
theorem out_ok {z : P} {u : V} {mu : Bool} {Qb : KD} (st : StR W F M H mem) (e : Same H H') (r : ResP W F H H' z u) (h : out mu z mem Qb = true)
    (k : ∀ v H' F' M' d mem', Step F M H F' M' H' → StR W F' M' H' mem' → RepD W F' M' H' d v → Qb d mem' = true → Q v H') : Q u H' := by
  unfold out at h
  split at h
  · rename_i xs
    obtain ⟨a, vs, e1, n, q, l, rr⟩ := r
    subst e1
    have kpn : Kp F H (fun b => F b ∨ b = a) H' := fun b o q2 n2 => by
      refine ⟨e b o q2, fun z => ?_⟩
      rcases z with z | z
      · exact n2 z
      · subst z
        rw [n] at q2
        cases q2
    obtain ⟨s1, st1⟩ := cell_new (c := .lst xs) st n e (by rw [q]; simp) ⟨vs, l, q, RepPs.kp kpn _ _ rr⟩
    refine k (.ref a) H' _ _ (.ref mem.length) _ s1 st1 ⟨a, ?_, rfl⟩ h
    rw [← st.len, List.getElem?_append_right (Nat.le_refl _), Nat.sub_self] <;> rfl
  · exact k u H' F M (.p z) mem (Step.same e) (st.same e) (r.rep st e) h
/-- what an operation of one value asks of its rule -/
def Ok1 (W : Wd) (f : P → Option P) (r : V → Hp → VK → Prop) : Prop := ∀ (F : Addr → Prop) (M : List Addr) (H : Hp) (mem : Mem) (x z : P) (v : V) (Q : VK), StR W F M H mem → RepL W F H x v → f x = some z →
  (∀ u H', Same H H' → ResP W F H H' z u → Q u H') → r v H Q
def Ok2 (W : Wd) (f : P → P → Option P) (r : R2) : Prop := ∀ (F : Addr → Prop) (M : List Addr) (H : Hp) (mem : Mem) (x y z : P) (v w : V) (Q : VK), StR W F M H mem → RepL W F H x v → RepL W F H y w → f x y = some z →
  (∀ u H', Same H H' → ResP W F H H' z u → Q u H') → r v w H Q
theorem rd_1 {mu : Bool} {f : P → Option P} {fa : CE} {r : V → Hp → VK → Prop} (hf : Ok1 W f r) (h : RdE W (c1 mu f fa) σ H Q) : tUn r (RdE W fa) σ H Q := by
  obtain ⟨F, M, env, mem, Qb, st, en, h, k⟩ := h
  refine RdE.go st en h fun v1 H1 F1 M1 d1 m1 s1 st1 r1 h1 => ?_
  split at h1
  · rename_i x ex
    split at h1
    · rename_i z ez
      exact hf F1 M1 H1 m1 x z v1 Q st1 (look_rl st1 r1 ex) ez fun u H2 e2 rz => out_ok st1 e2 rz h1 fun v H' F' M' d mem' s2 => k v H' F' M' d mem' (s1.trans s2)
    · cases h1
  · cases h1
theorem RdE.at2 {fa fb : CE} {G : D → D → Mem → Bool} {R : V → V → Hp → Prop} (h : ∃ F M env mem, StR W F M H mem ∧ EnvR W F M H env σ ∧ fa env mem (fun x m1 => fb env m1 fun y m2 => G x y m2) = true ∧
    ∀ v w H' F' M' x y mem', Step F M H F' M' H' → StR W F' M' H' mem' → RepD W F' M' H' x v → RepD W F' M' H' y w → G x y mem' = true → R v w H') :
    RdE W fa σ H fun v H1 => RdE W fb σ H1 fun w H2 => R v w H2 := by
  obtain ⟨F, M, env, mem, st, en, h, k⟩ := h
  refine RdE.go st en h fun v1 H1 F1 M1 d1 m1 s1 st1 r1 h1 => ?_
  refine RdE.go st1 (en.mono s1) h1 fun v2 H2 F2 M2 d2 m2 s2 st2 r2 h2 => ?_
  exact k v1 v2 H2 F2 M2 d1 d2 m2 (s1.trans s2) st2 (RepD.mono s2 _ _ r1) r2 h2
theorem rd_2 {mu : Bool} {f : P → P → Option P} {fa fb : CE} {r : R2} (hf : Ok2 W f r) (h : RdE W (c2 mu f fa fb) σ H Q) : tOp r (RdE W fa) (RdE W fb) σ H Q := by
  obtain ⟨F, M, env, mem, Qb, st, en, h, k⟩ := h
  refine RdE.at2 ⟨F, M, env, mem, st, en, h, fun v1 v2 H2 F2 M2 d1 d2 m2 s2 st2 r1 r2 h2 => ?_⟩
  split at h2
  · rename_i x y ex ey
    split at h2
    · rename_i z ez
      exact hf F2 M2 H2 m2 x y z v1 v2 Q st2 (look_rl st2 r1 ex) (look_rl st2 r2 ey) ez fun u H3 e3 rz => out_ok st2 e3 rz h2 fun v H' F' M' d mem' s3 => k v H' F' M' d mem' (s2.trans s3)
    · cases h2
  · cases h2
end
end MP
/-! MPF: new tuples whose very object is known. -/
namespace MP
open PySem PySem.Spec PyProof.Rows L2
def FzT (o : Obj) : Prop := o.dict = none ∧ o.cls = .type "tuple"
/-- a new tuple at p -/
def NewT (H : Hp) (vs : List V) (Q : VK) : Prop := ∀ p o, H p = none → FzT o → Q (.ref p) (upd H p (.frz o (.tup vs)))
def tTupF (t : TA) : TE := fun σ H Q => t σ H fun xs H1 => xs.length ≤ sizeLine ∧ NewT H1 xs Q
section
variable {X : Cx} {es : List Expr} {t : TA} {pos : Pos} {pins : List (Addr × Obj)} {σ : L2.St} {H : Hp} {s : Shared} {Q : VK}
theorem newT_ok {its : List Value} {vs : List V} {h' : Heap} (I : Inv X pins σ H { s with heap := h' }) (r : Vals vs its) (hz : vs.length ≤ sizeLine) (q : NewT H vs Q) :
    EP X pins σ Q (.ref h'.objs.size) { s with heap := h'.push { cls := .type "tuple", data := .seq its.toArray } } := by
  refine ⟨.ref h'.objs.size, _, I.laid (s := { s with heap := h' }) (t' := s.toks) (fun b u e => Heap.get?_push_of_some _ e) (Nat.le_refl _) ?_, rfl, q _ { cls := .type "tuple", data := .seq its.toArray } (I.hok.fresh (Nat.le_refl _)) ⟨rfl, rfl⟩⟩
  exact ⟨Heap.get?_push_size _ rfl, hz, its, r, IsTup.new _ _⟩
theorem pe_tupF {x1} (h : PA X es t) : PE X (.Tuple es x1 pos) (tTupF t) := by
  refine ⟨fun pins s σ H Q I hq => ?_⟩
  refine wpAny_Tuple_spliced (thn (h.run pos pins s σ H _ I hq) fun us s1 ⟨xs, H1, I1, r, z, q⟩ => ⟨by rw [← r.length]; exact z, ?_⟩)
  exact newT_ok (s := s1) I1 r z q
def rCatF (K : PySem.W.Frag) : R2 := fun x y H Q => ∃ a b xs ys, x = .ref a ∧ y = .ref b ∧ SqT K H a xs ∧ SqT K H b ys ∧ xs.length + ys.length ≤ sizeLine ∧
  (xs = [] → Q (.ref b) H) ∧ (xs ≠ [] → ys = [] → Q (.ref a) H) ∧ (xs ≠ [] → ys ≠ [] → NewT H (xs ++ ys) Q)
theorem op_catF : OpR X (binaryOp .Add) (rCatF X.K) := by
  intro pins s σ H x y v u Q I rx ry h
  obtain ⟨a, b, xs, ys, rfl, rfl, ha, hb, hz, q0, q1, q2⟩ := h
  cases rx
  cases ry
  obtain ⟨its, r1, p1, _⟩ := I.tuple ha
  obtain ⟨its2, r2, p2, _⟩ := I.tuple hb
  by_cases hx : xs = []
  · subst hx
    cases r1
    exact cat_tup0 p1 p2 ⟨.ref b, H, I, rfl, q0 rfl⟩
  · refine HT.cat_tup p1 p2 (fun z => hx (r1.nil_iff.mp z)) (fun z => ⟨.ref a, H, I, rfl, q1 hx (r2.nil_iff.mp z)⟩) (fun z => ?_) (by rw [← r1.length, ← r2.length]; exact hz)
    exact newT_ok (s := s) I (r1.append r2) (by rw [List.length_append]; exact hz) (q2 hx (fun w => z (r2.nil_iff.mpr w)))
def rSlF (K : PySem.W.Frag) : V → Option Int → Option Int → Hp → VK → Prop := fun x lo hi H Q => ∃ a xs, x = .ref a ∧ SqT K H a xs ∧
  (HT.sIx xs.length 0 lo = 0 ∧ HT.sIx xs.length xs.length hi = xs.length → Q (.ref a) H) ∧ (¬ (HT.sIx xs.length 0 lo = 0 ∧ HT.sIx xs.length xs.length hi = xs.length) → NewT H (cutV xs lo hi) Q)
theorem sl_tupF : SlR X (rSlF X.K) := by
  intro pins s σ H x v vl vu lo hi sl Q I rx hs pl pu h
  obtain ⟨a, xs, rfl, hx, q1, q2⟩ := h
  cases rx
  obtain ⟨its, r, ht, hz⟩ := I.tuple hx
  have hlen : its.toArray.size = xs.length := by rw [List.size_toArray]; exact r.length.symm
  refine ⟨"tuple", _, PyProof.Rows.slot_tuple_getitem.lookup, ht.typeIs, ?_⟩
  by_cases hw : HT.sIx xs.length 0 lo = 0 ∧ HT.sIx xs.length xs.length hi = xs.length
  · exact getItem_tuple_whole ht hs pl pu (by rw [hlen]; exact hw) ⟨.ref a, H, I, rfl, q1 hw⟩
  · refine HT.getItem_tuple_cut ht hs pl pu (by rw [hlen]; exact hw) ?_ (by rw [hlen]; exact hz)
    rw [hlen]
    exact newT_ok (s := s) I ((r.drop (HT.sIx xs.length 0 lo)).take (HT.sIx xs.length xs.length hi - HT.sIx xs.length 0 lo)) (Nat.le_trans (cutV_length xs lo hi) hz) (q2 hw)
def rTupF (K : PySem.W.Frag) : List V → Hp → VK → Prop := fun xs H Q => ∃ p ys, xs = [.ref p] ∧ ((SqL K H p ys ∧ NewT H ys Q) ∨ (SqT K H p ys ∧ Q (.ref p) H))
theorem call_tupF : CallR X (.type "tuple") (rTupF X.K) := by
  intro pins s σ H xs us Q I r h
  obtain ⟨p, ys, rfl, h⟩ := h
  obtain ⟨u, rfl, rx⟩ := vals1 r
  cases rx
  rcases h with ⟨hq, q⟩ | ⟨hq, q⟩
  · obtain ⟨its, r', pl, hz⟩ := I.list hq
    have hlen := r'.length
    refine call_tuple_list pl.isList (fun h' kp => ?_) (by simp only [List.size_toArray] <;> omega)
    have I1 : Inv X pins σ H { s with heap := h' } := I.kept (t' := s.toks) kp
    exact newT_ok (s := s) I1 r' hz q
  · obtain ⟨its, r', pl, hz⟩ := I.tuple hq
    exact call_tuple_same pl ⟨.ref p, H, I, rfl, q⟩
def rRepF (K : PySem.W.Frag) : R2 := fun x y H Q => ∃ l k xs, x = .ref l ∧ y = .int k ∧ SqT K H l xs ∧ xs ≠ [] ∧ 2 ≤ k ∧ k ≤ 1000 ∧ xs.length ≤ 1000 ∧ NewT H (List.replicate k.toNat xs).flatten Q
theorem op_repF : OpR X (binaryOp .Mult) (rRepF X.K) := by
  intro pins s σ H x y v u Q I rx ry h
  obtain ⟨l, k, xs, rfl, rfl, hT, hne, h1, h2, hz, q⟩ := h
  cases rx
  obtain ⟨t, rfl⟩ := ry
  obtain ⟨its, r, ⟨⟨cls, dd, data, sl⟩, ho, hc, n, hd⟩, hs⟩ := I.tuple hT
  simp only at hc hd
  subst hc hd
  have hle : its.length = xs.length := r.length.symm
  have hn : its ≠ [] := fun e => hne (by
    rw [e] at hle
    exact List.eq_nil_of_length_eq_zero hle.symm)
  have hi : its.toArray.isEmpty = false := by
    cases its with
    | nil => exact absurd rfl hn
    | cons a b => rfl
  have hsz0 : its.toArray.size = xs.length := by rw [List.size_toArray, hle]
  have hm : ((its.toArray.size : Nat) : Int) * k ≤ 1000000 := by
    rw [hsz0]
    have a1 : ((xs.length : Nat) : Int) * k ≤ 1000 * k := Int.mul_le_mul_of_nonneg_right (by omega) (by omega)
    omega
  have flen : (List.replicate k.toNat its).flatten.length ≤ sizeLine := by
    rw [PyProof.Rows.lm_len_rep_flat, hle, sizeLine_eq]
    have a1 : k.toNat * xs.length ≤ 1000 * 1000 := Nat.mul_le_mul (by omega) hz
    omega
  have c0 : (decide (k < -(2 ^ 63)) || decide (k ≥ 2 ^ 63)) = false := by
    rw [decide_eq_false (by omega), decide_eq_false (by omega)] <;> rfl
  have c1 : (its.toArray.isEmpty || k == 1) = false := by
    rw [hi, Bool.false_or]
    exact beq_eq_false_iff_ne.mpr (by omega)
  have c2 : (decide (k ≤ 0) || its.toArray.isEmpty) = false := by
    rw [hi, Bool.or_false]
    exact decide_eq_false (by omega)
  have c4 : Builtin.Tuple.tupleTooMany (((its.toArray.size : Nat) : Int) * k) = false := by
    unfold Builtin.Tuple.tupleTooMany
    rw [sizeLine_eq]
    exact decide_eq_false (by omega)
  refine wpAny_binaryOp_repeat_ref (T := "tuple") (U := "int") (by decide) ⟨_, ho, rfl⟩ (fun s' => typeIs_int s' k t) noFill_tuple_mul F.fills_int_mul F.slot_int_rmul repeat_tuple F.slot_int_index.lookup
    (call_meets F.slot_int_rmul (typeIs_int s k t) F.entry_int_rmul (F.args_int_rmul_2 _ _) (int_rmul_tuple k t l its.toArray n dd sl)
      ⟨ho, rfl, ⟨_, ho, rfl⟩, call_meets F.slot_tuple_mul ⟨_, ho, rfl⟩ F.entry_tuple_mul (F.args_tuple_mul_2 _ _) (tuple_mulW l its.toArray n dd sl k t c0 c1 c2 (by omega) c4 (by rw [size_rep, List.size_toArray]; exact flen)) ⟨ho, ?_⟩⟩)
  rw [size_rep]
  exact newT_ok (s := s) I (r.rep k.toNat) (by rw [PyProof.Rows.lm_len_rep_flat, sizeLine_eq]; have a1 : k.toNat * xs.length ≤ 1000 * 1000 := Nat.mul_le_mul (by omega) hz; omega) q
theorem tup_mul1 (b : Addr) (vals : Array Value) (n : Nat) (dd : Option Addr) (sl : Array (Option Value)) (u : Tok) :
    Meets (Builtin.«tuple.__mul__» ⟨[.ref b, .int 1 u], []⟩) (fun _ R s => s.heap.get? b = some { cls := .type "tuple", dict := dd, data := .seq vals n, slots := sl } ∧ R (.ok (.ret (Value.ref b))) s) :=
  .of_wp fun prog w A R s h => by
    obtain ⟨hp, g, d, tk, os⟩ := s; obtain ⟨hl, h⟩ := h; have f1 := AutoSeq1.idx_int
    have c1 : (vals.isEmpty || ((1 : Int) == 1)) = true := by rw [show ((1 : Int) == 1) = true from rfl, Bool.or_true]
    wp_walk using wpAny_loadPart' hl
    exact ⟨_, rfl, h⟩
def rRepF1 (K : PySem.W.Frag) : R2 := fun x y H Q => ∃ l xs, x = .ref l ∧ y = .int 1 ∧ SqT K H l xs ∧ Q (.ref l) H
theorem op_repF1 : OpR X (binaryOp .Mult) (rRepF1 X.K) := by
  intro pins s σ H x y v u Q I rx ry h
  obtain ⟨l, xs, rfl, rfl, hT, q⟩ := h
  cases rx
  obtain ⟨t, rfl⟩ := ry
  obtain ⟨its, r, ⟨⟨cls, dd, data, sl⟩, ho, hc, n, hd⟩, hs⟩ := I.tuple hT
  have hc : cls = .type "tuple" := hc
  have hd : data = .seq its.toArray n := hd
  subst hc hd
  exact wpAny_binaryOp_repeat_ref (T := "tuple") (U := "int") (by decide) ⟨_, ho, rfl⟩ (fun s' => typeIs_int s' 1 t) noFill_tuple_mul F.fills_int_mul F.slot_int_rmul repeat_tuple F.slot_int_index.lookup (call_meets F.slot_int_rmul (typeIs_int s 1 t) F.entry_int_rmul (F.args_int_rmul_2 _ _) (int_rmul_tuple 1 t l its.toArray n dd sl)
      ⟨ho, rfl, ⟨_, ho, rfl⟩, call_meets F.slot_tuple_mul ⟨_, ho, rfl⟩ F.entry_tuple_mul (F.args_tuple_mul_2 _ _) (tup_mul1 l its.toArray n dd sl t) ⟨ho, ⟨.ref l, H, I, rfl, q⟩⟩⟩)
end
end MP
/-! MPC: tests, argument lists, displays, conditional expressions. -/
namespace MP
open PySem L2

def cTest (a : CE) : CT := fun env m Q => a env m fun x m1 => match x with
  | .p (.bl b) => Q b m1
  | _ => false
def kAnd (a b : CT) : CT := fun env m Q => a env m fun k m1 => if k then b env m1 Q else Q false m1
def kOr (a b : CT) : CT := fun env m Q => a env m fun k m1 => if k then Q true m1 else b env m1 Q
def kNot (a : CT) : CT := fun env m Q => a env m fun k m1 => Q (!k) m1
def kYes : CT := fun _ m Q => Q true m
def cAndV (a b : CE) : CE := fun env m Q => a env m fun x m1 => match x with
  | .p (.bl true) => b env m1 Q
  | .p (.bl false) => Q (.p (.bl false)) m1
  | _ => false
def cOrV (a b : CE) : CE := fun env m Q => a env m fun x m1 => match x with
  | .p (.bl false) => b env m1 Q
  | .p (.bl true) => Q (.p (.bl true)) m1
  | _ => false
def cNotV (a : CE) : CE := fun env m Q => a env m fun x m1 => match x with
  | .p (.bl b) => Q (.p (.bl (!b))) m1
  | _ => false
def cIf (c : CT) (a b : CE) : CE := fun env m Q => c env m fun k m1 => if k then a env m1 Q else b env m1 Q
def aNil : CA := fun _ m Q => Q [] m
def aCons (a : CE) (r : CA) : CA := fun env m Q => a env m fun x m1 => r env m1 fun xs m2 => Q (x :: xs) m2
def pures : List D → Option (List P)
  | [] => some []
  | .p v :: r => match pures r with
    | some q => some (v :: q)
    | none => none
  | _ :: _ => none
def seqOf (m : Mem) (d : D) : Option (List P) := match look m d with
  | some (.lst xs) => some xs
  | some (.tup xs) => some xs
  | _ => none
def aStar (a : CE) (r : CA) : CA := fun env m Q => a env m fun x m1 => match seqOf m1 x with
  | some xs => r env m1 fun ys m2 => Q (xs.map D.p ++ ys) m2
  | none => false
def cTup (a : CA) : CE := fun env m Q => a env m fun xs m1 => if xs.length ≤ 100000 then (match pures xs with
    | some ps => Q (.p (.tup ps)) m1
    | none => Q (.tup xs) m1) else false
def cLst (mu : Bool) (a : CA) : CE := fun env m Q => a env m fun xs m1 => if xs.length ≤ 100000 then (match pures xs with
    | some ps => out mu (.lst ps) m1 Q
    | none => false) else false

section
variable {W : Wd} {F F' : Addr → Prop} {M M' : List Addr} {H H' : Hp} {mem : Mem} {σ : L2.St} {Q : VK} {QT : Bool → Hp → Prop} {QA : List V → Hp → Prop} {fa fb : CE} {ta tb : CT} {ra : CA}
theorem small_line {n : Nat} (h : n ≤ 100000) : n ≤ sizeLine := Nat.le_trans h (by rw [sizeLine_eq]; decide)
theorem rd_test (h : RdT W (cTest fa) σ H QT) : RdE W fa σ H fun x H' => ∃ k, x = .bl k ∧ QT k H' := by
  obtain ⟨F, M, env, mem, Qb, st, en, h, k⟩ := h
  refine RdE.go st en h fun v1 H1 F1 M1 d1 m1 s1 st1 r1 h1 => ?_
  split at h1
  · rename_i b
    exact ⟨b, r1, k b H1 F1 M1 m1 s1 st1 h1⟩
  · cases h1
theorem rd_and (h : RdT W (kAnd ta tb) σ H QT) : tAnd (RdT W ta) (RdT W tb) σ H QT := by
  obtain ⟨F, M, env, mem, Qb, st, en, h, k⟩ := h
  refine RdT.go st en h fun b H1 F1 M1 m1 s1 st1 h1 => ?_
  cases b with
  | true => exact RdT.go st1 (en.mono s1) h1 fun b H2 F2 M2 m2 s2 => k b H2 F2 M2 m2 (s1.trans s2)
  | false => exact k false H1 F1 M1 m1 s1 st1 h1
theorem rd_or (h : RdT W (kOr ta tb) σ H QT) : tOr (RdT W ta) (RdT W tb) σ H QT := by
  obtain ⟨F, M, env, mem, Qb, st, en, h, k⟩ := h
  refine RdT.go st en h fun b H1 F1 M1 m1 s1 st1 h1 => ?_
  cases b with
  | false => exact RdT.go st1 (en.mono s1) h1 fun b H2 F2 M2 m2 s2 => k b H2 F2 M2 m2 (s1.trans s2)
  | true => exact k true H1 F1 M1 m1 s1 st1 h1
theorem rd_not (h : RdT W (kNot ta) σ H QT) : tNot (RdT W ta) σ H QT := by
  obtain ⟨F, M, env, mem, Qb, st, en, h, k⟩ := h
  exact RdT.go st en h fun b H1 F1 M1 m1 s1 st1 h1 => k _ H1 F1 M1 m1 s1 st1 h1
theorem rd_yes (h : RdT W kYes σ H QT) : tYes σ H QT := by
  obtain ⟨F, M, env, mem, Qb, st, en, h, k⟩ := h
  exact k true H F M mem Step.refl st h
theorem rd_andV (h : RdE W (cAndV fa fb) σ H Q) : tAndV (RdE W fa) (RdE W fb) σ H Q := by
  obtain ⟨F, M, env, mem, Qb, st, en, h, k⟩ := h
  refine RdE.go st en h fun v1 H1 F1 M1 d1 m1 s1 st1 r1 h1 => ?_
  split at h1
  · refine ⟨true, r1, ?_⟩
    exact RdE.go st1 (en.mono s1) h1 fun v H2 F2 M2 d m2 s2 => k v H2 F2 M2 d m2 (s1.trans s2)
  · exact ⟨false, r1, k (.bl false) H1 F1 M1 (.p (.bl false)) m1 s1 st1 rfl h1⟩
  · cases h1
theorem rd_orV (h : RdE W (cOrV fa fb) σ H Q) : tOrV (RdE W fa) (RdE W fb) σ H Q := by
  obtain ⟨F, M, env, mem, Qb, st, en, h, k⟩ := h
  refine RdE.go st en h fun v1 H1 F1 M1 d1 m1 s1 st1 r1 h1 => ?_
  split at h1
  · refine ⟨false, r1, ?_⟩
    exact RdE.go st1 (en.mono s1) h1 fun v H2 F2 M2 d m2 s2 => k v H2 F2 M2 d m2 (s1.trans s2)
  · exact ⟨true, r1, k (.bl true) H1 F1 M1 (.p (.bl true)) m1 s1 st1 rfl h1⟩
  · cases h1
theorem rd_notV (h : RdE W (cNotV fa) σ H Q) : tNotV (RdE W fa) σ H Q := by
  obtain ⟨F, M, env, mem, Qb, st, en, h, k⟩ := h
  refine RdE.go st en h fun v1 H1 F1 M1 d1 m1 s1 st1 r1 h1 => ?_
  split at h1
  · rename_i b
    exact ⟨b, r1, k (.bl (!b)) H1 F1 M1 (.p (.bl (!b))) m1 s1 st1 rfl h1⟩
  · cases h1
theorem rd_if (h : RdE W (cIf ta fa fb) σ H Q) : tIf (RdT W ta) (RdE W fa) (RdE W fb) σ H Q := by
  obtain ⟨F, M, env, mem, Qb, st, en, h, k⟩ := h
  refine RdT.go st en h fun b H1 F1 M1 m1 s1 st1 h1 => ?_
  cases b with
  | true => exact RdE.go st1 (en.mono s1) h1 fun v H2 F2 M2 d m2 s2 => k v H2 F2 M2 d m2 (s1.trans s2)
  | false => exact RdE.go st1 (en.mono s1) h1 fun v H2 F2 M2 d m2 s2 => k v H2 F2 M2 d m2 (s1.trans s2)
theorem rd_aNil (h : RdA W aNil σ H QA) : tNil σ H QA := by
  obtain ⟨F, M, env, mem, Qb, st, en, h, k⟩ := h
  exact k [] H F M [] mem Step.refl st rfl h
theorem rd_aCons (h : RdA W (aCons fa ra) σ H QA) : tCons (RdE W fa) (RdA W ra) σ H QA := by
  obtain ⟨F, M, env, mem, Qb, st, en, h, k⟩ := h
  refine RdE.go st en h fun v1 H1 F1 M1 d1 m1 s1 st1 r1 h1 => ?_
  refine RdA.go st1 (en.mono s1) h1 fun vs H2 F2 M2 ds m2 s2 st2 r2 h2 => ?_
  exact k (v1 :: vs) H2 F2 M2 (d1 :: ds) m2 (s1.trans s2) st2 ⟨v1, vs, rfl, RepD.mono s2 _ _ r1, r2⟩ h2
theorem RepL.seq {x : P} {v : V} (h : RepL W F H x v) : ∀ {xs}, (x = .lst xs ∨ x = .tup xs) → ∃ a vs, v = .ref a ∧ (SqT W.K H a vs ∨ SqL W.K H a vs) ∧ vs.length ≤ sizeLine ∧ RepPs W F H xs vs := by
  rintro xs (e | e)
  · subst e
    obtain ⟨a, vs, e1, q, z, r⟩ := h
    exact ⟨a, vs, e1, .inr (SqL.of q), z, r⟩
  · subst e
    obtain ⟨a, vs, e1, ⟨z, q⟩, r⟩ := h
    refine ⟨a, vs, e1, .inl ?_, z, r⟩
    rcases q with ⟨o, q, _⟩ | ⟨o, its, n, q1, q2, q3, q4, q5, q6⟩
    · exact .inl (.inr ⟨o, q⟩)
    · exact .inr ⟨o, its, n, q1, q2, q4, q5, q6⟩
theorem seq_ok {d : D} {v : V} {xs : List P} (st : StR W F M H mem) (r : RepD W F M H d v) (h : seqOf mem d = some xs) : ∃ a vs, v = .ref a ∧ (SqT W.K H a vs ∨ SqL W.K H a vs) ∧ vs.length ≤ sizeLine ∧ RepPs W F H xs vs := by
  unfold seqOf at h
  split at h
  · rename_i ys e
    cases h
    exact (look_rl st r e).seq (.inl rfl)
  · rename_i ys e
    cases h
    exact (look_rl st r e).seq (.inr rfl)
  · cases h
theorem RepPs.ds : ∀ {xs : List P} {vs : List V}, RepPs W F H xs vs → RepDs W F M H (xs.map D.p) vs
  | [], vs, h => h
  | x :: xs, vs, h => by
    obtain ⟨w, r, e, h1, h2⟩ := h
    exact ⟨w, r, e, h1, RepPs.ds h2⟩
theorem RepDs.append : ∀ {xs ys : List D} {vs ws : List V}, RepDs W F M H xs vs → RepDs W F M H ys ws → RepDs W F M H (xs ++ ys) (vs ++ ws)
  | [], ys, vs, ws, h, t => by
    have e : vs = [] := h
    rw [e]
    exact t
  | x :: xs, ys, vs, ws, h, t => by
    obtain ⟨w, r, e, h1, h2⟩ := h
    rw [e]
    exact ⟨w, r ++ ws, rfl, h1, RepDs.append h2 t⟩
theorem RepDs.length : ∀ {p : List D} {v : List V}, RepDs W F M H p v → p.length = v.length
  | [], v, h => by
    have e : v = [] := h
    rw [e] <;> rfl
  | x :: xs, v, h => by
    obtain ⟨w, r, e, h1, h2⟩ := h
    rw [e, List.length_cons, List.length_cons, RepDs.length h2]
theorem pures_ok : ∀ {ds : List D} {ps : List P} {vs : List V}, pures ds = some ps → RepDs W F M H ds vs → RepPs W F H ps vs
  | [], ps, vs, e, h => by
    cases e
    exact h
  | .p v :: r, ps, vs, e, h => by
    dsimp only [pures] at e
    split at e
    · rename_i q eq
      cases e
      obtain ⟨w, rr, e2, h1, h2⟩ := h
      exact ⟨w, rr, e2, h1, pures_ok eq h2⟩
    · cases e
  | .ref _ :: _, ps, vs, e, h => by cases e
  | .tup _ :: _, ps, vs, e, h => by cases e
theorem rd_aStar (h : RdA W (aStar fa ra) σ H QA) : StX.tStar W.K (RdE W fa) (RdA W ra) σ H QA := by
  obtain ⟨F, M, env, mem, Qb, st, en, h, k⟩ := h
  refine RdE.go st en h fun v1 H1 F1 M1 d1 m1 s1 st1 r1 h1 => ?_
  split at h1
  · rename_i xs e
    obtain ⟨a, vs, e1, q, z, r⟩ := seq_ok st1 r1 e
    refine ⟨a, vs, e1, q, ?_⟩
    refine RdA.go st1 (en.mono s1) h1 fun ws H2 F2 M2 ds m2 s2 st2 r2 h2 => ?_
    exact k (vs ++ ws) H2 F2 M2 (xs.map D.p ++ ds) m2 (s1.trans s2) st2 (RepDs.append (RepPs.ds (r.mono s2)) r2) h2
  · cases h1
/-- a new tuple of data -/
theorem newT_of {ps : List P} {vs : List V} {Q : VK} (st : StR W F M H mem) (hz : vs.length ≤ sizeLine) (r : RepPs W F H ps vs) (k : ∀ u H', Same H H' → RepP W F H' (.tup ps) u → Q u H') : NewT H vs Q := by
  intro p o hp ho
  have e := Same.new (o := .frz o (.tup vs)) hp
  exact k _ _ e ⟨p, vs, rfl, ⟨hz, .inl ⟨o, upd_same, ho.1, ho.2, st.fresh hp⟩⟩, RepPs.kp (Kp.same e) _ _ r⟩
theorem rd_tup (h : RdE W (cTup ra) σ H Q) : tTupF (RdA W ra) σ H Q := by
  obtain ⟨F, M, env, mem, Qb, st, en, h, k⟩ := h
  refine RdA.go st en h fun vs H1 F1 M1 ds m1 s1 st1 r1 h1 => ?_
  split at h1
  · rename_i hl
    have hz : vs.length ≤ sizeLine := by rw [← r1.length]; exact small_line hl
    refine ⟨hz, fun p o hp ho => ?_⟩
    have e1 : Same H1 (upd H1 p (.frz o (.tup vs))) := Same.new hp
    split at h1
    · rename_i ps e
      exact k (.ref p) _ F1 M1 (.p (.tup ps)) m1 (s1.trans (Step.same e1)) (st1.same e1) ⟨p, vs, rfl, ⟨hz, .inl ⟨o, upd_same, ho.1, ho.2, st1.fresh hp⟩⟩, RepPs.kp (Kp.same e1) _ _ (pures_ok e r1)⟩ h1
    · exact k (.ref p) _ F1 M1 (.tup ds) m1 (s1.trans (Step.same e1)) (st1.same e1) ⟨p, vs, rfl, .inl ⟨hz, .inl ⟨o, upd_same, ho.1, ho.2, st1.fresh hp⟩⟩, RepDs.mono (Step.same e1) _ _ r1⟩ h1
  · cases h1
theorem rd_lst {mu : Bool} (h : RdE W (cLst mu ra) σ H Q) : tLst (RdA W ra) σ H Q := by
  obtain ⟨F, M, env, mem, Qb, st, en, h, k⟩ := h
  refine RdA.go st en h fun vs H1 F1 M1 ds m1 s1 st1 r1 h1 => ?_
  split at h1
  · rename_i hl
    have hz : vs.length ≤ sizeLine := by rw [← r1.length]; exact small_line hl
    refine ⟨hz, fun p hp => ?_⟩
    have e1 : Same H1 (upd H1 p (.lst vs)) := Same.new hp
    split at h1
    · rename_i ps e
      exact out_ok (z := .lst ps) st1 e1 ⟨p, vs, rfl, hp, upd_same, hz, pures_ok e r1⟩ h1 fun v H' F' M' d mem' s3 => k v H' F' M' d mem' (s1.trans s3)
    · cases h1
  · cases h1
end
end MP
/-! MPO: operations on data, and the rules that they stand for. -/
namespace MP
open PySem L2

/-! ### equality -/
def eqNs : List Nat → List Nat → Bool
  | [], [] => true
  | x :: xs, y :: ys => Nat.beq x y && eqNs xs ys
  | _, _ => false
theorem eqNs_iff : ∀ {xs ys : List Nat}, eqNs xs ys = true ↔ xs = ys
  | [], [] => by simp [eqNs]
  | [], _ :: _ => by simp [eqNs]
  | _ :: _, [] => by simp [eqNs]
  | x :: xs, y :: ys => by
    simp only [eqNs, Bool.and_eq_true, Nat.beq_eq, List.cons.injEq]
    rw [eqNs_iff]
mutual
def py : P → PyData
  | .non => .none
  | .bl b => .bool b
  | .int i => .int i
  | .str s => .str (mkS s)
  | .tup xs => .tuple (pys xs)
  | .lst xs => .list (pys xs)
  | .dct _ _ => .none
  | .ins _ _ => .none
def pys : List P → List PyData
  | [] => []
  | x :: xs => py x :: pys xs
end
def b2 (b : Bool) : Int := if b then 1 else 0
mutual
def eqP : P → P → Bool
  | .non, y => match y with
    | .non => true
    | _ => false
  | .bl a, y => match y with
    | .bl b => a == b
    | .int j => decide ((if a then 1 else 0) = j)
    | _ => false
  | .int i, y => match y with
    | .int j => decide (i = j)
    | .bl b => decide (i = (if b then 1 else 0))
    | _ => false
  | .str s, y => match y with
    | .str t => eqNs s t
    | _ => false
  | .tup xs, y => match y with
    | .tup ys => eqPs xs ys
    | _ => false
  | .lst xs, y => match y with
    | .lst ys => eqPs xs ys
    | _ => false
  | .dct _ _, _ => false
  | .ins _ _, _ => false
def eqPs : List P → List P → Bool
  | [], ys => match ys with
    | [] => true
    | _ => false
  | x :: xs, ys => match ys with
    | y :: ys => eqP x y && eqPs xs ys
    | _ => false
end
/-- plain data, not too deep -/
def okN : Nat → P → Bool
  | _, .non => true
  | _, .bl _ => true
  | _, .int _ => true
  | _, .str _ => true
  | n + 1, .tup xs => xs.all (okN n)
  | n + 1, .lst xs => xs.all (okN n)
  | _, _ => false
theorem str_eq {s t : List Nat} : (mkS s == mkS t) = eqNs s t := by
  by_cases h : s = t
  · subst h
    rw [eqNs_iff.mpr rfl]
    simp
  · have h1 : eqNs s t = false := by
      cases q : eqNs s t with
      | true => exact absurd (eqNs_iff.mp q) h
      | false => rfl
    rw [h1]
    have : mkS s ≠ mkS t := fun e => h (by
      have e1 : (⟨s⟩ : Array Nat) = ⟨t⟩ := Str.mk.inj e
      exact Array.mk.inj e1)
    exact beq_eq_false_iff_ne.mpr this
mutual
theorem eqP_ok : ∀ (n m : Nat) (x y : P), okN n x = true → okN m y = true → eqP x y = PyData.eqv (py x) (py y)
  | n, m, .non, y, hx, hy => by
    cases y <;> first
      | rfl
      | ((cases m <;> cases hy); done)
  | n, m, .bl a, y, hx, hy => by
    cases y <;> first
      | rfl
      | ((cases m <;> cases hy); done)
      | (simp [eqP, py, PyData.eqv]; done)
  | n, m, .int i, y, hx, hy => by
    cases y <;> first
      | rfl
      | ((cases m <;> cases hy); done)
      | (simp [eqP, py, PyData.eqv]; done)
  | n, m, .str s, y, hx, hy => by
    cases y <;> first
      | rfl
      | ((cases m <;> cases hy); done)
      | (show eqNs _ _ = (mkS _ == mkS _); rw [str_eq])
  | n, m, .tup xs, y, hx, hy => by
    cases n with
    | zero => cases hx
    | succ n =>
      cases y <;> first
        | rfl
        | ((cases m <;> cases hy); done)
        | skip
      rename_i ys
      cases m with
      | zero => cases hy
      | succ m => exact eqPs_ok n m xs ys (List.all_eq_true.mp hx) (List.all_eq_true.mp hy)
  | n, m, .lst xs, y, hx, hy => by
    cases n with
    | zero => cases hx
    | succ n =>
      cases y <;> first
        | rfl
        | ((cases m <;> cases hy); done)
        | skip
      rename_i ys
      cases m with
      | zero => cases hy
      | succ m => exact eqPs_ok n m xs ys (List.all_eq_true.mp hx) (List.all_eq_true.mp hy)
  | n, m, .dct _ _, y, hx, hy => by cases n <;> cases hx
  | n, m, .ins _ _, y, hx, hy => by cases n <;> cases hx
theorem eqPs_ok : ∀ (n m : Nat) (xs ys : List P), (∀ x ∈ xs, okN n x = true) → (∀ y ∈ ys, okN m y = true) → eqPs xs ys = PyData.eqvAll (pys xs) (pys ys)
  | n, m, [], ys, hx, hy => by cases ys <;> rfl
  | n, m, x :: xs, ys, hx, hy => by
    cases ys with
    | nil => rfl
    | cons y ys =>
      show (eqP x y && eqPs xs ys) = (PyData.eqv (py x) (py y) && PyData.eqvAll (pys xs) (pys ys))
      rw [eqP_ok n m x y (hx x List.mem_cons_self) (hy y List.mem_cons_self), eqPs_ok n m xs ys (fun z hz => hx z (List.mem_cons_of_mem _ hz)) (fun z hz => hy z (List.mem_cons_of_mem _ hz))]
end
section
variable {W : Wd} {F : Addr → Prop} {M : List Addr} {H H' : Hp} {mem : Mem}
theorem TupAt.sq {a : Addr} {vs : List V} (h : TupAt W F H a vs) : SqT W.K H a vs := by
  rcases h.2 with ⟨o, q, _⟩ | ⟨o, its, n, q1, q2, q3, q4, q5, q6⟩
  · exact .inl (.inr ⟨o, q⟩)
  · exact .inr ⟨o, its, n, q1, q2, q4, q5, q6⟩
theorem TupW.sq {a : Addr} {vs : List V} (h : TupW W F H a vs) : SqT W.K H a vs := by
  rcases h with h | ⟨h, _⟩
  · exact h.sq
  · exact SqT.of h
theorem strOk_of {s : List Nat} (h : okStr s = true) : PyData.strOk (mkS s) = true := by
  unfold okStr at h
  rw [Bool.and_eq_true] at h
  unfold PyData.strOk
  show Array.all (⟨s⟩ : Array Nat) (fun c => decide (c < 0x110000)) = true
  have := h.1
  simpa using this
mutual
theorem dp_of : ∀ (n : Nat) (x : P) (v : V), okN n x = true → RepP W F H x v → Dp W.K H v (py x)
  | n, .non, v, h, r => by cases r; exact .non
  | n, .bl b, v, h, r => by cases r; exact .bl b
  | n, .int i, v, h, r => by cases r; exact .int i
  | n, .str s, v, h, r => by
    obtain ⟨e, _⟩ := r
    subst e
    exact .str _
  | 0, .tup xs, v, h, r => by cases h
  | n + 1, .tup xs, v, h, r => by
    obtain ⟨a, vs, e, q, r⟩ := r
    subst e
    exact .tup q.sq (dps_of n xs vs (List.all_eq_true.mp h) r)
  | 0, .lst xs, v, h, r => by cases h
  | n + 1, .lst xs, v, h, r => by
    obtain ⟨a, vs, e, ⟨z, q, _⟩, r⟩ := r
    subst e
    exact .lst (SqL.of q) (dps_of n xs vs (List.all_eq_true.mp h) r)
  | n, .dct _ _, v, h, r => by cases n <;> cases h
  | n, .ins _ _, v, h, r => by cases n <;> cases h
theorem dps_of : ∀ (n : Nat) (xs : List P) (vs : List V), (∀ x ∈ xs, okN n x = true) → RepPs W F H xs vs → DpAll W.K H vs (pys xs)
  | n, [], vs, h, r => by
    have e : vs = [] := r
    subst e
    exact .nil
  | n, x :: xs, vs, h, r => by
    obtain ⟨w, rr, e, h1, h2⟩ := r
    subst e
    exact .cons (dp_of n x w (h x List.mem_cons_self) h1) (dps_of n xs rr (fun z hz => h z (List.mem_cons_of_mem _ hz)) h2)
end
mutual
theorem lay_of : ∀ (n : Nat) (x : P) (v : V), okN n x = true → RepP W F H x v → (py x).canLay0 = true ∧ (py x).depth ≤ n
  | n, .non, v, h, r => ⟨rfl, Nat.zero_le _⟩
  | n, .bl b, v, h, r => ⟨rfl, Nat.zero_le _⟩
  | n, .int i, v, h, r => ⟨rfl, Nat.zero_le _⟩
  | n, .str s, v, h, r => ⟨by
      show PyData.strOk (mkS s) = true
      exact strOk_of r.2, Nat.zero_le _⟩
  | 0, .tup xs, v, h, r => by cases h
  | n + 1, .tup xs, v, h, r => by
    obtain ⟨a, vs, e, q, r⟩ := r
    obtain ⟨h1, h2⟩ := lays_of n xs vs (List.all_eq_true.mp h) r
    exact ⟨h1, Nat.succ_le_succ h2⟩
  | 0, .lst xs, v, h, r => by cases h
  | n + 1, .lst xs, v, h, r => by
    obtain ⟨a, vs, e, ⟨z, q, _⟩, r⟩ := r
    obtain ⟨h1, h2⟩ := lays_of n xs vs (List.all_eq_true.mp h) r
    exact ⟨h1, Nat.succ_le_succ h2⟩
  | n, .dct _ _, v, h, r => by cases n <;> cases h
  | n, .ins _ _, v, h, r => by cases n <;> cases h
theorem lays_of : ∀ (n : Nat) (xs : List P) (vs : List V), (∀ x ∈ xs, okN n x = true) → RepPs W F H xs vs → PyData.canLayAll0 (pys xs) = true ∧ PyData.depthAll (pys xs) ≤ n
  | n, [], vs, h, r => ⟨rfl, Nat.zero_le _⟩
  | n, x :: xs, vs, h, r => by
    obtain ⟨w, rr, e, h1, h2⟩ := r
    obtain ⟨a1, a2⟩ := lay_of n x w (h x List.mem_cons_self) h1
    obtain ⟨b1, b2⟩ := lays_of n xs rr (fun z hz => h z (List.mem_cons_of_mem _ hz)) h2
    refine ⟨?_, ?_⟩
    · show ((py x).canLay0 && PyData.canLayAll0 (pys xs)) = true
      rw [a1, b1] <;> rfl
    · show max (py x).depth (PyData.depthAll (pys xs)) ≤ n
      exact Nat.max_le.mpr ⟨a2, b2⟩
end
/-- a value that is looked into, as the library's data -/
theorem dpl_of {n : Nat} {x : P} {v : V} (hn : n ≤ 64) (h : okN n x = true) (r : RepL W F H x v) : Dp W.K H v (py x) ∧ SeqAt.shaped (py x) = true := by
  have sh : ∀ {d : PyData}, d.canLay0 = true → d.depth ≤ n → SeqAt.shaped d = true := fun {d} h1 h2 => by
    unfold SeqAt.shaped
    rw [h1, decide_eq_true (Nat.le_trans h2 hn)] <;> rfl
  cases x with
  | lst xs =>
    obtain ⟨a, vs, e, q, z, r⟩ := r
    subst e
    cases n with
    | zero => cases h
    | succ n =>
      obtain ⟨h1, h2⟩ := lays_of n xs vs (List.all_eq_true.mp h) r
      exact ⟨.lst (SqL.of q) (dps_of n xs vs (List.all_eq_true.mp h) r), sh h1 (Nat.succ_le_succ h2)⟩
  | dct _ _ => cases n <;> cases h
  | non => exact ⟨dp_of (W := W) (F := F) (H := H) n _ v h r, sh (lay_of (W := W) (F := F) (H := H) n _ v h r).1 (lay_of (W := W) (F := F) (H := H) n _ v h r).2⟩
  | bl b => exact ⟨dp_of (W := W) (F := F) (H := H) n _ v h r, sh (lay_of (W := W) (F := F) (H := H) n _ v h r).1 (lay_of (W := W) (F := F) (H := H) n _ v h r).2⟩
  | int i => exact ⟨dp_of (W := W) (F := F) (H := H) n _ v h r, sh (lay_of (W := W) (F := F) (H := H) n _ v h r).1 (lay_of (W := W) (F := F) (H := H) n _ v h r).2⟩
  | str s => exact ⟨dp_of (W := W) (F := F) (H := H) n _ v h r, sh (lay_of (W := W) (F := F) (H := H) n _ v h r).1 (lay_of (W := W) (F := F) (H := H) n _ v h r).2⟩
  | tup xs => exact ⟨dp_of (W := W) (F := F) (H := H) n _ v h r, sh (lay_of (W := W) (F := F) (H := H) n _ v h r).1 (lay_of (W := W) (F := F) (H := H) n _ v h r).2⟩
  | ins _ _ => cases n <;> cases h
end
def pEq (neg : Bool) (x y : P) : Option P := if okN 60 x && okN 60 y then some (.bl (neg != eqP x y)) else none
section
variable {W : Wd}
theorem ok_eq : Ok2 W (pEq false) (rEqD W.K) := by
  intro F M H mem x y z v w Q st rx ry h k
  unfold pEq at h
  split at h
  · rename_i hb
    cases h
    rw [Bool.and_eq_true] at hb
    obtain ⟨d1, s1⟩ := dpl_of (by decide) hb.1 rx
    obtain ⟨d2, s2⟩ := dpl_of (by decide) hb.2 ry
    refine ⟨_, _, d1, d2, s1, s2, ?_⟩
    rw [← eqP_ok 60 60 x y hb.1 hb.2]
    exact k _ H (Same.refl H) (by show _ = V.bl (false != eqP x y); rw [Bool.false_bne])
  · cases h
theorem ok_ne : Ok2 W (pEq true) (rNeD W.K) := by
  intro F M H mem x y z v w Q st rx ry h k
  unfold pEq at h
  split at h
  · rename_i hb
    cases h
    rw [Bool.and_eq_true] at hb
    obtain ⟨d1, s1⟩ := dpl_of (by decide) hb.1 rx
    obtain ⟨d2, s2⟩ := dpl_of (by decide) hb.2 ry
    refine ⟨_, _, d1, d2, s1, s2, ?_⟩
    rw [← eqP_ok 60 60 x y hb.1 hb.2]
    exact k _ H (Same.refl H) (by show _ = V.bl (true != eqP x y); rw [Bool.true_bne])
  · cases h
end
end MP
/-! MPQ: more operations. -/
namespace MP
open PySem L2

/-! ### arithmetic -/
def pAdd : P → P → Option P
  | .int i, .int j => some (.int (i + j))
  | .str s, .str t => if okStr (s ++ t) then some (.str (s ++ t)) else none
  | .lst xs, .lst ys => if xs.length + ys.length ≤ 100000 then some (.lst (xs ++ ys)) else none
  | .tup xs, .tup ys => if xs.length + ys.length ≤ 100000 then some (.tup (xs ++ ys)) else none
  | _, _ => none
def rAddS : R2 := fun x y H Q => ∃ i j, x = .str i ∧ y = .str j ∧ i.length + j.length ≤ sizeLine ∧ Q (.str (i ++ j)) H
def rAddX (K : PySem.W.Frag) : R2 := fun x y H Q => rI0 (fun i j => .int (i + j)) x y H Q ∨ rAddS x y H Q ∨ rCat x y H Q ∨ rCatF K x y H Q
theorem op_addX {X : Cx} : OpR X (binaryOp .Add) (rAddX X.K) := op_add.or (op_add_str.or (op_cat.or op_catF))
theorem okStr_len {s : List Nat} (h : okStr s = true) : s.length ≤ 1000 := by
  unfold okStr at h
  rw [Bool.and_eq_true] at h
  exact of_decide_eq_true h.2
section
variable {W : Wd}
theorem ok_add : Ok2 W pAdd (rAddX W.K) := by
  intro F M H mem x y z v w Q st rx ry h k
  unfold pAdd at h
  split at h
  · rename_i i j
    cases h
    exact .inl ⟨i, j, rx, ry, k _ H (Same.refl H) rfl⟩
  · rename_i s t
    split at h
    · rename_i ho
      cases h
      obtain ⟨e1, o1⟩ := rx
      obtain ⟨e2, o2⟩ := ry
      refine .inr (.inl ⟨_, _, e1, e2, ?_, k _ H (Same.refl H) ⟨?_, ho⟩⟩)
      · have h1 := okStr_len o1
        have h2 := okStr_len o2
        show s.length + t.length ≤ sizeLine
        exact small_line (by omega)
      · show V.str (mkS s ++ mkS t) = V.str (mkS (s ++ t))
        congr 1
        show Str.mk ((⟨s⟩ : Array Nat) ++ (⟨t⟩ : Array Nat)) = Str.mk ⟨s ++ t⟩
        congr 1
        exact Array.ext' (by simp)
    · cases h
  · rename_i xs ys
    split at h
    · rename_i hl
      cases h
      obtain ⟨a, vs, e1, q1, z1, r1⟩ := rx
      obtain ⟨b, ws, e2, q2, z2, r2⟩ := ry
      have hz : vs.length + ws.length ≤ sizeLine := by rw [← r1.length, ← r2.length]; exact small_line hl
      refine .inr (.inr (.inl ⟨a, b, vs, ws, e1, e2, q1, q2, hz, fun p hp => k _ _ (Same.new hp) ⟨p, vs ++ ws, rfl, hp, upd_same, by rw [List.length_append]; exact hz, r1.append r2⟩⟩))
    · cases h
  · rename_i xs ys
    split at h
    · rename_i hl
      cases h
      obtain ⟨a, vs, e1, q1, r1⟩ := rx
      obtain ⟨b, ws, e2, q2, r2⟩ := ry
      have hz : vs.length + ws.length ≤ sizeLine := by rw [← r1.length, ← r2.length]; exact small_line hl
      refine .inr (.inr (.inr ⟨a, b, vs, ws, e1, e2, q1.sq, q2.sq, hz, fun e => ?_, fun n1 e => ?_, fun n1 n2 => ?_⟩))
      · have ex : xs = [] := by
          cases xs with
          | nil => rfl
          | cons x r => have := r1.length; rw [e] at this; cases this
        subst ex
        exact k _ H (Same.refl H) ⟨b, ws, rfl, q2, r2⟩
      · have ey : ys = [] := by
          cases ys with
          | nil => rfl
          | cons x r => have := r2.length; rw [e] at this; cases this
        subst ey
        rw [List.append_nil] at k
        exact k _ H (Same.refl H) ⟨a, vs, rfl, q1, r1⟩
      · exact newT_of st (by rw [List.length_append]; exact hz) (r1.append r2) k
    · cases h
  · cases h
end
/-- an operation on two ints -/
def pI (c : Int → Int → Bool) (g : Int → Int → P) : P → P → Option P
  | .int i, .int j => if c i j then some (g i j) else none
  | _, _ => none
def pI0 (g : Int → Int → P) : P → P → Option P
  | .int i, .int j => some (g i j)
  | _, _ => none
section
variable {W : Wd}
theorem ok_I0 {g : Int → Int → P} {gv : Int → Int → V} (hg : ∀ F H H' i j, ResP W F H H' (g i j) (gv i j)) : Ok2 W (pI0 g) (rI0 gv) := by
  intro F M H mem x y z v w Q st rx ry h k
  unfold pI0 at h
  split at h
  · rename_i i j
    cases h
    exact ⟨i, j, rx, ry, k _ H (Same.refl H) (hg F H H i j)⟩
  · cases h
theorem ok_I {c : Int → Int → Bool} {C : Int → Int → Prop} {g : Int → Int → P} {gv : Int → Int → V} (hc : ∀ i j, c i j = true → C i j) (hg : ∀ F H H' i j, ResP W F H H' (g i j) (gv i j)) : Ok2 W (pI c g) (rI C gv) := by
  intro F M H mem x y z v w Q st rx ry h k
  unfold pI at h
  split at h
  · rename_i i j
    split at h
    · rename_i hb
      cases h
      exact ⟨i, j, rx, ry, hc i j hb, k _ H (Same.refl H) (hg F H H i j)⟩
    · cases h
  · cases h
end
def pSub := pI0 fun i j => .int (i - j)
def pLt := pI0 fun i j => .bl (decide (i < j))
def pLe := pI0 fun i j => .bl (decide (i ≤ j))
def pGt := pI0 fun i j => .bl (decide (j < i))
def pGe := pI0 fun i j => .bl (decide (j ≤ i))
def bMul (i j : Int) : Bool := Nat.blt i.natAbs 18446744073709551616 || Nat.blt j.natAbs 18446744073709551616
theorem bMul_ok {i j : Int} (h : bMul i j = true) : CMul i j := by
  unfold bMul at h
  rw [Bool.or_eq_true, Nat.blt_eq, Nat.blt_eq] at h
  unfold CMul
  omega
def bDiv (_ j : Int) : Bool := decide (0 < j) && decide (j.natAbs.log2 < 9000)
def bPow (i j : Int) : Bool := decide (0 ≤ j) && decide (j ≤ 1000000) && decide (i.natAbs < 2 ^ 64)
def pFdiv := pI bDiv fun i j => .int (i / j)
def pMod := pI (fun _ j => decide (0 < j)) fun i j => .int (i % j)
def pPow := pI bPow fun i j => .int (i ^ j.toNat)
def repL {α : Type} : Nat → List α → List α
  | 0, _ => []
  | n + 1, xs => xs ++ repL n xs
def pMul : P → P → Option P
  | .int i, .int j => if bMul i j then some (.int (i * j)) else none
  | .lst xs, .int k => if decide (0 ≤ k) && decide (k ≤ 1000) && decide (xs.length ≤ 100) then some (.lst (repL k.toNat xs)) else none
  | .tup xs, .int k => if k = 1 then some (.tup xs) else if decide (2 ≤ k) && decide (k ≤ 1000) && decide (xs.length ≤ 100) && !xs.isEmpty then some (.tup (repL k.toNat xs)) else none
  | _, _ => none
def rMulX (K : PySem.W.Frag) : R2 := fun x y H Q => rI CMul (fun i j => .int (i * j)) x y H Q ∨ rRep x y H Q ∨ rRepF K x y H Q ∨ rRepF1 K x y H Q
theorem op_mulX {X : Cx} : OpR X (binaryOp .Mult) (rMulX X.K) := op_mul.or (op_rep.or (op_repF.or op_repF1))
theorem repL_flat {α : Type} : ∀ (n : Nat) (xs : List α), (List.replicate n xs).flatten = repL n xs
  | 0, xs => rfl
  | n + 1, xs => by
    rw [List.replicate_succ, List.flatten_cons, repL_flat n xs] <;> rfl
theorem repL_len {α : Type} : ∀ (n : Nat) (xs : List α), (repL n xs).length = n * xs.length
  | 0, xs => by rw [Nat.zero_mul] <;> rfl
  | n + 1, xs => by
    show (xs ++ repL n xs).length = _
    rw [List.length_append, repL_len n xs, Nat.succ_mul, Nat.add_comm]
section
variable {W : Wd} {F : Addr → Prop} {H : Hp}
theorem RepPs.repL : ∀ (n : Nat) {xs : List P} {vs : List V}, RepPs W F H xs vs → RepPs W F H (MP.repL n xs) (MP.repL n vs)
  | 0, _, _, _ => rfl
  | n + 1, _, _, h => h.append (RepPs.repL n h)
theorem ok_mul : Ok2 W pMul (rMulX W.K) := by
  intro F M H mem x y z v w Q st rx ry h k
  unfold pMul at h
  split at h
  · rename_i i j
    split at h
    · rename_i hb
      cases h
      exact .inl ⟨i, j, rx, ry, bMul_ok hb, k _ H (Same.refl H) rfl⟩
    · cases h
  · rename_i xs n
    split at h
    · rename_i hb
      cases h
      simp only [Bool.and_eq_true, decide_eq_true_eq] at hb
      obtain ⟨⟨h0, h1⟩, h2⟩ := hb
      obtain ⟨a, vs, e1, q1, z1, r1⟩ := rx
      have hl := r1.length
      have hz : vs.length * n.toNat ≤ sizeLine := by
        have a1 : n.toNat ≤ 1000 := by omega
        have a2 : vs.length ≤ 100 := by omega
        exact small_line (Nat.mul_le_mul a2 a1)
      refine .inr (.inl ⟨a, n, vs, e1, ry, q1, by omega, by omega, hz, fun p hp => ?_⟩)
      rw [repL_flat]
      exact k _ _ (Same.new hp) ⟨p, MP.repL n.toNat vs, rfl, hp, upd_same, by rw [repL_len, Nat.mul_comm]; exact hz, RepPs.repL _ r1⟩
    · cases h
  · rename_i xs n
    split at h
    · rename_i hn
      subst hn
      cases h
      obtain ⟨a, vs, e1, q1, r1⟩ := rx
      exact .inr (.inr (.inr ⟨a, vs, e1, ry, q1.sq, k _ H (Same.refl H) ⟨a, vs, rfl, q1, r1⟩⟩))
    split at h
    · rename_i hb
      cases h
      simp only [Bool.and_eq_true, decide_eq_true_eq, Bool.not_eq_true', List.isEmpty_eq_false_iff] at hb
      obtain ⟨⟨⟨h0, h1⟩, h2⟩, h3⟩ := hb
      obtain ⟨a, vs, e1, q1, r1⟩ := rx
      have hl := r1.length
      have hz : n.toNat * vs.length ≤ sizeLine := by
        have a1 : n.toNat ≤ 1000 := by omega
        have a2 : vs.length ≤ 100 := by omega
        exact small_line (Nat.mul_le_mul a1 a2)
      refine .inr (.inr (.inl ⟨a, n, vs, e1, ry, q1.sq, fun e => h3 (by
        cases xs with
        | nil => rfl
        | cons x r => rw [e] at hl; cases hl), h0, h1, by omega, ?_⟩))
      rw [repL_flat]
      exact newT_of st (by rw [repL_len]; exact hz) (RepPs.repL _ r1) k
    · cases h
  · cases h
theorem ok_sub : Ok2 W pSub (rI0 fun i j => .int (i - j)) := ok_I0 fun _ _ _ _ _ => rfl
theorem ok_lt : Ok2 W pLt (rI0 fun i j => .bl (decide (i < j))) := ok_I0 fun _ _ _ _ _ => rfl
theorem ok_le : Ok2 W pLe (rI0 fun i j => .bl (decide (i ≤ j))) := ok_I0 fun _ _ _ _ _ => rfl
theorem ok_gt : Ok2 W pGt (rI0 fun i j => .bl (decide (j < i))) := ok_I0 fun _ _ _ _ _ => rfl
theorem ok_ge : Ok2 W pGe (rI0 fun i j => .bl (decide (j ≤ i))) := ok_I0 fun _ _ _ _ _ => rfl
theorem ok_fdiv : Ok2 W pFdiv (rI CDivW fun i j => .int (i / j)) := ok_I (fun i j h => by
  unfold bDiv at h
  rw [Bool.and_eq_true] at h
  exact ⟨of_decide_eq_true h.1, of_decide_eq_true h.2⟩) fun _ _ _ _ _ => rfl
theorem ok_mod : Ok2 W pMod (rI (fun _ j => 0 < j) fun i j => .int (i % j)) := ok_I (fun i j h => of_decide_eq_true h) fun _ _ _ _ _ => rfl
theorem ok_pow : Ok2 W pPow (rI CPow fun i j => .int (i ^ j.toNat)) := ok_I (fun i j h => by
  unfold bPow at h
  simp only [Bool.and_eq_true, decide_eq_true_eq] at h
  exact ⟨h.1.1, h.1.2, h.2⟩) fun _ _ _ _ _ => rfl
end
/-! ### is None -/
def pIsN (neg : Bool) (x y : P) : Option P := match y with
  | .non => (match x with
    | .non => some (.bl (!neg))
    | _ => some (.bl neg))
  | _ => none
section
variable {W : Wd} {F : Addr → Prop} {H : Hp}
theorem RepL.non_iff {x : P} {v : V} (h : RepL W F H x v) : v = .non ↔ x = .non := by
  cases x with
  | non => exact ⟨fun _ => rfl, fun _ => h⟩
  | bl b => exact ⟨fun e => (by rw [show v = V.bl b from h] at e; cases e), fun e => by cases e⟩
  | int b => exact ⟨fun e => (by rw [show v = V.int b from h] at e; cases e), fun e => by cases e⟩
  | str b => exact ⟨fun e => (by rw [h.1] at e; cases e), fun e => by cases e⟩
  | tup xs => obtain ⟨a, vs, e1, _⟩ := h; exact ⟨fun e => (by rw [e1] at e; cases e), fun e => by cases e⟩
  | lst xs => obtain ⟨a, vs, e1, _⟩ := h; exact ⟨fun e => (by rw [e1] at e; cases e), fun e => by cases e⟩
  | dct t xs => obtain ⟨a, vs, e1, _⟩ := h; exact ⟨fun e => (by rw [e1] at e; cases e), fun e => by cases e⟩
  | ins t xs =>
    have : ∃ a, v = .ref a := by
      rcases h with ⟨_, a, _, e1, _⟩ | ⟨_, a, _, _, _, _, e1, _⟩ <;> exact ⟨a, e1⟩
    obtain ⟨a, e1⟩ := this; exact ⟨fun e => (by rw [e1] at e; cases e), fun e => by cases e⟩
theorem ok_isN : Ok2 W (pIsN false) (fun x y H Q => y = .non ∧ Q (.bl (decide (x = .non))) H) := by
  intro F M H mem x y z v w Q st rx ry h k
  unfold pIsN at h
  split at h
  · refine ⟨ry, ?_⟩
    split at h
    · cases h
      rw [decide_eq_true (show v = V.non from rx)]
      exact k _ H (Same.refl H) rfl
    · rename_i hn
      cases h
      rw [decide_eq_false (fun e => hn (rx.non_iff.mp e))]
      exact k _ H (Same.refl H) rfl
  · cases h
theorem ok_notN : Ok2 W (pIsN true) (fun x y H Q => y = .non ∧ Q (.bl (!decide (x = .non))) H) := by
  intro F M H mem x y z v w Q st rx ry h k
  unfold pIsN at h
  split at h
  · refine ⟨ry, ?_⟩
    split at h
    · cases h
      rw [decide_eq_true (show v = V.non from rx)]
      exact k _ H (Same.refl H) rfl
    · rename_i hn
      cases h
      rw [decide_eq_false (fun e => hn (rx.non_iff.mp e))]
      exact k _ H (Same.refl H) rfl
  · cases h
end
/-! ### in -/
def inP (x : P) : List P → Bool
  | [] => false
  | y :: r => eqP y x || inP x r
def pIn (neg : Bool) (x y : P) : Option P := match y with
  | .lst ys => if okN 60 x && okN 60 (.lst ys) then some (.bl (neg != inP x ys)) else none
  | .tup ys => if okN 60 x && okN 60 (.tup ys) then some (.bl (neg != inP x ys)) else none
  | _ => none
def rInX (neg : Bool) (K : PySem.W.Frag) : R2 := fun x y H Q => ∃ d ds, Dp K H x d ∧ (Dp K H y (.list ds) ∧ SeqAt.shaped (.list ds) = true ∨ Dp K H y (.tuple ds) ∧ SeqAt.shaped (.tuple ds) = true) ∧ SeqAt.shaped d = true ∧ Q (.bl (neg != ds.any fun z => PyData.eqv z d)) H
section
variable {X : Cx}
theorem op_inX (hu : X.A.units + 65 < cLine) : OpR X (compareOp .In) (rInX false X.K) := by
  intro pins s σ H x y v u Q I rx ry h
  obtain ⟨d, ds, hd, he, sd, q⟩ := h
  rw [Bool.false_bne] at q
  obtain ⟨as, r1⟩ := Dp.reads I d x v hd rx
  rcases he with ⟨he, se⟩ | ⟨he, se⟩
  · obtain ⟨bs, r2⟩ := Dp.reads I (.list ds) y u he ry
    exact SeqAt.in_list_reads r2 r1 (SeqAt.canLay_of_shaped se) (SeqAt.canLay_of_shaped sd) (PyProof.Rows.room_in_shaped sd hu) ⟨.bl _, H, I, rfl, q⟩
  · obtain ⟨bs, r2⟩ := Dp.reads I (.tuple ds) y u he ry
    exact SeqAt.in_tuple_reads r2 r1 (SeqAt.canLay_of_shaped se) (SeqAt.canLay_of_shaped sd) (PyProof.Rows.room_in_shaped sd hu) ⟨.bl _, H, I, rfl, q⟩
theorem op_notInX (hu : X.A.units + 65 < cLine) : OpR X (compareOp .NotIn) (rInX true X.K) := by
  intro pins s σ H x y v u Q I rx ry h
  obtain ⟨d, ds, hd, he, sd, q⟩ := h
  rw [Bool.true_bne] at q
  obtain ⟨as, r1⟩ := Dp.reads I d x v hd rx
  rcases he with ⟨he, se⟩ | ⟨he, se⟩
  · obtain ⟨bs, r2⟩ := Dp.reads I (.list ds) y u he ry
    exact SeqAt.notIn_list_reads r2 r1 (SeqAt.canLay_of_shaped se) (SeqAt.canLay_of_shaped sd) (PyProof.Rows.room_in_shaped sd hu) ⟨.bl _, H, I, rfl, q⟩
  · obtain ⟨bs, r2⟩ := Dp.reads I (.tuple ds) y u he ry
    exact SeqAt.notIn_tuple_reads r2 r1 (SeqAt.canLay_of_shaped se) (SeqAt.canLay_of_shaped sd) (PyProof.Rows.room_in_shaped sd hu) ⟨.bl _, H, I, rfl, q⟩
end
theorem inP_any : ∀ (n m : Nat) (x : P) (ys : List P), okN n x = true → (∀ y ∈ ys, okN m y = true) → inP x ys = (pys ys).any fun z => PyData.eqv z (py x)
  | n, m, x, [], _, _ => rfl
  | n, m, x, y :: r, hx, hy => by
    show (eqP y x || inP x r) = (PyData.eqv (py y) (py x) || (pys r).any fun z => PyData.eqv z (py x))
    rw [eqP_ok m n y x (hy y List.mem_cons_self) hx, inP_any n m x r hx fun z hz => hy z (List.mem_cons_of_mem _ hz)]
section
variable {W : Wd}
theorem ok_in (neg : Bool) : Ok2 W (pIn neg) (rInX neg W.K) := by
  intro F M H mem x y z v w Q st rx ry h k
  unfold pIn at h
  split at h
  · rename_i ys
    split at h
    · rename_i hb
      cases h
      rw [Bool.and_eq_true] at hb
      obtain ⟨d1, s1⟩ := dpl_of (by decide) hb.1 rx
      obtain ⟨d2, s2⟩ := dpl_of (by decide) hb.2 ry
      refine ⟨_, _, d1, .inl ⟨d2, s2⟩, s1, ?_⟩
      rw [← inP_any 60 59 x ys hb.1 (List.all_eq_true.mp hb.2)]
      exact k _ H (Same.refl H) rfl
    · cases h
  · rename_i ys
    split at h
    · rename_i hb
      cases h
      rw [Bool.and_eq_true] at hb
      obtain ⟨d1, s1⟩ := dpl_of (by decide) hb.1 rx
      obtain ⟨d2, s2⟩ := dpl_of (by decide) hb.2 ry
      refine ⟨_, _, d1, .inr ⟨d2, s2⟩, s1, ?_⟩
      rw [← inP_any 60 59 x ys hb.1 (List.all_eq_true.mp hb.2)]
      exact k _ H (Same.refl H) rfl
    · cases h
  · cases h
end
/-! ### an item -/
def atP (xs : List P) (i : Int) : Option P := atI xs i
/-- no list -/
def noL (x : Option P) : Option P := match x with
  | some (.lst _) => none
  | x => x
def pIx : P → P → Option P
  | .lst xs, .int i => noL (atI xs i)
  | .ins c xs, .int i => if c = scrC then noL (atI xs i) else none
  | .tup xs, .int i => noL (atI xs i)
  | .str s, .int i => match atI s i with
    | some c => some (.str [c])
    | none => none
  | _, _ => none
section
variable {W : Wd} {F : Addr → Prop} {H : Hp}
theorem atI_rep {xs : List P} {vs : List V} {i : Int} {x : P} (r : RepPs W F H xs vs) (h : atI xs i = some x) : ∃ v, atI vs i = some v ∧ RepP W F H x v := by
  unfold atI at h ⊢
  rw [r.length] at h
  cases q : ixN vs.length i with
  | none => rw [q] at h; cases h
  | some j =>
    rw [q] at h
    exact r.get' h
theorem resP_of {x : P} {v : V} {H0 : Hp} (h : RepP W F H x v) (n : ∀ xs, x ≠ .lst xs) : ResP W F H0 H x v := by
  cases x with
  | lst xs => exact absurd rfl (n xs)
  | _ => exact h
theorem noL_some {o : Option P} {x : P} (h : noL o = some x) : o = some x ∧ ∀ xs, x ≠ .lst xs := by
  unfold noL at h
  split at h
  · cases h
  · rename_i hn
    subst h
    exact ⟨rfl, fun xs e => hn xs (by rw [e])⟩
theorem mem_of_atI {α : Type} {xs : List α} {i : Int} {x : α} (h : atI xs i = some x) : x ∈ xs := by
  unfold atI at h
  cases q : ixN xs.length i with
  | none => rw [q] at h; cases h
  | some j =>
    rw [q] at h
    exact List.mem_of_getElem? h
theorem ok_ix : Ok2 W pIx (rIx W.K) := by
  intro F M H mem x y z v w Q st rx ry h k
  unfold pIx at h
  split at h
  · rename_i xs i
    obtain ⟨h1, h2⟩ := noL_some h
    obtain ⟨a, vs, e1, q1, z1, r1⟩ := rx
    obtain ⟨u, h3, h4⟩ := atI_rep r1 h1
    exact .inl ⟨a, vs, i, u, e1, ry, SqL.of q1, h3, k u H (Same.refl H) (resP_of h4 h2)⟩
  · rename_i c xs i
    split at h
    · rename_i hc
      subst hc
      obtain ⟨h1, h2⟩ := noL_some h
      rcases rx with ⟨_, a, vs, e1, q1, r1⟩ | ⟨e0, _⟩
      · obtain ⟨u, h3, h4⟩ := atI_rep r1 h1
        exact .inl ⟨a, vs, i, u, e1, ry, q1.sq, h3, k u H (Same.refl H) (resP_of h4 h2)⟩
      · exact absurd rfl e0
    · cases h
  · rename_i xs i
    obtain ⟨h1, h2⟩ := noL_some h
    obtain ⟨a, vs, e1, q1, r1⟩ := rx
    obtain ⟨u, h3, h4⟩ := atI_rep r1 h1
    exact .inr (.inl ⟨a, vs, i, u, e1, ry, q1.sq, h3, k u H (Same.refl H) (resP_of h4 h2)⟩)
  · rename_i s i
    split at h
    · rename_i c hc
      cases h
      obtain ⟨e1, o1⟩ := rx
      have hl := okStr_len o1
      refine .inr (.inr ⟨mkS s, i, c, e1, ry, ?_, hc, k _ H (Same.refl H) ⟨rfl, ?_⟩⟩)
      · show s.length ≤ sizeLine
        exact small_line (by omega)
      · unfold okStr at o1 ⊢
        rw [Bool.and_eq_true] at o1
        have := List.all_eq_true.mp o1.1 c (mem_of_atI hc)
        simp only [List.all_cons, List.all_nil, Bool.and_true, List.length_cons, List.length_nil]
        rw [Bool.and_eq_true]
        exact ⟨this, decide_eq_true (Nat.le_of_ble_eq_true rfl)⟩
    · cases h
  · cases h
end
/-! ### a slice -/
def cutP {α : Type} (xs : List α) (lo hi : Option Int) : List α := (xs.drop (HT.sIx xs.length 0 lo)).take (HT.sIx xs.length xs.length hi - HT.sIx xs.length 0 lo)
def pCut (x : P) (lo hi : Option Int) : Option P := match x with
  | .lst xs => some (.lst (cutP xs lo hi))
  | .ins c xs => if c = scrC then some (.lst (cutP xs lo hi)) else none
  | .tup xs => some (.tup (cutP xs lo hi))
  | .str s => some (.str (cutP s lo hi))
  | _ => none
abbrev CO := Env → Mem → (Option Int → Mem → Bool) → Bool
def oNo : CO := fun _ m Q => Q none m
def oSome (a : CE) : CO := fun env m Q => a env m fun x m1 => match x with
  | .p (.int i) => Q (some i) m1
  | _ => false
def cCut (mu : Bool) (a : CE) (lo hi : CO) : CE := fun env m Q => a env m fun x m1 => lo env m1 fun l m2 => hi env m2 fun u m3 => match look m3 x with
  | some x => (match pCut x l u with
    | some z => out mu z m3 Q
    | none => false)
  | none => false
def RdO (W : Wd) (f : CO) : TO := fun σ H Q => ∃ F M env mem Qb, StR W F M H mem ∧ EnvR W F M H env σ ∧ f env mem Qb = true ∧
  ∀ o H' F' M' mem', Step F M H F' M' H' → StR W F' M' H' mem' → Qb o mem' = true → Q o H'
def rSlX (K : PySem.W.Frag) : V → Option Int → Option Int → Hp → VK → Prop := fun x lo hi H Q => rSlL K x lo hi H Q ∨ rSlF K x lo hi H Q ∨ rSlS x lo hi H Q
theorem sl_X {X : Cx} : SlR X (rSlX X.K) := sl_list.or (sl_tupF.or sl_str)
theorem cutP_len {α : Type} (xs : List α) (lo hi : Option Int) : (cutP xs lo hi).length ≤ xs.length := by
  unfold cutP
  rw [List.length_take, List.length_drop]
  omega
theorem cutP_mem {α : Type} {xs : List α} {lo hi : Option Int} {x : α} (h : x ∈ cutP xs lo hi) : x ∈ xs := List.mem_of_mem_drop (List.mem_of_mem_take h)
section
variable {W : Wd} {F : Addr → Prop} {H : Hp} {σ : L2.St} {Q : VK} {fa : CE} {lo hi : CO}
theorem RepPs.cut {xs : List P} {vs : List V} (lo hi : Option Int) (r : RepPs W F H xs vs) : RepPs W F H (cutP xs lo hi) (cutV vs lo hi) := by
  unfold cutP cutV
  rw [r.length]
  exact (r.drop _).take _
theorem rd_oNo {QO : Option Int → Hp → Prop} (h : RdO W oNo σ H QO) : tNoPart σ H QO := by
  obtain ⟨F, M, env, mem, Qb, st, en, h, k⟩ := h
  exact k none H F M mem Step.refl st h
theorem rd_oSome {QO : Option Int → Hp → Prop} (h : RdO W (oSome fa) σ H QO) : tPart (RdE W fa) σ H QO := by
  obtain ⟨F, M, env, mem, Qb, st, en, h, k⟩ := h
  refine RdE.go st en h fun v1 H1 F1 M1 d1 m1 s1 st1 r1 h1 => ?_
  split at h1
  · rename_i i
    exact ⟨i, r1, k (some i) H1 F1 M1 m1 s1 st1 h1⟩
  · cases h1
theorem cut_whole {α : Type} {xs : List α} {lo hi : Option Int} (h : HT.sIx xs.length 0 lo = 0 ∧ HT.sIx xs.length xs.length hi = xs.length) : cutP xs lo hi = xs := by
  unfold cutP
  rw [h.1, h.2, List.drop_zero, Nat.sub_zero, List.take_length]
theorem rd_cut {mu : Bool} (h : RdE W (cCut mu fa lo hi) σ H Q) : tSl (rSlX W.K) (RdE W fa) (RdO W lo) (RdO W hi) σ H Q := by
  obtain ⟨F, M, env, mem, Qb, st, en, h, k⟩ := h
  refine RdE.go st en h fun v1 H1 F1 M1 d1 m1 s1 st1 r1 h1 => ?_
  refine ⟨F1, M1, env, m1, _, st1, en.mono s1, h1, fun l H2 F2 M2 m2 s2 st2 h2 => ?_⟩
  refine ⟨F2, M2, env, m2, _, st2, en.mono (s1.trans s2), h2, fun u H3 F3 M3 m3 s3 st3 h3 => ?_⟩
  have s13 := (s1.trans s2).trans s3
  have k' : ∀ v H' F' M' d mem', Step F3 M3 H3 F' M' H' → StR W F' M' H' mem' → RepD W F' M' H' d v → Qb d mem' = true → Q v H' := fun v H' F' M' d mem' s4 => k v H' F' M' d mem' (s13.trans s4)
  split at h3
  · rename_i x ex
    have rl := look_rl st3 (RepD.mono (s2.trans s3) _ _ r1) ex
    split at h3
    · rename_i z ez
      unfold pCut at ez
      split at ez
      · cases ez
        obtain ⟨a, vs, e1, q1, z1, r⟩ := rl
        refine .inl ⟨a, vs, e1, SqL.of q1, fun p hp => ?_⟩
        exact out_ok (z := .lst _) st3 (Same.new hp) ⟨p, _, rfl, hp, upd_same, Nat.le_trans (cutV_length _ _ _) z1, r.cut l u⟩ h3 k'
      · split at ez
        · rename_i hc
          subst hc
          cases ez
          rcases rl with ⟨_, a, vs, e1, q1, r⟩ | ⟨e0, _⟩
          · refine .inl ⟨a, vs, e1, q1.sq, fun p hp => ?_⟩
            exact out_ok (z := .lst _) st3 (Same.new hp) ⟨p, _, rfl, hp, upd_same, Nat.le_trans (cutV_length _ _ _) q1.1, r.cut l u⟩ h3 k'
          · exact absurd rfl e0
        · cases ez
      · cases ez
        obtain ⟨a, vs, e1, q1, r⟩ := rl
        refine .inr (.inl ⟨a, vs, e1, q1.sq, fun hw => ?_, fun hw => ?_⟩)
        · have hw' := hw
          rw [← r.length] at hw'
          rw [cut_whole hw'] at h3
          exact out_ok (z := .tup _) st3 (Same.refl H3) ⟨a, vs, e1, q1, r⟩ h3 k' |> fun z => by rw [e1] at z; exact z
        · exact newT_of st3 (Nat.le_trans (cutV_length _ _ _) q1.1) (r.cut l u) fun u H' e rr => out_ok (z := .tup _) st3 e rr h3 k'
      · cases ez
        rename_i s
        obtain ⟨e1, o1⟩ := rl
        have hl := okStr_len o1
        refine .inr (.inr ⟨mkS s, e1, by (show s.length ≤ sizeLine; exact small_line (by omega)), ?_⟩)
        refine out_ok (z := .str (cutP s l u)) (u := V.str (mkS (cutP s l u))) st3 (Same.refl H3) ⟨rfl, ?_⟩ h3 k'
        unfold okStr at o1 ⊢
        rw [Bool.and_eq_true] at o1 ⊢
        exact ⟨List.all_eq_true.mpr fun c hc => List.all_eq_true.mp o1.1 c (cutP_mem hc), decide_eq_true (Nat.le_trans (cutP_len _ _ _) hl)⟩
      · cases ez
    · cases h3
  · cases h3
end
end MP
/-! MPR: statements, loops. -/
namespace MP
open PySem L2

/-! ### targets -/
inductive Tg where
  | n (i : Nat)
  | t (is : List Nat)
def setAll : List Nat → List D → Env → Option Env
  | [], [], env => some env
  | i :: is, d :: ds, env => setAll is ds (env.set i (some d))
  | _, _, _ => none
def partsOf : D → Option (List D)
  | .p (.tup xs) => some (xs.map D.p)
  | .tup ds => some ds
  | _ => none
def Tg.run (g : Tg) (d : D) (env : Env) : Option Env := match g with
  | .n i => some (env.set i (some d))
  | .t is => match partsOf d with
    | some ds => setAll is ds env
    | none => none
def gNames : List Nat → TGs
  | [] => gNil
  | i :: is => gCons (gName i) (gNames is)
def Tg.rd (K : PySem.W.Frag) : Tg → TG
  | .n i => gName i
  | .t is => gTup K is.length (gNames is)
def Tg.ix : Tg → List Nat
  | .n i => [i]
  | .t is => is

def RdS (W : Wd) (f : CS) : TS := fun Ds σ H => ∃ F M env mem B, StR W F M H mem ∧ EnvR W F M H env σ ∧ f B env mem = true ∧
  (∀ σ' H' F' M' env' mem', Step F M H F' M' H' → StR W F' M' H' mem' → EnvR W F' M' H' env' σ' → B.nx env' mem' = true → Ds.nx σ' H') ∧
  (∀ v H' F' M' d mem', Step F M H F' M' H' → StR W F' M' H' mem' → RepD W F' M' H' d v → B.rt d mem' = true → Ds.rt v H') ∧
  (∀ σ' H' F' M' env' mem', Step F M H F' M' H' → StR W F' M' H' mem' → EnvR W F' M' H' env' σ' → B.bk env' mem' = true → Ds.bk σ' H') ∧
  (∀ σ' H' F' M' env' mem', Step F M H F' M' H' → StR W F' M' H' mem' → EnvR W F' M' H' env' σ' → B.ct env' mem' = true → Ds.ct σ' H')
/-- the four ways out, from a later state -/
structure OutS (W : Wd) (F : Addr → Prop) (M : List Addr) (H : Hp) (B : En) (Ds : Ends) : Prop where
  nx : ∀ σ' H' F' M' env' mem', Step F M H F' M' H' → StR W F' M' H' mem' → EnvR W F' M' H' env' σ' → B.nx env' mem' = true → Ds.nx σ' H'
  rt : ∀ v H' F' M' d mem', Step F M H F' M' H' → StR W F' M' H' mem' → RepD W F' M' H' d v → B.rt d mem' = true → Ds.rt v H'
  bk : ∀ σ' H' F' M' env' mem', Step F M H F' M' H' → StR W F' M' H' mem' → EnvR W F' M' H' env' σ' → B.bk env' mem' = true → Ds.bk σ' H'
  ct : ∀ σ' H' F' M' env' mem', Step F M H F' M' H' → StR W F' M' H' mem' → EnvR W F' M' H' env' σ' → B.ct env' mem' = true → Ds.ct σ' H'
section
variable {W : Wd} {F F' : Addr → Prop} {M M' : List Addr} {H H' : Hp} {mem : Mem} {σ : L2.St} {env : Env} {B : En} {Ds : Ends} {f : CS}
theorem RdS.go (st : StR W F M H mem) (en : EnvR W F M H env σ) (h : f B env mem = true) (o : OutS W F M H B Ds) : RdS W f Ds σ H := ⟨F, M, env, mem, B, st, en, h, o.nx, o.rt, o.bk, o.ct⟩
theorem OutS.later (o : OutS W F M H B Ds) (s : Step F M H F' M' H') : OutS W F' M' H' B Ds :=
  ⟨fun σ' H' F' M' env' mem' s' => o.nx σ' H' F' M' env' mem' (s.trans s'), fun v H' F' M' d mem' s' => o.rt v H' F' M' d mem' (s.trans s'),
   fun σ' H' F' M' env' mem' s' => o.bk σ' H' F' M' env' mem' (s.trans s'), fun σ' H' F' M' env' mem' s' => o.ct σ' H' F' M' env' mem' (s.trans s')⟩
theorem RdS.un (h : RdS W f Ds σ H) : ∃ F M env mem B, StR W F M H mem ∧ EnvR W F M H env σ ∧ f B env mem = true ∧ OutS W F M H B Ds := by
  obtain ⟨F, M, env, mem, B, st, en, h, a, b, c, d⟩ := h
  exact ⟨F, M, env, mem, B, st, en, h, ⟨a, b, c, d⟩⟩
end
section
variable {W : Wd} {F : Addr → Prop} {M : List Addr} {H : Hp} {mem : Mem} {σ : L2.St} {env env' : Env}
theorem gNames_ok {Q : L2.St → Hp → Prop} : ∀ {is : List Nat} {ds : List D} {vs : List V} {env : Env} {σ : L2.St}, setAll is ds env = some env' → EnvR W F M H env σ → RepDs W F M H ds vs →
    (∀ σ', EnvR W F M H env' σ' → (∃ ws, ws.length = is.length ∧ σ' = (is.zip ws).foldl (fun s p => s.set p.1 (some p.2)) σ) → Q σ' H) → gNames is vs σ H Q
  | [], [], vs, env, σ, h, en, r, k => by
    cases h
    exact ⟨r, k σ en ⟨[], rfl, rfl⟩⟩
  | i :: is, d :: ds, vs, env, σ, h, en, r, k => by
    obtain ⟨v, rr, e, h1, h2⟩ := r
    refine ⟨v, rr, e, ?_⟩
    exact gNames_ok (is := is) (ds := ds) h (en.set h1) h2 fun σ' en' ⟨ws, hl, e⟩ => k σ' en' ⟨v :: ws, by rw [List.length_cons, List.length_cons, hl], e⟩
  | [], d :: ds, vs, env, σ, h, en, r, k => by cases h
  | i :: is, [], vs, env, σ, h, en, r, k => by cases h
theorem setAll_len : ∀ {is : List Nat} {ds : List D} {env : Env}, setAll is ds env = some env' → is.length = ds.length
  | [], [], env, h => rfl
  | i :: is, d :: ds, env, h => by rw [List.length_cons, List.length_cons, setAll_len (is := is) h]
  | [], d :: ds, env, h => by cases h
  | i :: is, [], env, h => by cases h
theorem Tg.ok {g : Tg} {d : D} {v : V} {Q : L2.St → Hp → Prop} (h : g.run d env = some env') (en : EnvR W F M H env σ) (r : RepD W F M H d v)
    (k : ∀ σ', EnvR W F M H env' σ' → (∃ ws, ws.length = g.ix.length ∧ σ' = (g.ix.zip ws).foldl (fun s p => s.set p.1 (some p.2)) σ) → Q σ' H) : g.rd W.K v σ H Q := by
  cases g with
  | n i =>
    cases h
    exact k _ (en.set r) ⟨[v], rfl, rfl⟩
  | t is =>
    dsimp only [Tg.run] at h
    split at h
    · rename_i ds e
      have hp : ∃ a vs, v = .ref a ∧ TupW W F H a vs ∧ RepDs W F M H ds vs := by
        unfold partsOf at e
        split at e
        · cases e
          obtain ⟨a, vs, e1, q, rr⟩ := r
          exact ⟨a, vs, e1, .inl q, RepPs.ds rr⟩
        · cases e
          exact r
        · cases e
      obtain ⟨a, vs, e1, q, rr⟩ := hp
      exact ⟨a, vs, e1, q.sq, by rw [← rr.length, setAll_len h], gNames_ok h en rr k⟩
    · cases h
end

/-! ### simple statements -/
def sSeq (a b : CS) : CS := fun D env m => a { D with nx := fun env1 m1 => b D env1 m1 } env m
def sNil : CS := fun D env m => D.nx env m
def sAsg (g : Tg) (e : CE) : CS := fun D env m => e env m fun d m1 => match g.run d env with
  | some env1 => D.nx env1 m1
  | none => false
/-- a, b = x, y, no tuple made -/
def sPar (is : List Nat) (a : CA) : CS := fun D env m => a env m fun ds m1 => match setAll is ds env with
  | some env1 => D.nx env1 m1
  | none => false
def sExpr (e : CE) : CS := fun D env m => e env m fun _ m1 => D.nx env m1
def sRet (e : CE) : CS := fun D env m => e env m D.rt
def sRetN : CS := fun D _ m => D.rt (.p .non) m
def sIf (c : CT) (a b : CS) : CS := fun D env m => c env m fun k m1 => if k then a D env m1 else b D env m1
def sNo : CS := fun _ _ _ => false
def sBrk : CS := fun D env m => D.bk env m
def sCnt : CS := fun D env m => D.ct env m
def whileGo (c : CT) (b : CS) (D : En) : Nat → Env → Mem → Bool
  | 0, _, _ => false
  | n + 1, env, m => c env m fun k m1 => if k then b { D with nx := whileGo c b D n, ct := whileGo c b D n, bk := D.nx } env m1 else D.nx env m1
def sWhile (n : Nat) (c : CT) (b : CS) : CS := fun D env m => whileGo c b D n env m
section
variable {W : Wd} {σ : L2.St} {H : Hp} {Ds : Ends} {fa fb : CS} {e : CE} {a : CA} {t : CT} {g : Tg}
theorem rd_seq (h : RdS W (sSeq fa fb) Ds σ H) : tSeq (RdS W fa) (RdS W fb) Ds σ H := by
  obtain ⟨F, M, env, mem, B, st, en, h, o⟩ := h.un
  exact RdS.go st en h ⟨fun σ' H' F' M' env' mem' s st' en' h' => RdS.go st' en' h' (o.later s), o.rt, o.bk, o.ct⟩
theorem rd_nil (h : RdS W sNil Ds σ H) : tNext Ds σ H := by
  obtain ⟨F, M, env, mem, B, st, en, h, o⟩ := h.un
  exact o.nx σ H F M env mem Step.refl st en h
theorem rd_asg (h : RdS W (sAsg g e) Ds σ H) : tAsg (RdE W e) (g.rd W.K) Ds σ H := by
  obtain ⟨F, M, env, mem, B, st, en, h, o⟩ := h.un
  refine RdE.go st en h fun v H1 F1 M1 d m1 s1 st1 r1 h1 => ?_
  split at h1
  · rename_i env1 eg
    exact Tg.ok eg (en.mono s1) r1 fun σ' en' _ => o.nx σ' H1 F1 M1 env1 m1 s1 st1 en' h1
  · cases h1
theorem rd_par2 {i j : Nat} (h : RdS W (sPar [i, j] a) Ds σ H) : tPar i j (RdA W a) Ds σ H := by
  obtain ⟨F, M, env, mem, B, st, en, h, o⟩ := h.un
  refine RdA.go st en h fun vs H1 F1 M1 ds m1 s1 st1 r1 h1 => ?_
  split at h1
  · rename_i env1 eg
    match ds, r1, eg with
    | [d1, d2], r1, eg =>
      obtain ⟨v, rr, e1, q1, w, rr2, e2, q2, e3⟩ := r1
      have e3 : rr2 = [] := e3
      subst e3 e2 e1
      have eg' : (env.set i (some d1)).set j (some d2) = env1 := Option.some.inj eg
      subst eg'
      exact ⟨v, w, rfl, o.nx _ H1 F1 M1 _ m1 s1 st1 (((en.mono s1).set q1).set q2) h1⟩
    | [], r1, eg => cases eg
    | [d1], r1, eg => cases eg
    | d1 :: d2 :: d3 :: _, r1, eg => cases eg
  · cases h1
theorem rd_expr (h : RdS W (sExpr e) Ds σ H) : tDrop (RdE W e) Ds σ H := by
  obtain ⟨F, M, env, mem, B, st, en, h, o⟩ := h.un
  exact RdE.go st en h fun v H1 F1 M1 d m1 s1 st1 r1 h1 => o.nx σ H1 F1 M1 env m1 s1 st1 (en.mono s1) h1
theorem rd_ret (h : RdS W (sRet e) Ds σ H) : tRet (RdE W e) Ds σ H := by
  obtain ⟨F, M, env, mem, B, st, en, h, o⟩ := h.un
  exact RdE.go st en h fun v H1 F1 M1 d m1 s1 st1 r1 h1 => o.rt v H1 F1 M1 d m1 s1 st1 r1 h1
theorem rd_retN (h : RdS W sRetN Ds σ H) : tRetN Ds σ H := by
  obtain ⟨F, M, env, mem, B, st, en, h, o⟩ := h.un
  exact o.rt .non H F M (.p .non) mem Step.refl st rfl h
theorem rd_ifS (h : RdS W (sIf t fa fb) Ds σ H) : tIfS (RdT W t) (RdS W fa) (RdS W fb) Ds σ H := by
  obtain ⟨F, M, env, mem, B, st, en, h, o⟩ := h.un
  refine RdT.go st en h fun b H1 F1 M1 m1 s1 st1 h1 => ?_
  cases b with
  | true => exact RdS.go st1 (en.mono s1) h1 (o.later s1)
  | false => exact RdS.go st1 (en.mono s1) h1 (o.later s1)
theorem rd_no (h : RdS W sNo Ds σ H) : tNever Ds σ H := by
  obtain ⟨F, M, env, mem, B, st, en, h, o⟩ := h.un
  cases h
theorem rd_brk (h : RdS W sBrk Ds σ H) : tBreak Ds σ H := by
  obtain ⟨F, M, env, mem, B, st, en, h, o⟩ := h.un
  exact o.bk σ H F M env mem Step.refl st en h
theorem rd_cnt (h : RdS W sCnt Ds σ H) : tCont Ds σ H := by
  obtain ⟨F, M, env, mem, B, st, en, h, o⟩ := h.un
  exact o.ct σ H F M env mem Step.refl st en h
theorem rd_while {n : Nat} (h : RdS W (sWhile n t fa) Ds σ H) : tWhile (RdT W t) (RdS W fa) Ds σ H := by
  obtain ⟨F, M, env, mem, B, st, en, h, o⟩ := h.un
  refine ⟨fun m σ1 H1 => ∃ F1 M1 env1 mem1, Step F M H F1 M1 H1 ∧ StR W F1 M1 H1 mem1 ∧ EnvR W F1 M1 H1 env1 σ1 ∧ whileGo t fa B m env1 mem1 = true, ⟨n, F, M, env, mem, Step.refl, st, en, h⟩, ?_⟩
  rintro m σ1 H1 ⟨F1, M1, env1, mem1, s1, st1, en1, h1⟩
  cases m with
  | zero => cases h1
  | succ m =>
    refine RdT.go st1 en1 h1 fun b H2 F2 M2 m2 s2 st2 h2 => ?_
    cases b with
    | false => exact o.nx σ1 H2 F2 M2 env1 m2 (s1.trans s2) st2 (en1.mono s2) h2
    | true =>
      refine ⟨fun σ' H' => ∃ F1 M1 env1 mem1, Step F M H F1 M1 H' ∧ StR W F1 M1 H' mem1 ∧ EnvR W F1 M1 H' env1 σ' ∧ whileGo t fa B m env1 mem1 = true, fun σ' H' q => ⟨m, Nat.lt_succ_self m, q⟩, ?_⟩
      have s12 := s1.trans s2
      have o2 := o.later s12
      refine RdS.go st2 (en1.mono s2) h2 ⟨fun σ' H' F' M' env' mem' s st' en' h' => ⟨F', M', env', mem', s12.trans s, st', en', h'⟩, o2.rt, o2.nx, fun σ' H' F' M' env' mem' s st' en' h' => ⟨F', M', env', mem', s12.trans s, st', en', h'⟩⟩
end

/-! ### what is walked -/
abbrev CI := Env → Mem → (List P → Mem → Bool) → Bool
def Wk (W : Wd) (F : Addr → Prop) (H : Hp) (J : It) (xs : List P) : Prop := ∀ (F' : Addr → Prop) (M' : List Addr) (H' : Hp) (mem' : Mem), Kp F H F' H' → StR W F' M' H' mem' → ∀ i, (∀ p, xs[i]? = some p → J.go i H' ∧ ∀ x H'', J.yld i H' x H'' → Same H' H'' ∧ RepP W F' H'' p x) ∧ (xs.length ≤ i → J.stop i H')
def RdI (W : Wd) (f : CI) : TI := fun σ H R => ∃ F M env mem Qb, StR W F M H mem ∧ EnvR W F M H env σ ∧ f env mem Qb = true ∧
  ∀ J xs H' F' M' mem', Step F M H F' M' H' → StR W F' M' H' mem' → Wk W F' H' J xs → Qb xs mem' = true → R J H'
theorem PI.imp {X : Cx} {tg e : Expr} {t t' : TI} (h : PI X tg e t) (w : ∀ σ H R, t' σ H R → t σ H R) : PI X tg e t' := ⟨fun pins s σ H R I q => h.run pins s σ H R I (w σ H R q)⟩
def forGo (g : Tg) (b : CS) (D : En) : List P → Env → Mem → Bool
  | [], env, m => D.nx env m
  | x :: r, env, m => match g.run (.p x) env with
    | some env1 => b { D with nx := forGo g b D r, ct := forGo g b D r, bk := D.nx } env1 m
    | none => false
def sFor (i : CI) (g : Tg) (b : CS) : CS := fun D env m => i env m fun xs m1 => forGo g b D xs env m1
section
variable {W : Wd} {σ : L2.St} {H : Hp} {Ds : Ends} {fb : CS} {fi : CI} {g : Tg}
theorem rd_for (h : RdS W (sFor fi g fb) Ds σ H) : tFor (RdI W fi) (g.rd W.K) (RdS W fb) Ds σ H := by
  obtain ⟨F, M, env, mem, B, st, en, h, o⟩ := h.un
  refine ⟨F, M, env, mem, _, st, en, h, fun J xs H1 F1 M1 m1 s1 st1 wk h1 => ?_⟩
  refine ⟨fun i m σ2 H2 => ∃ F2 M2 env2 mem2, Step F1 M1 H1 F2 M2 H2 ∧ StR W F2 M2 H2 mem2 ∧ EnvR W F2 M2 H2 env2 σ2 ∧ m = xs.length - i ∧ i ≤ xs.length ∧ forGo g fb B (xs.drop i) env2 mem2 = true,
    ⟨xs.length, F1, M1, env, m1, Step.refl, st1, en.mono s1, by simp, Nat.zero_le _, h1⟩, ?_⟩
  rintro i m σ2 H2 ⟨F2, M2, env2, mem2, s2, st2, en2, rfl, hi, h2⟩
  obtain ⟨w1, w2⟩ := wk F2 M2 H2 mem2 s2.kp st2 i
  by_cases hlt : i < xs.length
  · rw [List.drop_eq_getElem_cons hlt] at h2
    obtain ⟨g1, g2⟩ := w1 xs[i] (List.getElem?_eq_getElem hlt)
    refine .inr ⟨g1, fun σ' H' => ∃ F2 M2 env2 mem2, Step F1 M1 H1 F2 M2 H' ∧ StR W F2 M2 H' mem2 ∧ EnvR W F2 M2 H' env2 σ' ∧ forGo g fb B (xs.drop (i + 1)) env2 mem2 = true, fun σ' H' ⟨F3, M3, env3, mem3, s3, st3, en3, h3⟩ => ⟨xs.length - (i + 1), by omega, F3, M3, env3, mem3, s3, st3, en3, rfl, hlt, h3⟩, fun x H3 y => ?_⟩
    obtain ⟨sm, rp⟩ := g2 x H3 y
    have s3 := s2.trans (Step.same sm)
    have st3 := st2.same sm
    have en3 := en2.mono (Step.same sm)
    dsimp only [forGo] at h2
    split at h2
    · rename_i env4 eg
      refine Tg.ok eg en3 (d := .p xs[i]) rp fun σ4 en4 _ => ?_
      have o3 := o.later (s1.trans s3)
      exact RdS.go st3 en4 h2 ⟨fun σ' H' F' M' env' mem' s st' en' h' => ⟨F', M', env', mem', s3.trans s, st', en', h'⟩, o3.rt, o3.nx, fun σ' H' F' M' env' mem' s st' en' h' => ⟨F', M', env', mem', s3.trans s, st', en', h'⟩⟩
    · cases h2
  · have e : i = xs.length := by omega
    subst e
    rw [List.drop_length] at h2
    exact .inl ⟨w2 (Nat.le_refl _), o.nx σ2 H2 F2 M2 env2 mem2 (s1.trans s2) st2 en2 h2⟩
end
/-! ### iterables -/
def iterP : P → Option (List P)
  | .lst xs => some xs
  | .tup xs => some xs
  | .str s => some (s.map fun c => .str [c])
  | _ => none
/-- a value that is walked: not one that is open to writing -/
def iV (a : CE) : CI := fun env m Q => a env m fun x m1 => match x with
  | .p y => (match iterP y with
    | some xs => Q xs m1
    | none => false)
  | _ => false
def rangeP (lo : Int) : Nat → List P
  | 0 => []
  | n + 1 => .int lo :: rangeP (lo + 1) n
def bRng (i : Int) : Bool := decide (-1000000 ≤ i) && decide (i ≤ 1000000)
def iR1 (a : CE) : CI := fun env m Q => a env m fun x m1 => match x with
  | .p (.int i) => if bRng i then Q (rangeP 0 i.toNat) m1 else false
  | _ => false
def iR2 (a b : CE) : CI := fun env m Q => a env m fun x m1 => b env m1 fun y m2 => match x, y with
  | .p (.int i), .p (.int j) => if bRng i && bRng j then Q (rangeP i (j - i).toNat) m2 else false
  | _, _ => false
theorem rangeP_len : ∀ (lo : Int) (n : Nat), (rangeP lo n).length = n
  | _, 0 => rfl
  | lo, n + 1 => by
    show (rangeP (lo + 1) n).length + 1 = n + 1
    rw [rangeP_len]
theorem rangeP_get : ∀ (lo : Int) (n i : Nat) (p : P), (rangeP lo n)[i]? = some p → p = .int (lo + i) ∧ i < n
  | _, 0, i, p, h => by
    have h : ([] : List P)[i]? = some p := h
    simp at h
  | lo, n + 1, 0, p, h => by
    have h : some (P.int lo) = some p := h
    cases h
    exact ⟨by simp, Nat.succ_pos _⟩
  | lo, n + 1, i + 1, p, h => by
    have h : (rangeP (lo + 1) n)[i]? = some p := h
    obtain ⟨h1, h2⟩ := rangeP_get (lo + 1) n i p h
    refine ⟨?_, Nat.succ_lt_succ h2⟩
    rw [h1]
    congr 1
    rw [Int.natCast_succ]
    omega
section
variable {W : Wd} {F : Addr → Prop} {H : Hp}
theorem wk_range (lo : Int) (n : Nat) : Wk W F H (Itr lo n) (rangeP lo n) := by
  intro F' M' H' mem' k st i
  refine ⟨fun p hp => ?_, fun h => ?_⟩
  · obtain ⟨e, hi⟩ := rangeP_get lo n i p hp
    refine ⟨hi, fun x H'' y => ?_⟩
    obtain ⟨e1, e2⟩ := y
    subst e1 e2 e
    exact ⟨Same.refl _, rfl⟩
  · rw [rangeP_len] at h
    exact h
theorem wk_list {a : Addr} {vs : List V} {xs : List P} (h : LstAt W F H a vs) (r : RepPs W F H xs vs) : Wk W F H (Itl W.K a) xs := by
  intro F' M' H' mem' k st i
  have h' := h.kp k
  have r' := RepPs.kp k _ _ r
  refine ⟨fun p hp => ?_, fun hi => ⟨vs, SqL.of h'.2.1, by rw [← r'.length]; exact hi⟩⟩
  obtain ⟨v, e, q⟩ := r'.get' hp
  refine ⟨⟨vs, v, SqL.of h'.2.1, e⟩, fun x H'' y => ?_⟩
  obtain ⟨e1, e2⟩ := y
  subst e1
  have e3 := e2 vs (SqL.of h'.2.1)
  rw [e] at e3
  cases e3
  exact ⟨Same.refl _, q⟩
theorem wk_tup {a : Addr} {vs : List V} {xs : List P} (h : TupAt W F H a vs) (r : RepPs W F H xs vs) : Wk W F H (Itt W.K a) xs := by
  intro F' M' H' mem' k st i
  have h' := h.kp k
  have r' := RepPs.kp k _ _ r
  refine ⟨fun p hp => ?_, fun hi => ⟨vs, h'.sq, by rw [← r'.length]; exact hi⟩⟩
  obtain ⟨v, e, q⟩ := r'.get' hp
  refine ⟨⟨vs, v, h'.sq, e⟩, fun x H'' y => ?_⟩
  obtain ⟨e1, e2⟩ := y
  subst e1
  have e3 := e2 vs h'.sq
  rw [e] at e3
  cases e3
  exact ⟨Same.refl _, q⟩
theorem wk_str {s : List Nat} (h : okStr s = true) : Wk W F H (Its (mkS s)) (s.map fun c => .str [c]) := by
  intro F' M' H' mem' k st i
  have sz : (mkS s).cps.size = s.length := rfl
  refine ⟨fun p hp => ?_, fun hi => ?_⟩
  · rw [List.getElem?_map] at hp
    cases q : s[i]? with
    | none => rw [q] at hp; cases hp
    | some c =>
      rw [q] at hp
      cases hp
      have hi := (List.getElem?_eq_some_iff.mp q).1
      refine ⟨hi, fun x H'' y => ?_⟩
      obtain ⟨e1, c', e2, e3⟩ := y
      subst e1 e3
      have e4 : s[i]? = some c' := by simpa using e2
      rw [q] at e4
      cases e4
      refine ⟨Same.refl _, rfl, ?_⟩
      unfold okStr at h ⊢
      rw [Bool.and_eq_true] at h
      have := List.all_eq_true.mp h.1 c (List.mem_of_getElem? q)
      simp only [List.all_cons, List.all_nil, Bool.and_true, List.length_cons, List.length_nil]
      rw [Bool.and_eq_true]
      exact ⟨this, decide_eq_true (Nat.le_of_ble_eq_true rfl)⟩
  · rw [List.length_map] at hi
    exact hi
end
def iSeqX (K : PySem.W.Frag) (tl : TE) : TI := fun σ H R => tl σ H fun x H1 => (∃ a, x = .ref a ∧ (∃ xs, SqL K H1 a xs) ∧ R (Itl K a) H1) ∨ (∃ a, x = .ref a ∧ (∃ xs, SqT K H1 a xs) ∧ R (Itt K a) H1) ∨ ∃ z, x = .str z ∧ R (Its z) H1
theorem pi_seqX {X : Cx} {tg l : Expr} {tl : TE} (hl : PE X l tl) : PI X tg l (iSeqX X.K tl) := by
  refine ⟨fun pins s σ H R I h => ?_⟩
  refine thn (hl.run pins s σ H _ I h) fun v s1 ⟨x, H1, I1, r1, q1⟩ => ?_
  rcases q1 with ⟨a, e, ⟨xs, hq⟩, q⟩ | ⟨a, e, ⟨xs, hq⟩, q⟩ | ⟨z, e, q⟩
  · subst e
    cases r1
    obtain ⟨its, rv, p, hz⟩ := I1.list hq
    refine wpAny_pyIter_list p.isList ?_
    refine ⟨s1.heap.objs.size, [s1.heap.objs.size], _, _, H1, rfl, I1.kept (t' := s1.toks) fun b o e => Heap.get?_push_of_some _ e, turn_list a _, ⟨_, Heap.get?_push_size _ rfl, rfl, rfl⟩, fun b hb => ?_, q⟩
    have e : b = s1.heap.objs.size := by simpa using hb
    subst e
    exact I1.fpOk (Nat.le_refl _) (I1.hok.fresh (Nat.le_refl _))
  · subst e
    cases r1
    obtain ⟨its, rv, p, hz⟩ := I1.tuple hq
    refine wpAny_pyIter_tuple (show s1.heap.IsTuple a its.toArray from p) ?_
    refine ⟨s1.heap.objs.size, [s1.heap.objs.size], _, _, H1, rfl, I1.kept (t' := s1.toks) fun b o e => Heap.get?_push_of_some _ e, turn_tuple a _, ⟨_, Heap.get?_push_size _ rfl, rfl, rfl⟩, fun b hb => ?_, q⟩
    have e : b = s1.heap.objs.size := by simpa using hb
    subst e
    exact I1.fpOk (Nat.le_refl _) (I1.hok.fresh (Nat.le_refl _))
  · subst e
    obtain ⟨t, rfl⟩ := r1
    cases ha : z.cps.all (· < 128)
    · exact wpAny_pyIter_wide ha (pi_one (tk := s1.toks) I1 _ (turn_str _ z t "str_iterator" (.inr rfl)) ⟨_, Heap.get?_push_size _ rfl, rfl, rfl⟩ q)
    · exact wpAny_pyIter_ascii ha (pi_one (tk := s1.toks) I1 _ (turn_str _ z t "str_ascii_iterator" (.inl rfl)) ⟨_, Heap.get?_push_size _ rfl, rfl, rfl⟩ q)
section
variable {W : Wd} {σ : L2.St} {H : Hp} {fa fb : CE} {R : It → Hp → Prop}
theorem rd_iV (h : RdI W (iV fa) σ H R) : iSeqX W.K (RdE W fa) σ H R := by
  obtain ⟨F, M, env, mem, Qb, st, en, h, k⟩ := h
  refine RdE.go st en h fun v H1 F1 M1 d m1 s1 st1 r1 h1 => ?_
  split at h1
  · rename_i y
    split at h1
    · rename_i xs e
      unfold iterP at e
      split at e
      · cases e
        obtain ⟨a, vs, e1, q, r⟩ := r1
        exact .inl ⟨a, e1, ⟨vs, SqL.of q.2.1⟩, k _ _ H1 F1 M1 m1 s1 st1 (wk_list q r) h1⟩
      · cases e
        obtain ⟨a, vs, e1, q, r⟩ := r1
        exact .inr (.inl ⟨a, e1, ⟨vs, q.sq⟩, k _ _ H1 F1 M1 m1 s1 st1 (wk_tup q r) h1⟩)
      · cases e
        obtain ⟨e1, o1⟩ := r1
        exact .inr (.inr ⟨_, e1, k _ _ H1 F1 M1 m1 s1 st1 (wk_str o1) h1⟩)
      · cases e
    · cases h1
  · cases h1
theorem bRng_ok {i : Int} (h : bRng i = true) : -(2 ^ 62) ≤ i ∧ i < 2 ^ 62 := by
  unfold bRng at h
  simp only [Bool.and_eq_true, decide_eq_true_eq] at h
  omega
theorem rd_iR1 (h : RdI W (iR1 fa) σ H R) : iRng1 (tCons (RdE W fa) tNil) σ H R := by
  obtain ⟨F, M, env, mem, Qb, st, en, h, k⟩ := h
  refine RdE.go st en h fun v H1 F1 M1 d m1 s1 st1 r1 h1 => ?_
  split at h1
  · rename_i i
    split at h1
    · rename_i hb
      obtain ⟨b1, b2⟩ := bRng_ok hb
      have r1 : v = .int i := r1
      exact ⟨i, by rw [r1], b1, b2, k _ _ H1 F1 M1 m1 s1 st1 (wk_range 0 i.toNat) h1⟩
    · cases h1
  · cases h1
theorem rd_iR2 (h : RdI W (iR2 fa fb) σ H R) : iRng2 (tCons (RdE W fa) (tCons (RdE W fb) tNil)) σ H R := by
  obtain ⟨F, M, env, mem, Qb, st, en, h, k⟩ := h
  refine RdE.at2 (R := fun v w H2 => ∃ i j : Int, [v, w] = [V.int i, V.int j] ∧ (-(2 ^ 62) ≤ i ∧ i < 2 ^ 62 ∧ -(2 ^ 62) ≤ j ∧ j < 2 ^ 62) ∧ R (Itr i (j - i).toNat) H2) ⟨F, M, env, mem, st, en, h, fun v1 v2 H2 F2 M2 d1 d2 m2 s2 st2 r1 r2 h2 => ?_⟩
  split at h2
  · rename_i i j
    split at h2
    · rename_i hb
      rw [Bool.and_eq_true] at hb
      obtain ⟨b1, b2⟩ := bRng_ok hb.1
      obtain ⟨b3, b4⟩ := bRng_ok hb.2
      have r1 : v1 = .int i := r1
      have r2 : v2 = .int j := r2
      exact ⟨i, j, by rw [r1, r2], ⟨b1, b2, b3, b4⟩, k _ _ H2 F2 M2 m2 s2 st2 (wk_range i (j - i).toNat) h2⟩
    · cases h2
  · cases h2
end
end MP
/-! MPS: calls, defs, comprehensions. -/
namespace MP
open PySem L2

/-! ### calls -/
def cCall (C : CC) (a : CA) : CE := fun env m Q => a env m fun ds m1 => C ds m1 Q
/-- f(a, .., k = v, ..): the places that the keywords' values go to -/
def permD (n : Nat) (ix : List Nat) (ds ks : List D) : Option (List D) :=
  (List.range n).mapM fun i => if i < ds.length then ds[i]? else match ix.findIdx? (· == i) with
    | some j => ks[j]?
    | none => none
/-- a def's promise by a closure -/
def spOf (W : Wd) (n : Nat) (C : CC) : Sp := fun vs H Q _ => vs.length = n ∧ ∃ F M ds mem Qb, StR W F M H mem ∧ RepDs W F M H ds vs ∧ C ds mem Qb = true ∧
  ∀ v H' d mem', Step F M H F M H' → StR W F M H' mem' → RepD W F M H' d v → Qb d mem' = true → Q v H'
theorem spOf_len {W : Wd} {n : Nat} {C : CC} {ps : List Str} (h : n = ps.length) : ∀ vs H Q E, spOf W n C vs H Q E → vs.length = ps.length := fun vs H Q E q => q.1.trans h
section
variable {W : Wd} {σ : L2.St} {H : Hp} {Q : VK} {C : CC} {a b : CA}
theorem rd_call {n : Nat} (hn : ∀ ds m Qb, C ds m Qb = true → ds.length = n) (h : RdE W (cCall C a) σ H Q) : tCall (spOf W n C) [] E0 (RdA W a) σ H Q := by
  obtain ⟨F, M, env, mem, Qb, st, en, h, k⟩ := h
  refine RdA.go st en h fun vs H1 F1 M1 ds m1 s1 st1 r1 h1 => ?_
  rw [List.append_nil]
  exact ⟨by rw [← r1.length]; exact hn _ _ _ h1, F1, M1, ds, m1, Qb, st1, r1, h1, fun v H' d mem' s2 => k v H' F1 M1 d mem' (s1.trans s2)⟩
end

/-! ### a def by its body -/
/-- what a def hands back, its own cells closed -/
def closeD (base : Nat) (m : Mem) (d : D) : Option D := match d with
  | .p v => some (.p v)
  | .ref n => if n < base then some (.ref n) else match m[n]? with
    | some (.lst xs) => some (.p (.lst xs))
    | some (.dct t k) => some (.p (.dct t k))
    | _ => none
  | .tup _ => none
def retOf (m0 : Nat) (Q : KD) : KD := fun d m1 => match closeD m0 m1 d with
  | some d' => Q d' (m1.take m0)
  | none => false
def startE (n : Nat) (ds : List D) : Env := ds.map some ++ List.replicate (n - ds.length) none
def callOf (k n : Nat) (body : CS) : CC := fun ds m Q => if ds.length = k then
    body { nx := fun _ m1 => retOf m.length Q (.p .non) m1, rt := retOf m.length Q, bk := fun _ _ => false, ct := fun _ _ => false } (startE n ds) m
  else false
theorem callOf_len {k n : Nat} {body : CS} (ds : List D) (m : Mem) (Q : KD) (h : callOf k n body ds m Q = true) : ds.length = k := by
  unfold callOf at h
  split at h
  · assumption
  · cases h
section
variable {W : Wd} {F F' : Addr → Prop} {M M' : List Addr} {H H' : Hp} {mem mem' : Mem}
/-- back at the caller: the callee's cells are forgotten -/
theorem back_ok {Q : KD} {VQ : VK} (st : StR W F M H mem) (s : Step F M H F' M' H') (st' : StR W F' M' H' mem') {d : D} {v : V} (r : RepD W F' M' H' d v) (h : retOf mem.length Q d mem' = true)
    (k : ∀ v H' d mem', Step F M H F M H' → StR W F M H' mem' → RepD W F M H' d v → Q d mem' = true → VQ v H') : VQ v H' := by
  obtain ⟨rr, eM, nr⟩ := s.mm
  have kl : Kp F' H' F H' := Kp.less s.fm
  have sF : Step F M H F M H' := ⟨fun _ h => h, ⟨[], by simp, by simp⟩, fun a o e n => ⟨(s.kp a o e n).1, n⟩, s.dm, s.kf⟩
  have stF : StR W F M H' (mem'.take mem.length) := by
    refine ⟨fun a q => s.dm a (st.dom a q), st.nd, st.inF, ?_, fun n a c e1 e2 => ?_, st'.tab, st.tabF⟩
    · rw [List.length_take, ← st'.len, eM, List.length_append, st.len]
      omega
    · have hn : n < M.length := (List.getElem?_eq_some_iff.mp e1).1
      have e1' : M'[n]? = some a := by rw [eM, List.getElem?_append_left hn]; exact e1
      have e2' : mem'[n]? = some c := by
        rw [List.getElem?_take_of_lt (by rw [← st.len]; exact hn)] at e2
        exact e2
      exact (st'.cell n a c e1' e2').kp kl fun o e => e
  unfold retOf at h
  split at h
  · rename_i d' ed
    refine k v H' d' _ sF stF ?_ h
    unfold closeD at ed
    split at ed
    · cases ed
      exact RepP.kp kl _ _ r
    · rename_i n
      obtain ⟨a, e1, ev⟩ := r
      have hn' : n < mem'.length := by rw [← st'.len]; exact (List.getElem?_eq_some_iff.mp e1).1
      split at ed
      · rename_i hn
        cases ed
        refine ⟨a, ?_, ev⟩
        rw [eM, List.getElem?_append_left (by rw [st.len]; exact hn)] at e1
        exact e1
      · rename_i hn
        have nF : ¬ F a := by
          intro q
          rw [eM, List.getElem?_append_right (by rw [st.len]; omega)] at e1
          exact st.dom a q (nr a (List.mem_of_getElem? e1))
        have hc := st'.cell n a mem'[n] e1 (List.getElem?_eq_getElem hn')
        rw [List.getElem?_eq_getElem hn'] at ed
        cases q : mem'[n] with
        | lst xs =>
          rw [q] at ed hc
          cases ed
          obtain ⟨vs, z, h1, h2⟩ := hc
          exact ⟨a, vs, ev, ⟨z, h1, nF⟩, RepPs.kp kl _ _ h2⟩
        | dct t kk =>
          rw [q] at ed hc
          cases ed
          obtain ⟨l, z, h1, h2⟩ := hc
          exact ⟨a, l, ev, ⟨z, nF, h2⟩, RepKv.kp kl _ _ h1⟩
        | bowl =>
          rw [q] at ed
          cases ed
    · cases ed
  · cases h
theorem startE_ok {N : List Str} {ds : List D} {vs : List V} (r : RepDs W F M H ds vs) (hN : ds.length ≤ N.length) : EnvR W F M H (startE N.length ds) (L2.start N vs) := by
  have hl := r.length
  refine ⟨?_, fun i d e => ?_⟩
  · unfold startE L2.start
    rw [List.length_append, List.length_append, List.length_map, List.length_map, List.length_replicate, List.length_replicate]
    omega
  · unfold startE at e
    by_cases hi : i < ds.length
    · rw [List.getElem?_append_left (by simpa using hi), List.getElem?_map] at e
      have : ∀ {ds : List D} {vs : List V} {i : Nat} {d : D}, RepDs W F M H ds vs → ds[i]? = some d → ∃ v, vs[i]? = some v ∧ RepD W F M H d v := by
        intro ds
        induction ds with
        | nil => intro vs i d _ e; simp at e
        | cons x xs ih =>
          intro vs i d r e
          obtain ⟨w, rr, e1, h1, h2⟩ := r
          subst e1
          cases i with
          | zero => simp at e; subst e; exact ⟨w, rfl, h1⟩
          | succ i =>
            obtain ⟨v, a1, a2⟩ := ih h2 (by simpa using e)
            exact ⟨v, by simpa using a1, a2⟩
      cases q : ds[i]? with
      | none => rw [q] at e; cases e
      | some d' =>
        rw [q] at e
        have e : some (some d') = some (some d) := e
        cases e
        obtain ⟨v, a1, a2⟩ := this r q
        refine ⟨v, ?_, a2⟩
        unfold L2.start
        rw [List.getElem?_append_left (by rw [List.length_map]; exact (List.getElem?_eq_some_iff.mp a1).1), List.getElem?_map, a1] <;> rfl
    · rw [List.getElem?_append_right (by simpa using hi), List.getElem?_replicate] at e
      split at e <;> cases e
theorem rd_body {N : List Str} {k : Nat} {body : CS} {vs : List V} {Q : VK} {E : XK} (hN : k ≤ N.length) (h : spOf W k (callOf k N.length body) vs H Q E) : RdS W body { nx := fun _ H' => Q .non H', rt := Q } (L2.start N vs) H := by
  obtain ⟨hl, F, M, ds, mem, Qb, st, r, h, kk⟩ := h
  have hd : ds.length = k := callOf_len _ _ _ h
  unfold callOf at h
  rw [if_pos hd] at h
  refine RdS.go st (startE_ok r (by omega)) h ⟨fun σ' H' F' M' env' mem' s st' en' h' => back_ok (v := .non) (d := .p .non) st s st' rfl h' kk, fun v H' F' M' d mem' s st' r' h' => back_ok st s st' r' h' kk, fun σ' H' F' M' env' mem' s st' en' h' => ?_, fun σ' H' F' M' env' mem' s st' en' h' => ?_⟩
  · cases h'
  · cases h'
end

/-! ### comprehensions -/
def wipeE (env : Env) : List Nat → Env
  | [] => env
  | v :: vs => (wipeE env vs).set v none
def memSame (m m' : Mem) : Bool := Nat.beq m.length m'.length
def lcGo (g : Tg) (t : CT) (e : CE) (env : Env) (n0 : Nat) (Q : List P → Mem → Bool) : List P → Mem → Nat → List P → Bool
  | [], m, _, acc => Q acc.reverse m
  | x :: r, m, n, acc => match g.run (.p x) env with
    | some env1 => t env1 m fun b m1 => if b then e env1 m1 fun y m2 => match y with
        | .p v => if Nat.beq m2.length n0 && Nat.ble n 1000000 then lcGo g t e env n0 Q r m2 (n + 1) (v :: acc) else false
        | _ => false
      else if Nat.beq m1.length n0 then lcGo g t e env n0 Q r m1 n acc else false
    | none => false
def cLc (mu : Bool) (own : List Nat) (i : CI) (g : Tg) (t : CT) (e : CE) : CE := fun env m Q => i env m fun xs m1 =>
  lcGo g t e (wipeE env own) m1.length (fun ys m2 => out mu (.lst ys) m2 Q) xs m1 0 []
section
variable {W : Wd} {F F' : Addr → Prop} {M M' : List Addr} {H H' : Hp} {mem mem' : Mem}
theorem wipe_ok {env : Env} {σ : L2.St} (en : EnvR W F M H env σ) : ∀ vs : List Nat, EnvR W F M H (wipeE env vs) (wipe σ vs)
  | [] => en
  | v :: vs => by
    have ih := wipe_ok en vs
    refine ⟨?_, fun i d e => ?_⟩
    · show ((wipeE env vs).set v none).length = ((wipe σ vs).set v none).length
      rw [List.length_set, List.length_set, ih.len]
    · have e : ((wipeE env vs).set v none)[i]? = some (some d) := e
      by_cases hv : v = i
      · subst hv
        by_cases hl : v < (wipeE env vs).length
        · rw [List.getElem?_set_self hl] at e
          cases e
        · rw [List.getElem?_eq_none (by rw [List.length_set]; omega)] at e
          cases e
      · rw [List.getElem?_set_ne hv] at e
        obtain ⟨w, h1, h2⟩ := ih.at_ i d e
        exact ⟨w, by show ((wipe σ vs).set v none)[i]? = _; rw [List.getElem?_set_ne hv]; exact h1, h2⟩
theorem wipe_set {σ : L2.St} {i : Nat} {x : Option V} : ∀ {vs : List Nat}, i ∈ vs → wipe (σ.set i x) vs = wipe σ vs
  | v :: vs, h => by
    show (wipe (σ.set i x) vs).set v none = (wipe σ vs).set v none
    by_cases hv : v = i
    · subst hv
      by_cases hm : v ∈ vs
      · rw [wipe_set hm]
      · have : ∀ {vs : List Nat} {σ : L2.St}, v ∉ vs → wipe (σ.set v x) vs = (wipe σ vs).set v x := by
          intro vs
          induction vs with
          | nil => intro σ _; rfl
          | cons w ws ih =>
            intro σ hm
            have h1 : v ∉ ws := fun q => hm (List.mem_cons_of_mem _ q)
            have h2 : v ≠ w := fun q => hm (by rw [q]; exact List.mem_cons_self)
            show (wipe (σ.set v x) ws).set w none = ((wipe σ ws).set w none).set v x
            rw [ih h1, List.set_comm _ _ h2]
        rw [this hm, List.set_set]
    · rcases List.mem_cons.mp h with e | e
      · exact absurd e.symm hv
      · rw [wipe_set e]
theorem wipe_fold {vs : List Nat} : ∀ {ps : List (Nat × V)} {σ : L2.St}, (∀ p ∈ ps, p.1 ∈ vs) → wipe (ps.foldl (fun s p => s.set p.1 (some p.2)) σ) vs = wipe σ vs
  | [], σ, _ => rfl
  | p :: ps, σ, h => by
    show wipe (ps.foldl (fun s p => s.set p.1 (some p.2)) (σ.set p.1 (some p.2))) vs = _
    rw [wipe_fold fun q hq => h q (List.mem_cons_of_mem _ hq), wipe_set (h p List.mem_cons_self)]
theorem wipe_wipe {σ : L2.St} : ∀ (vs : List Nat), wipe (wipe σ vs) vs = wipe σ vs := by
  have key : ∀ (ws vs : List Nat) (σ : L2.St), (∀ w ∈ ws, w ∈ vs) → wipe (wipe σ ws) vs = wipe σ vs := by
    intro ws
    induction ws with
    | nil => intro vs σ _; rfl
    | cons w ws ih =>
      intro vs σ h
      show wipe ((wipe σ ws).set w none) vs = _
      rw [wipe_set (h w List.mem_cons_self)]
      exact ih vs σ fun x hx => h x (List.mem_cons_of_mem _ hx)
  exact fun vs => key vs vs σ fun w h => h
theorem tabs_write {T : List (Addr × Str)} {D : Addr} (hD : ∀ o, H D = some o → (∀ ps, o ≠ .tbl ps) ∧ ∀ φ, o ≠ .ext φ) (e : ∀ b o, b ≠ D → H b = some o → H' b = some o) (h : LamX.Tabs T H) : LamX.Tabs T H' := by
  intro p hp
  obtain ⟨ps, h1, h2, h3⟩ := h p hp
  refine ⟨ps, e _ _ (fun z => (hD _ (z ▸ h1)).1 ps rfl) h1, h2, fun pos cv hc => ?_⟩
  obtain ⟨c, e1, e2⟩ := h3 pos cv hc
  exact ⟨c, e1, e _ _ (fun z => by
    rw [z] at e2
    unfold LamX.CodeO at e2
    exact (hD _ e2).2 _ rfl) e2⟩
/-- an object open to writing, no cell, is written -/
theorem StR.put {G : Addr → Prop} {D : Addr} {o o' : HO} (st : StR W G M H mem) (hG : G D) (hM : D ∉ M) (hD : H D = some o) (n1 : ∀ ps, o ≠ .tbl ps) (n2 : ∀ φ, o ≠ .ext φ) : Kp G H G (upd H D o') ∧ StR W G M (upd H D o') mem := by
  have kp : Kp G H G (upd H D o') := fun a u e n => ⟨by
    rw [upd_ne (fun z => n (by rw [z]; exact hG))]
    exact e, n⟩
  refine ⟨kp, ⟨fun a q => ?_, st.nd, st.inF, st.len, fun n a c e1 e2 => ?_, ?_, st.tabF⟩⟩
  · by_cases h : a = D
    · subst h
      rw [upd_same]
      simp
    · rw [upd_ne h]
      exact st.dom a q
  · refine (st.cell n a c e1 e2).kp kp fun u e => ?_
    rw [upd_ne (fun z => hM (by rw [← z]; exact List.mem_of_getElem? e1))]
    exact e
  · refine tabs_write (D := D) (fun u e => ?_) (fun b u n e => ?_) st.tab
    · rw [hD] at e
      cases e
      exact ⟨n1, n2⟩
    · rw [upd_ne n]
      exact e
theorem mem_take_same {n : Nat} (h : Nat.beq n mem.length = true) : n = mem.length := Nat.eq_of_beq_eq_true h
theorem rd_lc {mu : Bool} {own : List Nat} {fi : CI} {g : Tg} {t : CT} {fe : CE} {σ : L2.St} {Q : VK} (hg : ∀ i ∈ g.ix, i ∈ own) (h : RdE W (cLc mu own fi g t fe) σ H Q) :
    tLc (RdI W fi) (g.rd W.K) (RdT W t) (RdE W fe) own σ H Q := by
  obtain ⟨F, M, env, mem, Qb, st, en, h, k⟩ := h
  refine ⟨F, M, env, mem, _, st, en, h, fun J xs H1 F1 M1 m1 s1 st1 wk h1 => ?_⟩
  intro D hD
  have nF : ¬ F1 D := st1.fresh hD
  have nM : D ∉ M1 := fun q => nF (st1.inF D q)
  have en1 := en.mono s1
  have same0 : Same H1 (upd H1 D (.lst [])) := Same.new hD
  have kp0 : Kp F1 H1 (fun b => F1 b ∨ b = D) (upd H1 D (.lst [])) := fun a o e n => ⟨same0 a o e, fun q => by
    rcases q with q | q
    · exact n q
    · subst q
      rw [hD] at e
      cases e⟩
  have stG : StR W (fun b => F1 b ∨ b = D) M1 (upd H1 D (.lst [])) m1 := by
    have st' := st1.same same0
    refine ⟨fun a q => ?_, st1.nd, fun a q => .inl (st1.inF a q), st1.len, fun n a c e1 e2 => (st1.cell n a c e1 e2).kp kp0 (same0 a), st'.tab, fun p hp => .inl (st1.tabF p hp)⟩
    rcases q with q | q
    · exact st'.dom a q
    · subst q
      rw [upd_same]
      simp
  have s0 : Step F1 M1 H1 (fun b => (F1 b ∨ b = D) ∧ b ≠ D) M1 (upd H1 D (.lst [])) := by
    refine ⟨fun a q => ⟨.inl q, fun z => nF (z ▸ q)⟩, ⟨[], by simp, by simp⟩, fun a o e n => ⟨same0 a o e, fun q => ?_⟩, (Step.same (F := F1) (M := M1) same0).dm, fun a o _ _ _ e => same0 a o e⟩
    rcases q.1 with z | z
    · exact n z
    · exact q.2 z
  have enG : EnvR W (fun b => F1 b ∨ b = D) M1 (upd H1 D (.lst [])) (wipeE env own) (wipe σ own) := by
    refine wipe_ok ⟨en1.len, fun i d e => ?_⟩ own
    obtain ⟨v, q1, q2⟩ := en1.at_ i d e
    exact ⟨v, q1, RepD.mono (F := F1) (M := M1) (H := H1) ⟨fun a q => .inl q, ⟨[], by simp, by simp⟩, kp0, (Step.same (F := F1) (M := M1) same0).dm, fun a o _ _ _ e => same0 a o e⟩ d v q2⟩
  refine ⟨fun i m H2 => ∃ G M2 mem2 acc, Step F1 M1 H1 (fun b => G b ∧ b ≠ D) M2 H2 ∧ StR W G M2 H2 mem2 ∧ G D ∧ EnvR W G M2 H2 (wipeE env own) (wipe σ own) ∧ (∃ vs, H2 D = some (.lst vs) ∧ RepPs W G H2 acc.reverse vs) ∧
      m = xs.length - i ∧ i ≤ xs.length ∧ acc.length ≤ 1000001 ∧ mem2.length = m1.length ∧ lcGo g t fe (wipeE env own) m1.length (fun ys m2 => out mu (.lst ys) m2 Qb) (xs.drop i) mem2 acc.length acc = true,
    ⟨xs.length, _, M1, m1, [], s0, stG, .inr rfl, enG, ⟨[], upd_same, (show RepPs _ _ _ ([] : List P).reverse [] from rfl)⟩, by simp, Nat.zero_le _, Nat.zero_le _, rfl, h1⟩, ?_⟩
  rintro i m H2 ⟨G, M2, mem2, acc, s2, st2, gD, en2, ⟨vs, hv, rv⟩, rfl, hi, hl, hm, h2⟩
  have nM2 : D ∉ M2 := by
    obtain ⟨r, e, n⟩ := s2.mm
    have : M2.length = M1.length := by rw [st2.len, hm, st1.len]
    have hr : r = [] := by
      rw [e, List.length_append] at this
      exact List.eq_nil_of_length_eq_zero (by omega)
    rw [e, hr, List.append_nil]
    exact nM
  have kpG : Kp F1 H1 G H2 := fun a o e n => by
    obtain ⟨q1, q2⟩ := s2.kp a o e n
    refine ⟨q1, fun z => q2 ⟨z, fun y => ?_⟩⟩
    subst y
    rw [hD] at e
    cases e
  obtain ⟨w1, w2⟩ := wk G M2 H2 mem2 kpG st2 i
  by_cases hlt : i < xs.length
  · rw [List.drop_eq_getElem_cons hlt] at h2
    obtain ⟨g1, g2⟩ := w1 xs[i] (List.getElem?_eq_getElem hlt)
    refine .inr ⟨g1, fun H' => ∃ G M2 mem2 acc, Step F1 M1 H1 (fun b => G b ∧ b ≠ D) M2 H' ∧ StR W G M2 H' mem2 ∧ G D ∧ EnvR W G M2 H' (wipeE env own) (wipe σ own) ∧ (∃ vs, H' D = some (.lst vs) ∧ RepPs W G H' acc.reverse vs) ∧
      acc.length ≤ 1000001 ∧ mem2.length = m1.length ∧ lcGo g t fe (wipeE env own) m1.length (fun ys m2 => out mu (.lst ys) m2 Qb) (xs.drop (i + 1)) mem2 acc.length acc = true,
      fun H' ⟨G', M', mem', acc', a1, a2, a3, a4, a5, a6, a7, a8⟩ => ⟨xs.length - (i + 1), by omega, G', M', mem', acc', a1, a2, a3, a4, a5, rfl, hlt, a6, a7, a8⟩, fun x H3 y => ?_⟩
    obtain ⟨sm, rp⟩ := g2 x H3 y
    have st3 := st2.same sm
    have en3 := en2.mono (Step.same sm)
    dsimp only [lcGo] at h2
    split at h2
    · rename_i env4 eg
      refine Tg.ok eg en3 (d := .p xs[i]) rp fun σ4 en4 ⟨ws, hw, e4⟩ => ⟨?_, ?_⟩
      · rw [e4, wipe_fold (fun p hp => hg p.1 (List.of_mem_zip hp).1), wipe_wipe]
      refine RdT.go st3 en4 h2 fun b H4 F4 M4 m4 s4 st4 h4 => ?_
      -- a state behind the turn's test or element
      have later : ∀ {F5 : Addr → Prop} {M5 : List Addr} {H5 : Hp}, Step G M2 H3 F5 M5 H5 → (∀ m5 : Mem, StR W F5 M5 H5 m5 → m5.length = m1.length → Step F1 M1 H1 (fun b => F5 b ∧ b ≠ D) M5 H5 ∧ F5 D ∧ EnvR W F5 M5 H5 (wipeE env own) (wipe σ own) ∧ D ∉ M5 ∧ H5 D = some (.lst vs) ∧ RepPs W F5 H5 acc.reverse vs) := fun {F5 M5 H5} s5 m5 st5 hm5 => by
        have sm2 := Step.same (F := G) (M := M2) sm
        have s35 := sm2.trans s5
        have hv3 : H3 D = some (.lst vs) := sm D _ hv
        have eM : M5 = M2 := by
          obtain ⟨r, e, n⟩ := s5.mm
          have : M5.length = M2.length := by rw [st5.len, hm5, st2.len, hm]
          have hr : r = [] := by
            rw [e, List.length_append] at this
            exact List.eq_nil_of_length_eq_zero (by omega)
          rw [e, hr, List.append_nil]
        refine ⟨⟨fun a q => ?_, ?_, fun a o e n => ?_, fun a q => s35.dm a (s2.dm a q), fun a o q1 q2 q3 q4 => ?_⟩, s35.fm D gD, en2.mono s35, by rw [eM]; exact nM2, s5.kf D _ gD nM2 (fun ps z => by cases z) hv3, RepPs.kp s35.kp _ _ rv⟩
        · have z := s2.fm a q
          exact ⟨s35.fm a z.1, z.2⟩
        · rw [eM]
          exact s2.mm
        · obtain ⟨q1, q2⟩ := kpG a o e n
          obtain ⟨q3, q4⟩ := s35.kp a o q1 q2
          exact ⟨q3, fun z => q4 z.1⟩
        · have z1 := s2.kf a o q1 q2 q3 q4
          have z2 := s2.fm a q1
          refine s35.kf a o z2.1 (fun z => ?_) q3 z1
          obtain ⟨r, e, n⟩ := s2.mm
          rw [e] at z
          rcases List.mem_append.mp z with z | z
          · exact q2 z
          · rw [n a z] at q4
            cases q4
      cases b with
      | false =>
        rw [if_neg Bool.false_ne_true] at h4 ⊢
        split at h4
        · rename_i hb
          have hm4 : m4.length = m1.length := Nat.eq_of_beq_eq_true hb
          obtain ⟨a1, a2, a3, a4, a5, a6⟩ := later s4 m4 st4 hm4
          exact ⟨F4, M4, m4, acc, a1, st4, a2, a3, ⟨vs, a5, a6⟩, hl, hm4, h4⟩
        · cases h4
      | true =>
        rw [if_pos rfl] at h4 ⊢
        refine RdE.go st4 (en4.mono s4) h4 fun yv H5 F5 M5 d5 m5 s5 st5 r5 h5 => ?_
        split at h5
        · rename_i v
          split at h5
          · rename_i hb
            rw [Bool.and_eq_true] at hb
            have hm5 : m5.length = m1.length := Nat.eq_of_beq_eq_true hb.1
            have hn : acc.length ≤ 1000000 := Nat.le_of_ble_eq_true hb.2
            obtain ⟨a1, a2, a3, a4, a5, a6⟩ := later (s4.trans s5) m5 st5 hm5
            have hvl : vs.length = acc.length := by rw [← a6.length, List.length_reverse]
            refine ⟨vs, a5, by rw [hvl, sizeLine_eq]; omega, F5, M5, m5, v :: acc, ?_, ?_, a2, ?_, ⟨vs ++ [yv], upd_same, ?_⟩, by rw [List.length_cons]; omega, hm5, ?_⟩
            · refine ⟨a1.fm, a1.mm, fun a o e n => ?_, fun a q => ?_, fun a o q1 q2 q3 q4 => ?_⟩
              · obtain ⟨q1, q2⟩ := a1.kp a o e n
                refine ⟨?_, q2⟩
                rw [upd_ne (fun z => by subst z; rw [hD] at e; cases e)]
                exact q1
              · by_cases z : a = D
                · subst z
                  rw [upd_same]
                  simp
                · rw [upd_ne z]
                  exact a1.dm a q
              · rw [upd_ne (fun z => by subst z; rw [hD] at q4; cases q4)]
                exact a1.kf a o q1 q2 q3 q4
            · exact (st5.put a2 a4 a5 (fun ps z => by cases z) (fun φ z => by cases z)).2
            · obtain ⟨kp5, st5'⟩ := st5.put (o' := .lst (vs ++ [yv])) a2 a4 a5 (fun ps z => by cases z) (fun φ z => by cases z)
              refine ⟨a3.len, fun j d e => ?_⟩
              obtain ⟨w, q1, q2⟩ := a3.at_ j d e
              exact ⟨w, q1, RepD.kp kp5 (fun _ _ q => q) d w q2⟩
            · obtain ⟨kp5, st5'⟩ := st5.put (o' := .lst (vs ++ [yv])) a2 a4 a5 (fun ps z => by cases z) (fun φ z => by cases z)
              rw [List.reverse_cons]
              exact (RepPs.kp kp5 _ _ a6).append ⟨yv, [], rfl, RepP.kp kp5 _ _ r5, rfl⟩
            · exact h5
          · cases h5
        · cases h5
    · cases h2
  · have e : i = xs.length := by omega
    subst e
    rw [List.drop_length] at h2
    refine .inl ⟨w2 (Nat.le_refl _), ?_⟩
    have h2 : out mu (.lst acc.reverse) mem2 Qb = true := h2
    have vl : vs.length ≤ sizeLine := by rw [← rv.length, List.length_reverse, sizeLine_eq]; omega
    cases mu with
    | true =>
      have h2 : Qb (.ref mem2.length) (mem2 ++ [.lst acc.reverse]) = true := h2
      refine k (.ref D) H2 G (M2 ++ [D]) (.ref mem2.length) (mem2 ++ [.lst acc.reverse]) (s1.trans ⟨fun a q => (s2.fm a q).1, ?_, kpG, s2.dm, s2.kf⟩) ?_ ⟨D, ?_, rfl⟩ h2
      · obtain ⟨r, e, n⟩ := s2.mm
        refine ⟨r ++ [D], by rw [e, List.append_assoc], fun a q => ?_⟩
        rcases List.mem_append.mp q with q | q
        · exact n a q
        · have : a = D := by simpa using q
          subst this
          exact hD
      · refine ⟨st2.dom, ?_, fun a q => ?_, by rw [List.length_append, List.length_append, st2.len] <;> rfl, fun n a c e1 e2 => ?_, st2.tab, st2.tabF⟩
        · exact List.nodup_append.mpr ⟨st2.nd, by simp, fun x hx y hy => by
            have : y = D := by simpa using hy
            subst this
            exact fun z => nM2 (z ▸ hx)⟩
        · rcases List.mem_append.mp q with q | q
          · exact st2.inF a q
          · have : a = D := by simpa using q
            subst this
            exact gD
        · by_cases hn : n < M2.length
          · rw [List.getElem?_append_left hn] at e1
            rw [List.getElem?_append_left (by rw [← st2.len]; exact hn)] at e2
            exact st2.cell n a c e1 e2
          · rw [List.getElem?_append_right (by omega)] at e1
            rw [List.getElem?_append_right (by rw [← st2.len]; omega), ← st2.len] at e2
            have hk : n - M2.length = 0 := by
              have := (List.getElem?_eq_some_iff.mp e1).1
              simp at this
              omega
            rw [hk] at e1 e2
            cases e1
            cases e2
            exact ⟨vs, vl, hv, rv⟩
      · rw [← st2.len, List.getElem?_append_right (Nat.le_refl _), Nat.sub_self] <;> rfl
    | false =>
      have h2 : Qb (.p (.lst acc.reverse)) mem2 = true := h2
      have kl : Kp G H2 (fun b => G b ∧ b ≠ D) H2 := Kp.less fun a q => q.1
      refine k (.ref D) H2 _ M2 (.p (.lst acc.reverse)) mem2 (s1.trans s2) ?_ ⟨D, vs, rfl, ⟨vl, hv, fun q => q.2 rfl⟩, RepPs.kp kl _ _ rv⟩ h2
      refine ⟨fun a q => st2.dom a q.1, st2.nd, fun a q => ⟨st2.inF a q, fun z => nM2 (z ▸ q)⟩, st2.len, fun n a c e1 e2 => (st2.cell n a c e1 e2).kp kl fun o e => e, st2.tab, fun p hp => ⟨st2.tabF p hp, fun z => ?_⟩⟩
      obtain ⟨ps, q1, _⟩ := st2.tab p hp
      rw [z, hv] at q1
      cases q1
end
end MP
/-! MPT: a comprehension with two fors. -/
namespace MP
open PySem L2
def lc2In (g : Tg) (t : CT) (e : CE) (env : Env) (n0 : Nat) (Q : Mem → Nat → List P → Bool) : List P → Mem → Nat → List P → Bool
  | [], m, n, acc => Q m n acc
  | x :: r, m, n, acc => match g.run (.p x) env with
    | some env1 => t env1 m fun b m1 => if b then e env1 m1 fun y m2 => match y with
        | .p v => if Nat.beq m2.length n0 && Nat.ble n 1000000 then lc2In g t e env n0 Q r m2 (n + 1) (v :: acc) else false
        | _ => false
      else if Nat.beq m1.length n0 then lc2In g t e env n0 Q r m1 n acc else false
    | none => false
def lc2Go (g : Tg) (t : CT) (i1 : CI) (own1 : List Nat) (g1 : Tg) (t1 : CT) (e : CE) (env : Env) (n0 : Nat) (Q : List P → Mem → Bool) : List P → Mem → Nat → List P → Bool
  | [], m, _, acc => Q acc.reverse m
  | x :: r, m, n, acc => match g.run (.p x) env with
    | some env1 => t env1 m fun b m1 => if b then i1 env1 m1 fun ys m2 => if Nat.beq m2.length n0 then
          lc2In g1 t1 e (wipeE env1 own1) n0 (fun m3 n3 acc3 => lc2Go g t i1 own1 g1 t1 e env n0 Q r m3 n3 acc3) ys m2 n acc else false
      else if Nat.beq m1.length n0 then lc2Go g t i1 own1 g1 t1 e env n0 Q r m1 n acc else false
    | none => false
def cLc2 (mu : Bool) (own own1 : List Nat) (i : CI) (g : Tg) (t : CT) (i1 : CI) (g1 : Tg) (t1 : CT) (e : CE) : CE := fun env m Q => i env m fun xs m1 =>
  lc2Go g t i1 own1 g1 t1 e (wipeE env own) m1.length (fun ys m2 => out mu (.lst ys) m2 Q) xs m1 0 []
section
variable {W : Wd} {F1 G G' : Addr → Prop} {M1 M2 M' : List Addr} {H1 H2 H' : Hp} {mem2 m' : Mem} {D : Addr} {n0 : Nat} {acc : List P}
/-- the list at D is being made -/
structure Gr (W : Wd) (F1 : Addr → Prop) (M1 : List Addr) (H1 : Hp) (D : Addr) (n0 : Nat) (G : Addr → Prop) (M2 : List Addr) (H2 : Hp) (mem2 : Mem) (acc : List P) : Prop where
  hD : H1 D = none
  n1 : M1.length = n0
  s : Step F1 M1 H1 (fun b => G b ∧ b ≠ D) M2 H2
  st : StR W G M2 H2 mem2
  g : G D
  at_ : ∃ vs, H2 D = some (.lst vs) ∧ RepPs W G H2 acc.reverse vs
  l : acc.length ≤ 1000001
  m : mem2.length = n0
theorem Gr.eM (h : Gr W F1 M1 H1 D n0 G M2 H2 mem2 acc) : M2 = M1 := by
  obtain ⟨r, e, n⟩ := h.s.mm
  have : M2.length = M1.length := by rw [h.st.len, h.m, h.n1]
  have hr : r = [] := by
    rw [e, List.length_append] at this
    exact List.eq_nil_of_length_eq_zero (by omega)
  rw [e, hr, List.append_nil]
theorem Gr.kp (h : Gr W F1 M1 H1 D n0 G M2 H2 mem2 acc) : Kp F1 H1 G H2 := fun a o e n => by
  obtain ⟨q1, q2⟩ := h.s.kp a o e n
  refine ⟨q1, fun z => q2 ⟨z, fun y => ?_⟩⟩
  subst y
  rw [h.hD] at e
  cases e
theorem Gr.nM (h : Gr W F1 M1 H1 D n0 G M2 H2 mem2 acc) (h0 : D ∉ M1) : D ∉ M2 := by
  rw [h.eM]
  exact h0
theorem Gr.step (h : Gr W F1 M1 H1 D n0 G M2 H2 mem2 acc) (h0 : D ∉ M1) (s : Step G M2 H2 G' M' H') (st : StR W G' M' H' m') (hm : m'.length = n0) : Gr W F1 M1 H1 D n0 G' M' H' m' acc := by
  obtain ⟨vs, hv, rv⟩ := h.at_
  have nM2 := h.nM h0
  have eM : M' = M2 := by
    obtain ⟨r, e, n⟩ := s.mm
    have : M'.length = M2.length := by rw [st.len, hm, h.st.len, h.m]
    have hr : r = [] := by
      rw [e, List.length_append] at this
      exact List.eq_nil_of_length_eq_zero (by omega)
    rw [e, hr, List.append_nil]
  refine ⟨h.hD, h.n1, ⟨fun a q => ?_, ?_, fun a o e n => ?_, fun a q => s.dm a (h.s.dm a q), fun a o q1 q2 q3 q4 => ?_⟩, st, s.fm D h.g, ⟨vs, s.kf D _ h.g nM2 (fun ps z => by cases z) hv, RepPs.kp s.kp _ _ rv⟩, h.l, hm⟩
  · have z := h.s.fm a q
    exact ⟨s.fm a z.1, z.2⟩
  · rw [eM]
    exact h.s.mm
  · obtain ⟨q1, q2⟩ := h.kp a o e n
    obtain ⟨q3, q4⟩ := s.kp a o q1 q2
    exact ⟨q3, fun z => q4 z.1⟩
  · have z1 := h.s.kf a o q1 q2 q3 q4
    have z2 := h.s.fm a q1
    refine s.kf a o z2.1 (fun z => ?_) q3 z1
    rw [h.eM] at z
    exact q2 z
theorem Gr.push (h : Gr W F1 M1 H1 D n0 G M2 H2 mem2 acc) (h0 : D ∉ M1) (hn : acc.length ≤ 1000000) {p : P} {v : V} (r : RepP W G H2 p v) :
    ∃ vs, H2 D = some (.lst vs) ∧ vs.length < sizeLine ∧ Gr W F1 M1 H1 D n0 G M2 (upd H2 D (.lst (vs ++ [v]))) mem2 (p :: acc) ∧ Kp G H2 G (upd H2 D (.lst (vs ++ [v]))) := by
  obtain ⟨vs, hv, rv⟩ := h.at_
  have hvl : vs.length = acc.length := by rw [← rv.length, List.length_reverse]
  obtain ⟨kp5, st5⟩ := h.st.put (o' := .lst (vs ++ [v])) h.g (h.nM h0) hv (fun ps z => by cases z) (fun φ z => by cases z)
  refine ⟨vs, hv, by rw [hvl, sizeLine_eq]; omega, ⟨h.hD, h.n1, ⟨h.s.fm, h.s.mm, fun a o e n => ?_, fun a q => ?_, fun a o q1 q2 q3 q4 => ?_⟩, st5, h.g, ⟨vs ++ [v], upd_same, ?_⟩, by rw [List.length_cons]; omega, h.m⟩, kp5⟩
  · obtain ⟨q1, q2⟩ := h.s.kp a o e n
    refine ⟨?_, q2⟩
    rw [upd_ne (fun z => by rw [z, h.hD] at e; cases e)]
    exact q1
  · by_cases z : a = D
    · subst z
      rw [upd_same]
      simp
    · rw [upd_ne z]
      exact h.s.dm a q
  · rw [upd_ne (fun z => by rw [z, h.hD] at q4; cases q4)]
    exact h.s.kf a o q1 q2 q3 q4
  · rw [List.reverse_cons]
    exact (RepPs.kp kp5 _ _ rv).append ⟨v, [], rfl, RepP.kp kp5 _ _ r, rfl⟩
theorem Gr.start {m1 : Mem} (st1 : StR W F1 M1 H1 m1) (hD : H1 D = none) : Gr W F1 M1 H1 D m1.length (fun b => F1 b ∨ b = D) M1 (upd H1 D (.lst [])) m1 [] := by
  have nF : ¬ F1 D := st1.fresh hD
  have same0 : Same H1 (upd H1 D (.lst [])) := Same.new hD
  have kp0 : Kp F1 H1 (fun b => F1 b ∨ b = D) (upd H1 D (.lst [])) := fun a o e n => ⟨same0 a o e, fun q => by
    rcases q with q | q
    · exact n q
    · subst q
      rw [hD] at e
      cases e⟩
  have st' := st1.same same0
  refine ⟨hD, st1.len, ⟨fun a q => ⟨.inl q, fun z => nF (by rw [← z]; exact q)⟩, ⟨[], by simp, by simp⟩, fun a o e n => ⟨same0 a o e, fun q => ?_⟩, (Step.same (F := F1) (M := M1) same0).dm, fun a o _ _ _ e => same0 a o e⟩,
    ⟨fun a q => ?_, st1.nd, fun a q => .inl (st1.inF a q), st1.len, fun n a c e1 e2 => (st1.cell n a c e1 e2).kp kp0 (same0 a), st'.tab, fun p hp => .inl (st1.tabF p hp)⟩, .inr rfl, ⟨[], upd_same, rfl⟩, Nat.zero_le _, rfl⟩
  · rcases q.1 with z | z
    · exact n z
    · exact q.2 z
  · rcases q with q | q
    · exact st'.dom a q
    · subst q
      rw [upd_same]
      simp
theorem Gr.done {mu : Bool} {Qb : KD} {Q : VK} (h : Gr W F1 M1 H1 D n0 G M2 H2 mem2 acc) (h0 : D ∉ M1) (h2 : out mu (.lst acc.reverse) mem2 Qb = true)
    (k : ∀ v H' F' M' d mem', Step F1 M1 H1 F' M' H' → StR W F' M' H' mem' → RepD W F' M' H' d v → Qb d mem' = true → Q v H') : Q (.ref D) H2 := by
  obtain ⟨vs, hv, rv⟩ := h.at_
  have st2 := h.st
  have nM2 := h.nM h0
  have vl : vs.length ≤ sizeLine := by rw [← rv.length, List.length_reverse, sizeLine_eq]; have := h.l; omega
  cases mu with
  | true =>
    have h2 : Qb (.ref mem2.length) (mem2 ++ [.lst acc.reverse]) = true := h2
    refine k (.ref D) H2 G (M2 ++ [D]) (.ref mem2.length) (mem2 ++ [.lst acc.reverse]) ⟨fun a q => (h.s.fm a q).1, ?_, h.kp, h.s.dm, h.s.kf⟩ ?_ ⟨D, ?_, rfl⟩ h2
    · obtain ⟨r, e, n⟩ := h.s.mm
      refine ⟨r ++ [D], by rw [e, List.append_assoc], fun a q => ?_⟩
      rcases List.mem_append.mp q with q | q
      · exact n a q
      · have : a = D := by simpa using q
        subst this
        exact h.hD
    · refine ⟨st2.dom, ?_, fun a q => ?_, by rw [List.length_append, List.length_append, st2.len] <;> rfl, fun n a c e1 e2 => ?_, st2.tab, st2.tabF⟩
      · exact List.nodup_append.mpr ⟨st2.nd, by simp, fun x hx y hy => by
          have : y = D := by simpa using hy
          subst this
          exact fun z => nM2 (z ▸ hx)⟩
      · rcases List.mem_append.mp q with q | q
        · exact st2.inF a q
        · have : a = D := by simpa using q
          subst this
          exact h.g
      · by_cases hn : n < M2.length
        · rw [List.getElem?_append_left hn] at e1
          rw [List.getElem?_append_left (by rw [← st2.len]; exact hn)] at e2
          exact st2.cell n a c e1 e2
        · rw [List.getElem?_append_right (by omega)] at e1
          rw [List.getElem?_append_right (by rw [← st2.len]; omega), ← st2.len] at e2
          have hk : n - M2.length = 0 := by
            have := (List.getElem?_eq_some_iff.mp e1).1
            simp at this
            omega
          rw [hk] at e1 e2
          cases e1
          cases e2
          exact ⟨vs, vl, hv, rv⟩
    · rw [← st2.len, List.getElem?_append_right (Nat.le_refl _), Nat.sub_self] <;> rfl
  | false =>
    have h2 : Qb (.p (.lst acc.reverse)) mem2 = true := h2
    have kl : Kp G H2 (fun b => G b ∧ b ≠ D) H2 := Kp.less fun a q => q.1
    refine k (.ref D) H2 _ M2 (.p (.lst acc.reverse)) mem2 h.s ?_ ⟨D, vs, rfl, ⟨vl, hv, fun q => q.2 rfl⟩, RepPs.kp kl _ _ rv⟩ h2
    refine ⟨fun a q => st2.dom a q.1, st2.nd, fun a q => ⟨st2.inF a q, fun z => nM2 (z ▸ q)⟩, st2.len, fun n a c e1 e2 => (st2.cell n a c e1 e2).kp kl fun o e => e, st2.tab, fun p hp => ⟨st2.tabF p hp, fun z => ?_⟩⟩
    obtain ⟨ps, q1, _⟩ := st2.tab p hp
    rw [z, hv] at q1
    cases q1
theorem EnvR.kp {env : Env} {σ : L2.St} (k : Kp G H1 G' H2) (e : M2 = M1) (h : EnvR W G M1 H1 env σ) : EnvR W G' M2 H2 env σ := by
  subst e
  exact ⟨h.len, fun i d q => let ⟨v, a, b⟩ := h.at_ i d q; ⟨v, a, RepD.kp k (fun _ _ z => z) d v b⟩⟩
theorem rd_lc2 {mu : Bool} {own own1 : List Nat} {fi fi1 : CI} {g g1 : Tg} {t t1 : CT} {fe : CE} {σ : L2.St} {H : Hp} {Q : VK} (hg : ∀ i ∈ g.ix, i ∈ own) (hg1 : ∀ i ∈ g1.ix, i ∈ own1) (h : RdE W (cLc2 mu own own1 fi g t fi1 g1 t1 fe) σ H Q) :
    tLc2 (RdI W fi) (g.rd W.K) (RdT W t) (RdI W fi1) (g1.rd W.K) (RdT W t1) (RdE W fe) own own1 σ H Q := by
  obtain ⟨F, M, env, mem, Qb, st, en, h, k⟩ := h
  refine ⟨F, M, env, mem, _, st, en, h, fun J xs H1 F1 M1 m1 s1 st1 wk h1 => ?_⟩
  intro D hD
  have nM : D ∉ M1 := fun q => st1.fresh hD (st1.inF D q)
  have en1 := en.mono s1
  have g0 := Gr.start st1 hD
  have enG : EnvR W (fun b => F1 b ∨ b = D) M1 (upd H1 D (.lst [])) (wipeE env own) (wipe σ own) := wipe_ok (en1.kp g0.kp rfl) own
  refine ⟨fun i m H2 => ∃ G M2 mem2 acc, Gr W F1 M1 H1 D m1.length G M2 H2 mem2 acc ∧ EnvR W G M2 H2 (wipeE env own) (wipe σ own) ∧
      m = xs.length - i ∧ i ≤ xs.length ∧ lc2Go g t fi1 own1 g1 t1 fe (wipeE env own) m1.length (fun ys m2 => out mu (.lst ys) m2 Qb) (xs.drop i) mem2 acc.length acc = true,
    ⟨xs.length, _, M1, m1, [], g0, enG, by simp, Nat.zero_le _, h1⟩, ?_⟩
  rintro i m H2 ⟨G, M2, mem2, acc, gr, en2, rfl, hi, h2⟩
  obtain ⟨w1, w2⟩ := wk G M2 H2 mem2 gr.kp gr.st i
  by_cases hlt : i < xs.length
  · rw [List.drop_eq_getElem_cons hlt] at h2
    obtain ⟨g1', g2⟩ := w1 xs[i] (List.getElem?_eq_getElem hlt)
    refine .inr ⟨g1', fun H' => ∃ G M2 mem2 acc, Gr W F1 M1 H1 D m1.length G M2 H' mem2 acc ∧ EnvR W G M2 H' (wipeE env own) (wipe σ own) ∧
      lc2Go g t fi1 own1 g1 t1 fe (wipeE env own) m1.length (fun ys m2 => out mu (.lst ys) m2 Qb) (xs.drop (i + 1)) mem2 acc.length acc = true,
      fun H' ⟨G', M', mem', acc', a1, a2, a3⟩ => ⟨xs.length - (i + 1), by omega, G', M', mem', acc', a1, a2, rfl, hlt, a3⟩, fun x H3 y => ?_⟩
    obtain ⟨sm, rp⟩ := g2 x H3 y
    have sm' := Step.same (F := G) (M := M2) sm
    have st3 := gr.st.same sm
    have gr3 := gr.step nM sm' st3 gr.m
    have en3 := en2.mono sm'
    dsimp only [lc2Go] at h2
    split at h2
    · rename_i env4 eg
      refine Tg.ok eg en3 (d := .p xs[i]) rp fun σ4 en4 ⟨ws, hw, e4⟩ => ⟨?_, ?_⟩
      · rw [e4, wipe_fold (fun p hp => hg p.1 (List.of_mem_zip hp).1), wipe_wipe]
      refine RdT.go st3 en4 h2 fun b H4 F4 M4 m4 s4 st4 h4 => ?_
      cases b with
      | false =>
        rw [if_neg Bool.false_ne_true] at h4 ⊢
        split at h4
        · rename_i hb
          exact ⟨F4, M4, m4, acc, gr3.step nM s4 st4 (Nat.eq_of_beq_eq_true hb), en3.mono s4, h4⟩
        · cases h4
      | true =>
        rw [if_pos rfl] at h4 ⊢
        refine ⟨F4, M4, env4, m4, _, st4, en4.mono s4, h4, fun J1 ys H5 F5 M5 m5 s5 st5 wk1 h5 => ?_⟩
        split at h5
        · rename_i hb
          have s45 := s4.trans s5
          have gr5 := gr3.step nM s45 st5 (Nat.eq_of_beq_eq_true hb)
          have enO := en3.mono s45
          have enI : EnvR W F5 M5 H5 (wipeE env4 own1) (wipe σ4 own1) := wipe_ok (en4.mono s45) own1
          refine ⟨fun j m H6 => ∃ G6 M6 mem6 acc6, Gr W F1 M1 H1 D m1.length G6 M6 H6 mem6 acc6 ∧ Kp F5 H5 G6 H6 ∧ m = ys.length - j ∧ j ≤ ys.length ∧
              lc2In g1 t1 fe (wipeE env4 own1) m1.length (fun m3 n3 acc3 => lc2Go g t fi1 own1 g1 t1 fe (wipeE env own) m1.length (fun ys m2 => out mu (.lst ys) m2 Qb) (xs.drop (i + 1)) m3 n3 acc3) (ys.drop j) mem6 acc6.length acc6 = true,
            ⟨ys.length, F5, M5, m5, acc, gr5, fun a o e n => ⟨e, n⟩, by simp, Nat.zero_le _, h5⟩, ?_⟩
          rintro j m H6 ⟨G6, M6, mem6, acc6, gr6, kp6, rfl, hj, h6⟩
          obtain ⟨v1, v2⟩ := wk1 G6 M6 H6 mem6 kp6 gr6.st j
          have eM6 : M6 = M5 := gr6.eM.trans gr5.eM.symm
          by_cases hjt : j < ys.length
          · rw [List.drop_eq_getElem_cons hjt] at h6
            obtain ⟨u1, u2⟩ := v1 ys[j] (List.getElem?_eq_getElem hjt)
            refine .inr ⟨u1, fun H' => ∃ G6 M6 mem6 acc6, Gr W F1 M1 H1 D m1.length G6 M6 H' mem6 acc6 ∧ Kp F5 H5 G6 H' ∧
              lc2In g1 t1 fe (wipeE env4 own1) m1.length (fun m3 n3 acc3 => lc2Go g t fi1 own1 g1 t1 fe (wipeE env own) m1.length (fun ys m2 => out mu (.lst ys) m2 Qb) (xs.drop (i + 1)) m3 n3 acc3) (ys.drop (j + 1)) mem6 acc6.length acc6 = true,
              fun H' ⟨G', M', mem', acc', a1, a2, a3⟩ => ⟨ys.length - (j + 1), by omega, G', M', mem', acc', a1, a2, rfl, hjt, a3⟩, fun x1 H7 y1 => ?_⟩
            obtain ⟨sm1, rp1⟩ := u2 x1 H7 y1
            have sm1' := Step.same (F := G6) (M := M6) sm1
            have st7 := gr6.st.same sm1
            have gr7 := gr6.step nM sm1' st7 gr6.m
            have kp7 : Kp F5 H5 G6 H7 := fun a o e n => by
              obtain ⟨q1, q2⟩ := kp6 a o e n
              exact ⟨sm1 a o q1, q2⟩
            have en7 : EnvR W G6 M6 H7 (wipeE env4 own1) (wipe σ4 own1) := enI.kp kp7 eM6
            dsimp only [lc2In] at h6
            split at h6
            · rename_i env8 eg1
              refine Tg.ok eg1 en7 (d := .p ys[j]) rp1 fun σ8 en8 ⟨ws1, hw1, e8⟩ => ⟨?_, ?_⟩
              · rw [e8, wipe_fold (fun p hp => hg1 p.1 (List.of_mem_zip hp).1), wipe_wipe]
              refine RdT.go st7 en8 h6 fun b1 H8 F8 M8 m8 s8 st8 h8 => ?_
              have kpS : ∀ {F9 : Addr → Prop} {M9 : List Addr} {H9 : Hp}, Step G6 M6 H7 F9 M9 H9 → Kp F5 H5 F9 H9 := fun {F9 M9 H9} s a o e n => by
                obtain ⟨q1, q2⟩ := kp7 a o e n
                exact s.kp a o q1 q2
              cases b1 with
              | false =>
                rw [if_neg Bool.false_ne_true] at h8 ⊢
                split at h8
                · rename_i hb8
                  exact ⟨F8, M8, m8, acc6, gr7.step nM s8 st8 (Nat.eq_of_beq_eq_true hb8), kpS s8, h8⟩
                · cases h8
              | true =>
                rw [if_pos rfl] at h8 ⊢
                refine RdE.go st8 (en8.mono s8) h8 fun yv H9 F9 M9 d9 m9 s9 st9 r9 h9 => ?_
                split at h9
                · rename_i v
                  split at h9
                  · rename_i hb9
                    rw [Bool.and_eq_true] at hb9
                    have gr9 := gr7.step nM (s8.trans s9) st9 (Nat.eq_of_beq_eq_true hb9.1)
                    obtain ⟨vs, q1, q2, q3, q4⟩ := gr9.push nM (Nat.le_of_ble_eq_true hb9.2) r9
                    refine ⟨vs, q1, q2, F9, M9, m9, v :: acc6, q3, fun a o e n => ?_, h9⟩
                    obtain ⟨z1, z2⟩ := kpS (s8.trans s9) a o e n
                    exact q4 a o z1 z2
                  · cases h9
                · cases h9
            · cases h6
          · have e : j = ys.length := by omega
            subst e
            rw [List.drop_length] at h6
            exact .inl ⟨v2 (Nat.le_refl _), G6, M6, mem6, acc6, gr6, enO.kp kp6 eM6, h6⟩
        · cases h5
    · cases h2
  · have e : i = xs.length := by omega
    subst e
    rw [List.drop_length] at h2
    exact .inl ⟨w2 (Nat.le_refl _), gr.done nM h2 fun v H' F' M' d mem' s => k v H' F' M' d mem' (s1.trans s)⟩
end
end MP
/-! MPE: enumerate over a tuple. -/
namespace MP
open PySem L2
open PySem.Spec PyProof.Rows
section
variable {prog : Program} {w : World} {A : Around} {E : Value → Shared → Prop} {s : Shared}
theorem nx_tup_item {it b : Addr} {k : Nat} {vals} {y : Value} {R : Value → Shared → Prop} (hi : s.heap.IsTupleIter it b k) (hb : s.heap.IsTuple b vals) (hy : vals[k]? = some y)
    (hR : ∀ h', h'.IsTupleIter it b (k + 1) → Heap.SameBut it s.heap h' → R y { s with heap := h' }) : wpAny (model prog w) A (Builtin.SmallTypes.nextOf (.ref it)) R E s := by
  obtain ⟨o, ho, hc, hd⟩ := id hi; obtain ⟨ob, hob, _, nb, hdb⟩ := hb; unfold Builtin.SmallTypes.nextOf
  refine wpAny_bind (wpAny_callSpecial?_slot (name := Str.ofString "__next__") hi.typeIs F.slot_tuple_iterator_next (wpAny_call_entry F.slot_tuple_iterator_next hi.typeIs F.entry_tuple_iterator_next ?_ (F.args_tuple_iterator_next_1 _)))
  show wpAny _ _ (field (.ref it) 0 >>= _) _ _ s; refine wpAny_bind (wpAny_field ho hd (x := .ref b) rfl ?_)
  show wpAny _ _ (if (Value.ref b == Value.none) = true then _ else _) _ _ s; rw [if_neg (show ¬ ((Value.ref b == Value.none) = true) from Bool.false_ne_true)]
  show wpAny _ _ (field (.ref it) 1 >>= _) _ _ s; refine wpAny_bind (wpAny_field ho hd (x := .int k 0) rfl ?_)
  show wpAny _ _ (seqItems? (.ref b) >>= _) _ _ s; refine wpAny_bind (wpAny_seqItems hob hdb ?_); simp only [Int.toNat_natCast, hy]
  refine wpAny_bind (wpAny_setField ho hd (by simp) (wpAny_pure ⟨y, rfl, wpAny_pure (hR _ ?_ (Heap.SameBut.update ..))⟩))
  exact ⟨_, Heap.get?_update_self _ ho (Obj.isFreed_of_fields (Obj.data_mapFields hd _)), (Obj.cls_mapFields ..).trans hc, by rw [Obj.data_mapFields hd]; simp [rawInt]⟩
theorem nx_tup_end {it b : Addr} {k : Nat} {vals} {R : Value → Shared → Prop} (hh : A.handled = none) (hi : s.heap.IsTupleIter it b k) (hb : s.heap.IsTuple b vals) (hy : vals[k]? = none)
    (hE : ∀ h' e, Heap.ExtBut it s.heap h' → (∃ o, h'.get? e = some o ∧ o.cls = .type "StopIteration") → E (.ref e) { s with heap := h' }) : wpAny (model prog w) A (Builtin.SmallTypes.nextOf (.ref it)) R E s := by
  obtain ⟨o, ho, hc, hd⟩ := id hi; obtain ⟨ob, hob, _, nb, hdb⟩ := hb; unfold Builtin.SmallTypes.nextOf
  refine wpAny_bind (wpAny_callSpecial?_slot (name := Str.ofString "__next__") hi.typeIs F.slot_tuple_iterator_next (wpAny_call_entry F.slot_tuple_iterator_next hi.typeIs F.entry_tuple_iterator_next ?_ (F.args_tuple_iterator_next_1 _)))
  show wpAny _ _ (field (.ref it) 0 >>= _) _ _ s; refine wpAny_bind (wpAny_field ho hd (x := .ref b) rfl ?_)
  show wpAny _ _ (if (Value.ref b == Value.none) = true then _ else _) _ _ s; rw [if_neg (show ¬ ((Value.ref b == Value.none) = true) from Bool.false_ne_true)]
  show wpAny _ _ (field (.ref it) 1 >>= _) _ _ s; refine wpAny_bind (wpAny_field ho hd (x := .int k 0) rfl ?_)
  show wpAny _ _ (seqItems? (.ref b) >>= _) _ _ s; refine wpAny_bind (wpAny_seqItems hob hdb ?_); simp only [Int.toNat_natCast, hy]
  refine wpAny_bind (wpAny_rule (wpAny_bind (wpAny_setField ho hd (by simp) ?_))); show wpAny _ _ (newExc (.type "StopIteration") [] >>= _) _ _ _; refine wpAny_bind ?_; simp only [newExc, newTuple]
  refine wpAny_bind (wpAny_newObj_type ?_ (by size_fits)); refine wpAny_bind (m := firstArgMember _ _) (wpAny_of_eq (a := Value.none) (by first | rfl | (simp only [firstArgMember]; rfl)) ?_); refine wpAny_newObj_type ?_ (by size_fits)
  simp only [raiseNew]; refine wpAny_bind (wpAny_handled ?_); first | rw [show A.in1.handled = none from hh] | rw [hh]
  refine wpAny_bind (wpAny_pure (wpAny_throw ?_)); exact hE _ _ (((Heap.SameBut.update ..).extBut.push _).push _) ⟨_, Heap.get?_push_size _ rfl, rfl⟩
theorem draws_tup (hh : A.handled = none) (it b : Addr) (hne : b ≠ it) (vals : Array Value) : Draws prog w A it [it, b] vals.size (fun i v => vals[i]? = some v) (fun i h => h.IsTupleIter it b i ∧ h.IsTuple b vals) where
  live := fun _ _ st => let ⟨o, ho, _⟩ := st.1; ⟨o, ho⟩
  frame := fun _ _ _ st hk => ⟨st.1.at fun o e => hk it (by simp) o e, let ⟨o, ho, r⟩ := st.2; ⟨o, hk b (by simp) o ho, r⟩⟩
  item := fun i s Q E hi st hQ => nx_tup_item st.1 st.2 (y := vals[i]) (by simp [hi]) fun h' hit' hs' => hQ _ h' s.toks (by simp [hi]) ⟨hit', st.2.extBut hs'.extBut hne⟩ hs'
  done := fun s Q E st hE => nx_tup_end hh st.1 st.2 (by simp) hE
end
theorem mt_enumT (b : Addr) (vals : Array Value) (n : Nat) (dct : Option Addr) (sl : Array (Option Value)) :
    Meets (Builtin.«enumerate.__new__» ⟨[.type "enumerate", .ref b], []⟩) (fun _ R s => s.heap.get? b = some { cls := .type "tuple", dict := dct, data := .seq vals n, slots := sl } ∧
      R (.ok (.ret (.ref (s.heap.push { cls := .type "tuple_iterator", data := .fields #[.ref b, .int 0 0] }).objs.size)))
        { s with heap := (s.heap.push { cls := .type "tuple_iterator", data := .fields #[.ref b, .int 0 0] }).push { cls := .type "enumerate", data := .fields #[.none, .bool false, .ref s.heap.objs.size, rawInt 0, .none, .none] } }) :=
  .of_wp fun prog w A R s h => by
    obtain ⟨hp, g, d, tk, os⟩ := s; obtain ⟨hl, h⟩ := h; have hsub := sub_enumerate
    have hT : Heap.IsTuple (Shared.heap ⟨hp, g, d, tk, os⟩) b vals := ⟨_, hl, rfl, n, rfl⟩
    wp_walk using PySem.AutoSeq1.wpAny_loadPart' hl
    refine wpAny_stack_any fun st => wpAny_pure ?_; split
    · rename_i c _ _ _ _ _
      cases (c == Value.type "enumerate")
      · (wp_walk using PySem.AutoSeq1.wpAny_loadPart' hl, wpAny_pyIter_tuple hT); exact ⟨_, rfl, h⟩
      · (wp_walk using PySem.AutoSeq1.wpAny_loadPart' hl, wpAny_pyIter_tuple hT); exact ⟨_, rfl, h⟩
    · (wp_walk using PySem.AutoSeq1.wpAny_loadPart' hl, wpAny_pyIter_tuple hT); exact ⟨_, rfl, h⟩
theorem call_enumT {prog : Program} {w : World} {A : Around} {E : Value → Shared → Prop} {s : Shared} {b : Addr} {vals : Array Value} {R : Value → Shared → Prop} (hL : s.heap.IsTuple b vals)
    (h : ∀ h', IsEnum h' (s.heap.objs.size + 1) s.heap.objs.size 0 .none → h'.IsTupleIter s.heap.objs.size b 0 → (∀ c o, s.heap.get? c = some o → h'.get? c = some o) → R (.ref (s.heap.objs.size + 1)) { s with heap := h' }) :
    wpAny (model prog w) A (call (.type "enumerate") [.ref b]) R E s := by
  obtain ⟨⟨c, dct, dt, sl⟩, hl, hc, n, hd⟩ := hL
  have hc : c = .type "tuple" := hc
  have hd : dt = .seq vals n := hd
  subst hc hd
  refine callType_new F.called_enumerate (by decide) (F.typeCall_enumerate_1 _) (F.newCall_enumerate_1 _) (fun ob => F.args_object_init_2 ob _) F.entry_enumerate_new (mt_enumT b vals n dct sl) ⟨hl, ?_⟩
  have hz : (s.heap.push { cls := .type "tuple_iterator", data := .fields #[.ref b, .int 0 0] }).objs.size = s.heap.objs.size + 1 := Heap.size_push ..
  show _ ∧ _
  rw [hz]
  have he : IsEnum ((s.heap.push { cls := .type "tuple_iterator", data := .fields #[.ref b, .int 0 0] }).push { cls := .type "enumerate", data := .fields #[.none, .bool false, .ref s.heap.objs.size, rawInt 0, .none, .none] }) (s.heap.objs.size + 1) s.heap.objs.size 0 .none := by
    have e := Heap.get?_push_size (s.heap.push { cls := .type "tuple_iterator", data := .fields #[.ref b, .int 0 0] }) (o := { cls := .type "enumerate", data := .fields #[.none, .bool false, .ref s.heap.objs.size, rawInt 0, .none, .none] }) rfl
    rw [hz] at e; exact e
  exact ⟨⟨_, he, rfl⟩, h _ he ⟨_, Heap.get?_push_of_some _ (Heap.get?_push_size _ rfl), rfl, rfl⟩ fun c o x => Heap.get?_push_of_some _ (Heap.get?_push_of_some _ x)⟩
/-- the tuple at a, each item in a new pair -/
def Iet (K : PySem.W.Frag) (a : Addr) : It :=
  ⟨fun i H => ∃ (xs : List V) (x : V), SqT K H a xs ∧ xs[i]? = some x,
   fun i H v H' => ∃ T o x, v = .ref T ∧ H T = none ∧ FzT o ∧ H' = upd H T (.frz o (.tup [.int (i : Nat), x])) ∧ ∀ xs, SqT K H a xs → xs[i]? = some x, fun i H => ∃ xs : List V, SqT K H a xs ∧ xs.length ≤ i⟩
theorem turn_enumT {P : Program} {w : World} {K : PySem.W.Frag} {elts : List Expr} {kk : Nat} {tpos : Pos} (a e it : Addr) :
    Turn P w K (.Tuple elts kk tpos) (Iet K a) [e, it] e (fun i h => (∃ old, IsEnum h e it ((i : Nat) : Int) old) ∧ h.IsTupleIter it a i ∧ e ≠ it) where
  mem := by simp
  obj := fun i h st b hb => by
    obtain ⟨⟨old, he⟩, ⟨o, ho, hc, hd⟩, _⟩ := st
    rcases List.mem_cons.mp hb with z | z
    · rw [z]; exact ⟨_, he, fun v q => nomatch q⟩
    · rw [List.mem_singleton.mp z]; exact ⟨o, ho, fun v q => by rw [hd] at q; cases q⟩
  keep := fun i h h' st k => let ⟨⟨old, he⟩, hi, hne⟩ := st; ⟨⟨old, k e (by simp) _ he⟩, hi.at fun o q => k it (by simp) o q, hne⟩
  item := by
    intro X hP hw hK hc i pins s σ H E I hf st hg
    subst hP hw hK
    obtain ⟨⟨old, he⟩, hit, hne⟩ := st
    obtain ⟨xs, x, hq, hx⟩ := hg
    obtain ⟨its, rv, p, hz⟩ := I.tuple hq
    obtain ⟨u, hu, ru⟩ := rv.get hx
    have p : s.heap.IsTuple a its.toArray := p
    have hel : e < s.heap.objs.size := Heap.lt_size he
    have hil : it < s.heap.objs.size := by obtain ⟨_, q, _⟩ := hit; exact Heap.lt_size q
    have nai : a ≠ it := fun z => by
      subst z
      obtain ⟨o1, q1, c1, _⟩ := hit
      obtain ⟨o2, q2, c2, _⟩ := p
      rw [q1] at q2
      cases q2
      rw [c1] at c2
      injection c2 with q
      exact absurd q (by decide)
    have nae : e ≠ a := fun z => by
      subst z
      obtain ⟨o2, q2, c2, _⟩ := p
      have he : s.heap.get? e = some _ := he
      rw [he] at q2
      cases q2
      injection c2 with q
      exact absurd q (by decide)
    have hlt : i < its.toArray.size := by
      have := (List.getElem?_eq_some_iff.mp hu).1
      simpa using this
    refine wpAny_pyNext_enum_itemD (draws_tup (A := X.A.in1) (show X.A.in1.handled = none from I.ok.hd hc) it a nai its.toArray) he ⟨hit, p⟩ hlt hne (by simp [hne, nae]) fun y h' tk hy ho hst hT hsz hk => ?_
    have ey : y = u := by
      have hy : its.toArray[i]? = some y := hy
      rw [show its.toArray[i]? = some u by simpa using hu] at hy
      exact (Option.some.inj hy).symm
    subst ey
    refine ⟨_, rfl, wpAny_letOwnedTupleGo_enum (s := { s with heap := h', toks := tk + 1 }) ho fun h'' he' sb => ?_⟩
    have hT2 : h''.get? s.heap.objs.size = some { cls := .type "tuple", data := .seq #[.int i tk, y] } := (sb.2 _ (Nat.ne_of_gt hel)).trans hT
    have new : ObjOk X.prog X.w (upd H s.heap.objs.size (.frz { cls := .type "tuple", data := .seq #[.int i tk, y] } (.tup [.int (i : Nat), x]))) h'' s.heap.objs.size (.frz { cls := .type "tuple", data := .seq #[.int i tk, y] } (.tup [.int (i : Nat), x])) :=
      ⟨hT2, by show 2 ≤ sizeLine; decide, [.int i tk, y], .cons ⟨_, rfl⟩ (.cons ru .nil), ⟨_, hT2, rfl, _, rfl⟩⟩
    have I1 := I.turnedNew (h' := h'') (t' := tk + 1) (ch := [e, it]) (fun b ob hb q => (sb.2 b (fun z => hb (by simp [z]))).trans (hk b ob (fun z => hb (by simp [z])) (fun z => hb (by simp [z])) q)) hf (Nat.le_refl _) new
    refine ⟨.ref s.heap.objs.size, _, I1, rfl, ⟨_, _, x, rfl, I.hok.fresh (Nat.le_refl _), ⟨rfl, rfl⟩, rfl, fun ys hy => by rw [I.tuple_inj hy hq]; exact hx⟩, ⟨⟨y, ?_⟩, hst.1.at fun o q => (sb.2 it (Ne.symm hne)).trans q, hne⟩, fun b hb => ?_⟩
    · have e1 : ((i + 1 : Nat) : Int) = (i : Int) + 1 := by omega
      rw [e1]
      exact he'
    · have hb' : b < s.heap.objs.size := by
        rcases List.mem_cons.mp hb with z | z
        · rw [z]; exact hel
        · rw [List.mem_singleton.mp z]; exact hil
      rw [upd_ne (Nat.ne_of_lt hb')]
      exact (hf b hb).1
  done := by
    intro X hP hw hK hc i pins s σ H E I hf st hg
    subst hP hw hK
    obtain ⟨⟨old, he⟩, hit, hne⟩ := st
    obtain ⟨xs, hq, hx⟩ := hg
    obtain ⟨its, rv, p, hz⟩ := I.tuple hq
    have p : s.heap.IsTuple a its.toArray := p
    obtain ⟨f0, f1, f2, f3, f4, f5⟩ := hf it (by simp)
    have hl := rv.length
    have nai : a ≠ it := fun z => by
      subst z
      obtain ⟨o1, q1, c1, _⟩ := hit
      obtain ⟨o2, q2, c2, _⟩ := p
      rw [q1] at q2
      cases q2
      rw [c1] at c2
      injection c2 with q
      exact absurd q (by decide)
    -- the draw at its end, at whatever place it stands
    have D : Draws X.prog X.w X.A.in1 it [it, a] its.toArray.size (fun i v => its.toArray[i]? = some v) (fun j h => (∃ m, (m = j ∨ (j = its.toArray.size ∧ j ≤ m)) ∧ h.IsTupleIter it a m) ∧ h.IsTuple a its.toArray) := by
      refine ⟨fun _ _ st => let ⟨⟨m, _, o, ho, _⟩, _⟩ := st; ⟨o, ho⟩, fun _ _ _ st hk => let ⟨⟨m, hm, hi⟩, ht⟩ := st; ⟨⟨m, hm, hi.at fun o e => hk it (by simp) o e⟩, let ⟨o, ho, r⟩ := ht; ⟨o, hk a (by simp) o ho, r⟩⟩, fun j s Q E hj st hQ => ?_, fun s Q E st hE => ?_⟩
      · obtain ⟨⟨m, hm, hi⟩, ht⟩ := st
        have em : m = j := by omega
        subst em
        exact nx_tup_item hi ht (y := its.toArray[m]) (by simp [hj]) fun h' hit' hs' => hQ _ h' s.toks (by simp [hj]) ⟨⟨m + 1, .inl rfl, hit'⟩, ht.extBut hs'.extBut nai⟩ hs'
      · obtain ⟨⟨m, hm, hi⟩, ht⟩ := st
        exact nx_tup_end (A := X.A.in1) (show X.A.in1.handled = none from I.ok.hd hc) hi ht (by simp only [Array.getElem?_eq_none_iff]; omega) hE
    refine wpAny_pyNext_enum_endD D he ⟨⟨i, .inr ⟨rfl, by simp only [List.size_toArray]; omega⟩, hit⟩, p⟩ fun h' eb => ⟨rfl, I.turned (t' := s.toks) (fun b o hb q => eb b o hb q) f0 f1 f3 f4 f5⟩
  self := fun A i s Q E st h => let ⟨⟨_, he⟩, _⟩ := st; wpAny_pyIter_enum he h
def iEnumT (K : PySem.W.Frag) (ta : TA) : TI := fun σ H R => ta σ H fun vs H1 => ∃ a xs, vs = [.ref a] ∧ SqT K H1 a xs ∧ R (Iet K a) H1
theorem pi_enumT {X : Cx} {e : Expr} {ta : TA} {p pos tpos : Pos} {elts : List Expr} {kk : Nat} (hg : Gl X "enumerate") (hm : X.mg "enumerate" = none) (ha : PA X [e] ta) (hs : starEach [e] X.env = [(false, eval e X.env)]) :
    PI X (.Tuple elts kk tpos) (.Call (.Name "enumerate" p) [e] [] pos) (iEnumT X.K ta) := by
  refine ⟨fun pins s σ H R I h => Call_ (ld_blt I hg hm boot_enumerate (PyProof.Rows.callWith_type1 (thn (ha.run pos pins s σ H _ I h) fun us s1 ⟨vs, H1, I1, r1, q1⟩ => ?_) hs rfl))⟩
  obtain ⟨a, xs, ex, hq, q⟩ := q1
  subst ex
  cases r1 with
  | cons r rr =>
    cases rr
    cases r
    obtain ⟨its, rv, p', hz⟩ := I1.tuple hq
    refine call_enumT (show s1.heap.IsTuple a its.toArray from p') fun h' he hit hk => wpAny_pyIter_enum he ?_
    have I2 : Inv X pins σ H1 { s1 with heap := h' } := I1.kept (t' := s1.toks) hk
    refine ⟨s1.heap.objs.size + 1, [s1.heap.objs.size + 1, s1.heap.objs.size], _, _, H1, rfl, I2, turn_enumT a (s1.heap.objs.size + 1) s1.heap.objs.size, ⟨⟨.none, he⟩, hit, Nat.succ_ne_self _⟩, fun b hb => ?_, q⟩
    have hle : s1.heap.objs.size ≤ b := by
      rcases List.mem_cons.mp hb with z | z
      · rw [z]; exact Nat.le_add_right _ _
      · rw [List.mem_singleton.mp z]; exact Nat.le_refl _
    exact I1.fpOk hle (I1.hok.fresh hle)
end MP
/-! MPU: writing to cells, targets of any form, built-in functions. -/
namespace MP
open PySem L2
section
variable {W : Wd} {F : Addr → Prop} {M : List Addr} {H : Hp} {mem : Mem}
theorem upd_dom {a b : Addr} {o : HO} (q : H b ≠ none) : upd H a o b ≠ none := by
  by_cases z : b = a
  · subst z
    rw [upd_same]
    simp
  · rw [upd_ne z]
    exact q
/-- a cell is written -/
theorem StR.write (st : StR W F M H mem) {n : Nat} {a : Addr} {o o' : HO} {c' : Cell} (hn : M[n]? = some a) (ho : H a = some o) (n1 : ∀ ps, o ≠ .tbl ps) (n2 : ∀ φ, o ≠ .ext φ)
    (hc : Kp F H F (upd H a o') → CellR W F (upd H a o') a c') : Step F M H F M (upd H a o') ∧ StR W F M (upd H a o') (mem.set n c') := by
  have hF : F a := st.inF a (List.mem_of_getElem? hn)
  have kp : Kp F H F (upd H a o') := fun b u e q => ⟨by
    rw [upd_ne (fun z => q (by rw [z]; exact hF))]
    exact e, q⟩
  have hl : n < mem.length := by rw [← st.len]; exact (List.getElem?_eq_some_iff.mp hn).1
  refine ⟨⟨fun _ h => h, ⟨[], by simp, by simp⟩, kp, fun b q => upd_dom q, fun b u h1 h2 h3 e => ?_⟩, ⟨fun b q => upd_dom (st.dom b q), st.nd, st.inF, by rw [List.length_set]; exact st.len, fun j b c e1 e2 => ?_, ?_, st.tabF⟩⟩
  · rw [upd_ne (fun z => h2 (by rw [z]; exact List.mem_of_getElem? hn))]
    exact e
  · by_cases hj : n = j
    · subst hj
      rw [hn] at e1
      cases e1
      rw [List.getElem?_set_self hl] at e2
      cases e2
      exact hc kp
    · rw [List.getElem?_set_ne hj] at e2
      refine (st.cell j b c e1 e2).kp kp fun u e => ?_
      have : b ≠ a := fun z => by
        subst z
        obtain ⟨q1, e3⟩ := List.getElem?_eq_some_iff.mp e1
        obtain ⟨q2, e4⟩ := List.getElem?_eq_some_iff.mp hn
        exact hj ((List.getElem_inj st.nd).mp (e4.trans e3.symm))
      rw [upd_ne this]
      exact e
  · refine tabs_write (D := a) (fun u e => ?_) (fun b u q e => ?_) st.tab
    · rw [ho] at e
      cases e
      exact ⟨n1, n2⟩
    · rw [upd_ne q]
      exact e
end
/-! ### targets -/
def gNm (i : Nat) : CG := fun d env m Q => Q (env.set i (some d)) m
abbrev CGs := List D → Env → Mem → (Env → Mem → Bool) → Bool
def gsNil : CGs := fun ds env m Q => match ds with
  | [] => Q env m
  | _ => false
def gsCons (g : CG) (r : CGs) : CGs := fun ds env m Q => match ds with
  | d :: ds => g d env m fun env1 m1 => r ds env1 m1 Q
  | [] => false
def gTpl (k : Nat) (g : CGs) : CG := fun d env m Q => match partsOf d with
  | some ds => if ds.length = k then g ds env m Q else false
  | none => false
def putC (m : Mem) (o i d : D) (Q : Mem → Bool) : Bool := match o, i, d with
  | .ref n, .p (.int k), .p v => (match m[n]? with
    | some (.lst xs) => (match ixN xs.length k with
      | some j => Q (m.set n (.lst (xs.set j v)))
      | none => false)
    | _ => false)
  | _, _, _ => false
def gSub (o i : CE) : CG := fun d env m Q => o env m fun x m1 => i env m1 fun y m2 => putC m2 x y d fun m3 => Q env m3
def sAsgG (g : CG) (e : CE) : CS := fun D env m => e env m fun d m1 => g d env m1 D.nx
def RdG (W : Wd) (g : CG) : TG := fun v σ H Q => ∃ F M env mem d Qb, StR W F M H mem ∧ EnvR W F M H env σ ∧ RepD W F M H d v ∧ g d env mem Qb = true ∧
  ∀ σ' H' F' M' env' mem', Step F M H F' M' H' → StR W F' M' H' mem' → EnvR W F' M' H' env' σ' → Qb env' mem' = true → Q σ' H'
def RdGs (W : Wd) (g : CGs) : TGs := fun vs σ H Q => ∃ F M env mem ds Qb, StR W F M H mem ∧ EnvR W F M H env σ ∧ RepDs W F M H ds vs ∧ g ds env mem Qb = true ∧
  ∀ σ' H' F' M' env' mem', Step F M H F' M' H' → StR W F' M' H' mem' → EnvR W F' M' H' env' σ' → Qb env' mem' = true → Q σ' H'
theorem PG.imp {X : Cx} {e : Expr} {t t' : TG} (h : PG X e t) (w : ∀ v σ H Q, t' v σ H Q → t v σ H Q) : PG X e t' := ⟨fun pins s σ H v u Q I r q => h.run pins s σ H v u Q I r (w v σ H Q q)⟩
theorem PGs.imp {X : Cx} {e : List Expr} {t t' : TGs} (h : PGs X e t) (w : ∀ v σ H Q, t' v σ H Q → t v σ H Q) : PGs X e t' := ⟨fun pins s σ H v u Q I r q => h.run pins s σ H v u Q I r (w v σ H Q q)⟩
section
variable {W : Wd} {v : V} {vs : List V} {σ : L2.St} {H : Hp} {Q : L2.St → Hp → Prop} {g : CG} {gs : CGs} {fo fi : CE} {Ds : Ends} {e : CE}
theorem rd_gNm {i : Nat} (h : RdG W (gNm i) v σ H Q) : gName i v σ H Q := by
  obtain ⟨F, M, env, mem, d, Qb, st, en, r, h, k⟩ := h
  exact k _ H F M _ mem Step.refl st (en.set r) h
theorem rd_gsNil (h : RdGs W gsNil vs σ H Q) : gNil vs σ H Q := by
  obtain ⟨F, M, env, mem, ds, Qb, st, en, r, h, k⟩ := h
  unfold gsNil at h
  split at h
  · exact ⟨r, k σ H F M env mem Step.refl st en h⟩
  · cases h
theorem rd_gsCons (h : RdGs W (gsCons g gs) vs σ H Q) : gCons (RdG W g) (RdGs W gs) vs σ H Q := by
  obtain ⟨F, M, env, mem, ds, Qb, st, en, r, h, k⟩ := h
  unfold gsCons at h
  split at h
  · rename_i d ds
    obtain ⟨w, rr, e, r1, r2⟩ := r
    refine ⟨w, rr, e, F, M, env, mem, d, _, st, en, r1, h, fun σ' H' F' M' env' mem' s st' en' h' => ?_⟩
    exact ⟨F', M', env', mem', ds, Qb, st', en', RepDs.mono s _ _ r2, h', fun σ2 H2 F2 M2 env2 mem2 s2 => k σ2 H2 F2 M2 env2 mem2 (s.trans s2)⟩
  · cases h
theorem rd_gTpl {n : Nat} (h : RdG W (gTpl n gs) v σ H Q) : gTup W.K n (RdGs W gs) v σ H Q := by
  obtain ⟨F, M, env, mem, d, Qb, st, en, r, h, k⟩ := h
  unfold gTpl at h
  split at h
  · rename_i ds e
    split at h
    · rename_i hl
      have hp : ∃ a vs, v = .ref a ∧ TupW W F H a vs ∧ RepDs W F M H ds vs := by
        unfold partsOf at e
        split at e
        · cases e
          obtain ⟨a, vs, e1, q, rr⟩ := r
          exact ⟨a, vs, e1, .inl q, RepPs.ds rr⟩
        · cases e
          exact r
        · cases e
      obtain ⟨a, vs, e1, q, rr⟩ := hp
      exact ⟨a, vs, e1, q.sq, by rw [← rr.length, hl], F, M, env, mem, ds, Qb, st, en, rr, h, k⟩
    · cases h
  · cases h
theorem ixN_lt {n j : Nat} {i : Int} (h : ixN n i = some j) : j < n := (ixN_seq h).2.1
theorem putC_ok {F : Addr → Prop} {M : List Addr} {mem : Mem} {o i d : D} {vo vi vd : V} {Qb : Mem → Bool} {Q : Hp → Prop} (st : StR W F M H mem) (ro : RepD W F M H o vo) (ri : RepD W F M H i vi) (rd : RepD W F M H d vd) (h : putC mem o i d Qb = true)
    (k : ∀ H' mem', Step F M H F M H' → StR W F M H' mem' → Qb mem' = true → Q H') : rSetL vo vi vd H Q := by
  unfold putC at h
  split at h
  · rename_i n kk v
    obtain ⟨a, e1, rfl⟩ := ro
    have ri : vi = .int kk := ri
    subst ri
    have hn : n < mem.length := by rw [← st.len]; exact (List.getElem?_eq_some_iff.mp e1).1
    split at h
    · rename_i xs em
      split at h
      · rename_i j ej
        obtain ⟨vs, z, q, r⟩ := st.cell n a _ e1 em
        have hl := r.length
        obtain ⟨s, st'⟩ := st.write (o' := .lst (vs.set j vd)) (c' := .lst (xs.set j v)) e1 q (fun ps z => by cases z) (fun φ z => by cases z)
          (fun kp => ⟨_, by rw [List.length_set]; exact z, upd_same, RepPs.kp kp _ _ (r.set j rd)⟩)
        exact ⟨a, vs, kk, j, rfl, rfl, q, by rw [← hl]; exact ej, k _ _ s st' h⟩
      · cases h
    · cases h
  · cases h
theorem rd_gSub (h : RdG W (gSub fo fi) v σ H Q) : L2.gSub (RdE W fo) (RdE W fi) rSetL v σ H Q := by
  obtain ⟨F, M, env, mem, d, Qb, st, en, r, h, k⟩ := h
  refine RdE.at2 (R := fun o i H2 => rSetL o i v H2 fun H3 => Q σ H3) ⟨F, M, env, mem, st, en, h, fun v1 v2 H2 F2 M2 d1 d2 m2 s2 st2 r1 r2 h2 => ?_⟩
  exact putC_ok st2 r1 r2 (RepD.mono s2 _ _ r) h2 fun H' mem' s st' h' => k σ H' F2 M2 env mem' (s2.trans s) st' (en.mono (s2.trans s)) h'
theorem rd_asgG (h : RdS W (sAsgG g e) Ds σ H) : tAsg (RdE W e) (RdG W g) Ds σ H := by
  obtain ⟨F, M, env, mem, B, st, en, h, o⟩ := h.un
  refine RdE.go st en h fun v H1 F1 M1 d m1 s1 st1 r1 h1 => ?_
  exact ⟨F1, M1, env, m1, d, B.nx, st1, en.mono s1, r1, h1, fun σ' H' F' M' env' mem' s => o.nx σ' H' F' M' env' mem' (s1.trans s)⟩
end

/-! ### built-in functions -/
section
variable {W : Wd} {σ : L2.St} {H : Hp} {Q : VK} {fa fb : CE}
theorem rd_1C {mu : Bool} {f : P → Option P} {r : List V → Hp → VK → Prop} (hf : Ok1 W f fun v => r [v]) (h : RdE W (c1 mu f fa) σ H Q) : tCB r (tCons (RdE W fa) tNil) σ H Q := rd_1 hf h
theorem rd_2C {mu : Bool} {f : P → P → Option P} {r : List V → Hp → VK → Prop} (hf : Ok2 W f fun v w => r [v, w]) (h : RdE W (c2 mu f fa fb) σ H Q) : tCB r (tCons (RdE W fa) (tCons (RdE W fb) tNil)) σ H Q := rd_2 hf h
end
def pLen : P → Option P
  | .lst xs => some (.int xs.length)
  | .ins c xs => if c = scrC then some (.int xs.length) else none
  | .tup xs => some (.int xs.length)
  | .str xs => some (.int xs.length)
  | _ => none
def rLen (K : PySem.W.Frag) : List V → Hp → VK → Prop := fun xs H Q => ∃ x n, xs = [x] ∧ LenV K x H n ∧ Q (.int n) H
def pTup : P → Option P
  | .lst xs => some (.tup xs)
  | .tup xs => some (.tup xs)
  | _ => none
def pInt : P → Option P
  | .int i => some (.int i)
  | .bl b => some (.int (if b then 1 else 0))
  | _ => none
def rInt : List V → Hp → VK → Prop := fun xs H Q => (∃ i, xs = [.int i] ∧ Q (.int i) H) ∨ ∃ k, xs = [.bl k] ∧ Q (.int (if k then 1 else 0)) H
def pAbs : P → Option P
  | .int i => some (.int (if i < 0 then -i else i))
  | _ => none
def rAbs : List V → Hp → VK → Prop := fun xs H Q => ∃ i, xs = [.int i] ∧ Q (.int (if i < 0 then -i else i)) H
def allB : List P → Option Bool
  | [] => some true
  | .bl b :: r => match allB r with
    | some c => some (b && c)
    | none => none
  | _ :: _ => none
def pAll : P → Option P
  | .lst xs => match allB xs with
    | some b => some (.bl b)
    | none => none
  | _ => none
def sumI : List P → Option Int
  | [] => some 0
  | .int i :: r => match sumI r with
    | some c => some (i + c)
    | none => none
  | _ :: _ => none
def pSum : P → Option P
  | .lst xs => match sumI xs with
    | some b => some (.int b)
    | none => none
  | _ => none
/-- divmod: a pair that is soon unpacked -/
def cDivm (a b : CE) : CE := fun env m Q => a env m fun x m1 => b env m1 fun y m2 => match x, y with
  | .p (.int i), .p (.int j) => if decide (0 < j) && decide (j < 1073741824) then Q (.tup [.p (.int (i / j)), .p (.int (i % j))]) m2 else false
  | _, _ => false
def rDivm : List V → Hp → VK → Prop := fun xs H Q => ∃ i j, xs = [.int i, .int j] ∧ CDiv i j ∧ ∀ p, H p = none → Q (.ref p) (upd H p (.tup [.int (i / j), .int (i % j)]))
def pMin2 : P → P → Option P
  | .int i, .int j => some (.int (if j < i then j else i))
  | _, _ => none
def pMax2 : P → P → Option P
  | .int i, .int j => some (.int (if j > i then j else i))
  | _, _ => none
def rMin2 : List V → Hp → VK → Prop := fun xs H Q => ∃ i j, xs = [.int i, .int j] ∧ Q (.int (if j < i then j else i)) H
def rMax2 : List V → Hp → VK → Prop := fun xs H Q => ∃ i j, xs = [.int i, .int j] ∧ Q (.int (if j > i then j else i)) H
/-- a value's built-in type -/
def tyN : P → Option String
  | .non => some "NoneType"
  | .bl _ => some "bool"
  | .int _ => some "int"
  | .str _ => some "str"
  | .tup _ => some "tuple"
  | .lst _ => some "list"
  | .dct _ _ => some "dict"
  | .ins _ _ => none
def isiB (a t : String) : Bool := a == t || (a == "bool" && t == "int")
def tyIs : List String := ["int", "bool", "str", "tuple", "list", "dict"]
def pIsi (t : String) (x : P) : Option P := match tyN x with
  | some a => if tyIs.contains t then some (.bl (isiB a t)) else none
  | none => none
theorem kit_all : ∀ a ∈ ["NoneType", "bool", "int", "str", "tuple", "list", "dict"], ∀ t ∈ tyIs, kitB a t = some (isiB a t) := by decide +kernel
theorem tyN_mem {x : P} {a : String} (h : tyN x = some a) : a ∈ ["NoneType", "bool", "int", "str", "tuple", "list", "dict"] := by
  cases x <;> first
    | (cases h; done)
    | (cases h; decide)
section
variable {W : Wd} {F : Addr → Prop} {H : Hp}
theorem ok_len : Ok1 W pLen fun v => rLen W.K [v] := by
  intro F M H mem x z v Q st rx h k
  unfold pLen at h
  split at h
  · cases h
    obtain ⟨a, vs, e1, q, _, r⟩ := rx
    exact ⟨v, _, rfl, by rw [e1]; exact .inl ⟨vs, SqL.of q, r.length⟩, k _ H (Same.refl H) rfl⟩
  · rename_i c xs
    split at h
    · rename_i hc
      subst hc
      cases h
      rcases rx with ⟨_, a, vs, e1, q, r⟩ | ⟨e0, _⟩
      · exact ⟨v, _, rfl, by rw [e1]; exact .inl ⟨vs, q.sq, r.length⟩, k _ H (Same.refl H) rfl⟩
      · exact absurd rfl e0
    · cases h
  · cases h
    obtain ⟨a, vs, e1, q, r⟩ := rx
    exact ⟨v, _, rfl, by rw [e1]; exact .inr ⟨vs, q.sq, r.length⟩, k _ H (Same.refl H) rfl⟩
  · cases h
    rename_i s
    obtain ⟨e1, o1⟩ := rx
    have hl := okStr_len o1
    exact ⟨v, s.length, rfl, by rw [e1]; exact ⟨small_line (by show s.length ≤ _; omega), rfl⟩, k _ H (Same.refl H) rfl⟩
  · cases h
theorem ok_tup : Ok1 W pTup fun v => rTupF W.K [v] := by
  intro F M H mem x z v Q st rx h k
  unfold pTup at h
  split at h
  · cases h
    obtain ⟨a, vs, e1, q, zl, r⟩ := rx
    exact ⟨a, vs, by rw [e1], .inl ⟨SqL.of q, newT_of st zl r k⟩⟩
  · cases h
    obtain ⟨a, vs, e1, q, r⟩ := rx
    exact ⟨a, vs, by rw [e1], .inr ⟨q.sq, k _ H (Same.refl H) ⟨a, vs, rfl, q, r⟩⟩⟩
  · cases h
theorem ok_int : Ok1 W pInt fun v => rInt [v] := by
  intro F M H mem x z v Q st rx h k
  unfold pInt at h
  split at h
  · cases h
    rename_i i
    have rx : v = .int i := rx
    exact .inl ⟨i, by rw [rx], k _ H (Same.refl H) rfl⟩
  · cases h
    rename_i b
    have rx : v = .bl b := rx
    exact .inr ⟨b, by rw [rx], k _ H (Same.refl H) rfl⟩
  · cases h
theorem ok_abs : Ok1 W pAbs fun v => rAbs [v] := by
  intro F M H mem x z v Q st rx h k
  unfold pAbs at h
  split at h
  · cases h
    rename_i i
    have rx : v = .int i := rx
    exact ⟨i, by rw [rx], k _ H (Same.refl H) rfl⟩
  · cases h
theorem allB_ok : ∀ {xs : List P} {vs : List V} {b : Bool}, allB xs = some b → RepPs W F H xs vs → ∃ bs : List Bool, vs = bs.map V.bl ∧ b = bs.all id
  | [], vs, b, h, r => by
    cases h
    exact ⟨[], r, rfl⟩
  | .bl c :: xs, vs, b, h, r => by
    dsimp only [allB] at h
    split at h
    · rename_i d e
      cases h
      obtain ⟨w, rr, e1, r1, r2⟩ := r
      obtain ⟨bs, e2, e3⟩ := allB_ok e r2
      have r1 : w = .bl c := r1
      exact ⟨c :: bs, by rw [e1, e2, r1] <;> rfl, by rw [e3] <;> rfl⟩
    · cases h
  | .non :: _, _, _, h, _ => by cases h
  | .int _ :: _, _, _, h, _ => by cases h
  | .str _ :: _, _, _, h, _ => by cases h
  | .tup _ :: _, _, _, h, _ => by cases h
  | .lst _ :: _, _, _, h, _ => by cases h
  | .dct _ _ :: _, _, _, h, _ => by cases h
  | .ins _ _ :: _, _, _, h, _ => by cases h
theorem ok_all : Ok1 W pAll fun v => rAll W.K [v] := by
  intro F M H mem x z v Q st rx h k
  unfold pAll at h
  split at h
  · rename_i xs
    split at h
    · rename_i b e
      cases h
      obtain ⟨a, vs, e1, q, zl, r⟩ := rx
      obtain ⟨bs, e2, e3⟩ := allB_ok e r
      subst e1 e2 e3
      exact ⟨a, bs, rfl, SqL.of q, k _ H (Same.refl H) rfl⟩
    · cases h
  · cases h
theorem sumI_ok : ∀ {xs : List P} {vs : List V} {b : Int}, sumI xs = some b → RepPs W F H xs vs → ∃ bs : List Int, vs = bs.map V.int ∧ b = bs.sum
  | [], vs, b, h, r => by
    cases h
    exact ⟨[], r, rfl⟩
  | .int c :: xs, vs, b, h, r => by
    dsimp only [sumI] at h
    split at h
    · rename_i d e
      cases h
      obtain ⟨w, rr, e1, r1, r2⟩ := r
      obtain ⟨bs, e2, e3⟩ := sumI_ok e r2
      have r1 : w = .int c := r1
      exact ⟨c :: bs, by rw [e1, e2, r1] <;> rfl, by rw [e3, List.sum_cons]⟩
    · cases h
  | .non :: _, _, _, h, _ => by cases h
  | .bl _ :: _, _, _, h, _ => by cases h
  | .str _ :: _, _, _, h, _ => by cases h
  | .tup _ :: _, _, _, h, _ => by cases h
  | .lst _ :: _, _, _, h, _ => by cases h
  | .dct _ _ :: _, _, _, h, _ => by cases h
  | .ins _ _ :: _, _, _, h, _ => by cases h
theorem ok_sum : Ok1 W pSum fun v => rSum W.K [v] := by
  intro F M H mem x z v Q st rx h k
  unfold pSum at h
  split at h
  · rename_i xs
    split at h
    · rename_i b e
      cases h
      obtain ⟨a, vs, e1, q, zl, r⟩ := rx
      obtain ⟨bs, e2, e3⟩ := sumI_ok e r
      subst e1 e2 e3
      exact ⟨a, bs, rfl, SqL.of q, k _ H (Same.refl H) rfl⟩
    · cases h
  · cases h
theorem rd_divm {σ : L2.St} {Q : VK} {fa fb : CE} (h : RdE W (cDivm fa fb) σ H Q) : tCB rDivm (tCons (RdE W fa) (tCons (RdE W fb) tNil)) σ H Q := by
  obtain ⟨F, M, env, mem, Qb, st, en, h, k⟩ := h
  refine RdE.at2 (R := fun v w H2 => rDivm [v, w] H2 Q) ⟨F, M, env, mem, st, en, h, fun v1 v2 H2 F2 M2 d1 d2 m2 s2 st2 r1 r2 h2 => ?_⟩
  split at h2
  · rename_i i j
    split at h2
    · rename_i hb
      simp only [Bool.and_eq_true, decide_eq_true_eq] at hb
      have r1 : v1 = .int i := r1
      have r2 : v2 = .int j := r2
      refine ⟨i, j, by rw [r1, r2], hb, fun p hp => ?_⟩
      have e := Same.new (o := .tup [.int (i / j), .int (i % j)]) hp
      exact k (.ref p) _ F2 M2 (.tup [.p (.int (i / j)), .p (.int (i % j))]) m2 (s2.trans (Step.same e)) (st2.same e) ⟨p, _, rfl, .inr ⟨upd_same, st2.fresh hp⟩, ⟨_, _, rfl, rfl, _, _, rfl, rfl, rfl⟩⟩ h2
    · cases h2
  · cases h2
theorem ok_min2 : Ok2 W pMin2 fun v w => rMin2 [v, w] := by
  intro F M H mem x y z v w Q st rx ry h k
  unfold pMin2 at h
  split at h
  · rename_i i j
    cases h
    have rx : v = .int i := rx
    have ry : w = .int j := ry
    exact ⟨i, j, by rw [rx, ry], k _ H (Same.refl H) rfl⟩
  · cases h
theorem ok_max2 : Ok2 W pMax2 fun v w => rMax2 [v, w] := by
  intro F M H mem x y z v w Q st rx ry h k
  unfold pMax2 at h
  split at h
  · rename_i i j
    cases h
    have rx : v = .int i := rx
    have ry : w = .int j := ry
    exact ⟨i, j, by rw [rx, ry], k _ H (Same.refl H) rfl⟩
  · cases h
theorem tyX_of {x : P} {v : V} {a : String} (h : tyN x = some a) (r : RepL W F H x v) : TyX W.K H v (.type a) := by
  cases x with
  | non =>
    cases h
    have r : v = .non := r
    subst r
    exact .base .non
  | bl b =>
    cases h
    have r : v = .bl b := r
    subst r
    exact .base (.bl b)
  | int b =>
    cases h
    have r : v = .int b := r
    subst r
    exact .base (.int b)
  | str s =>
    cases h
    obtain ⟨e1, _⟩ := r
    subst e1
    exact .base (.str _)
  | tup xs =>
    cases h
    obtain ⟨a, vs, e1, ⟨_, q⟩, _⟩ := r
    subst e1
    rcases q with ⟨o, q, _⟩ | ⟨o, its, n, q1, q2, _⟩
    · exact .fTuple q
    · exact .kTuple q1 q2
  | lst xs =>
    cases h
    obtain ⟨a, vs, e1, q, _⟩ := r
    subst e1
    exact .base (.lst q)
  | dct t kvs =>
    cases h
    obtain ⟨a, l, e1, _, _, q⟩ := r
    subst e1
    cases t with
    | true =>
      obtain ⟨l', q, _⟩ := q
      exact .base (.dT q)
    | false =>
      obtain ⟨l', q, _⟩ := q
      exact .base (.dK q)
  | ins c fs => cases h
theorem ok_isi {t : String} : Ok1 W (pIsi t) fun v => rIsi W.K [v, .ty t] := by
  intro F M H mem x z v Q st rx h k
  unfold pIsi at h
  split at h
  · rename_i a e
    split at h
    · rename_i hb
      cases h
      have ht : t ∈ tyIs := by simpa using hb
      exact ⟨v, .ty t, .type a, .type t, isiB a t, rfl, .ty t, tyX_of e rx, kit_ty (kit_all a (tyN_mem e) t ht), k _ H (Same.refl H) rfl⟩
    · cases h
  · cases h
end
end MP
/-! MPV: methods that read. -/
namespace MP
open PySem PySem.Spec PyProof.Rows L2
/-- the value is of that built-in type, its object without a dict of its own -/
def TyOk (X : Cx) (T : String) (x : V) (H : Hp) : Prop := ∀ (pins : List (Addr × Obj)) (s : Shared) (σ : L2.St) (v : Value), Inv X pins σ H s → RelV x v → s.TypeIs v T ∧ ∀ a, v = .ref a → ∃ ob, s.heap.get? a = some ob ∧ ob.dict = none
def tBX (X : Cx) (T1 T2 : String) (r1 r2 : V → List V → Hp → VK → Prop) (to : TE) (t : TA) : TE := fun σ H Q => to σ H fun x H1 => (TyOk X T1 x H1 ∧ t σ H1 fun xs H2 => r1 x xs H2 Q) ∨ (TyOk X T2 x H1 ∧ t σ H1 fun xs H2 => r2 x xs H2 Q)
section
variable {X : Cx} {o e : Expr} {es : List Expr} {to : TE} {t : TA} {name : Str} {apos cpos : Pos} {T1 T2 id1 id2 : String} {r1 r2 : V → List V → Hp → VK → Prop}
/-- o.m(e, ..), o of one of two built-in types -/
theorem pe_bX (pa1 : PlainAttrs T1) (slot1 : Slot T1 name id1) (hty1 : typeOf (.builtin id1) = pure (.type "method_descriptor")) (hm1 : MtR X id1 r1)
    (pa2 : PlainAttrs T2) (slot2 : Slot T2 name id2) (hty2 : typeOf (.builtin id2) = pure (.type "method_descriptor")) (hm2 : MtR X id2 r2) (ho : PE X o to) (ha : PA X (e :: es) t)
    (hbase : attributeBase o name X.env (eval o X.env) = eval o X.env)
    (hfew : ((backTo cpos (starEach (e :: es) X.env)).all (fun x => !x.1) && (backToKw cpos (keywordEach [] X.env)).all (fun x => x.1.isSome)
      && decide ((e :: es).length + ([] : List Keyword).length + (if ([] : List Keyword).isEmpty then 0 else 1) < 30)) = true)
    (hline : (apos.endLine == cpos.line) = true) (hs : starEach (e :: es) X.env = (false, eval e X.env) :: starEach es X.env) (hplain : (backTo cpos (starEach es X.env)).any (·.1) = false) :
    PE X (.Call (.Attribute o name apos) (e :: es) [] cpos) (tBX X T1 T2 r1 r2 to t) := by
  refine ⟨fun pins s σ H Q I h => ?_⟩
  have hpl : (false || (backTo cpos (starEach es X.env)).any (·.1)) = false := by rw [hplain] <;> rfl
  refine wpAny_Call_method_late hbase hfew hline rfl (thn (ho.run pins s σ H _ I h) fun v s1 ⟨x, H1, I1, rx, q1⟩ => ?_)
  rcases q1 with ⟨ty, q1⟩ | ⟨ty, q1⟩
  · obtain ⟨h1, h2⟩ := ty pins s1 σ v I1 rx
    refine ⟨T1, id1, pa1, slot1, hty1, h1, h2, ?_⟩
    have hA := ha.run cpos pins s1 σ H1 _ I1 q1
    rw [hs] at hA ⊢
    refine Calls.callWith_builtin hpl (Calls.evalArgs_plain ?_)
    exact thn hA fun us s2 ⟨vs, H2, I2, rr, q2⟩ => hm1 pins s2 σ H2 x vs v us Q I2 rx rr q2
  · obtain ⟨h1, h2⟩ := ty pins s1 σ v I1 rx
    refine ⟨T2, id2, pa2, slot2, hty2, h1, h2, ?_⟩
    have hA := ha.run cpos pins s1 σ H1 _ I1 q1
    rw [hs] at hA ⊢
    refine Calls.callWith_builtin hpl (Calls.evalArgs_plain ?_)
    exact thn hA fun us s2 ⟨vs, H2, I2, rr, q2⟩ => hm2 pins s2 σ H2 x vs v us Q I2 rx rr q2
/-! ### count -/
def rCntL (K : PySem.W.Frag) : V → List V → Hp → VK → Prop := fun x xs H Q => ∃ (y : V) (d : PyData) (ds : List PyData), xs = [y] ∧ Dp K H x (.list ds) ∧ Dp K H y d ∧ SeqAt.shaped (.list ds) = true ∧ SeqAt.shaped d = true ∧ Q (.int (ds.countP fun z => PyData.eqv z d : Nat)) H
def rCntT (K : PySem.W.Frag) : V → List V → Hp → VK → Prop := fun x xs H Q => ∃ (y : V) (d : PyData) (ds : List PyData), xs = [y] ∧ Dp K H x (.tuple ds) ∧ Dp K H y d ∧ SeqAt.shaped (.tuple ds) = true ∧ SeqAt.shaped d = true ∧ Q (.int (ds.countP fun z => PyData.eqv z d : Nat)) H
theorem countP_map' {α β : Type} (f : α → β) (p : β → Bool) : ∀ l : List α, (l.map f).countP p = l.countP fun x => p (f x)
  | [] => rfl
  | x :: r => by
    rw [List.map_cons, List.countP_cons, List.countP_cons, countP_map' f p r]
theorem mt_countL (hu : X.A.units + 65 < cLine) : MtR X "list.count" (rCntL X.K) := by
  intro pins s σ H x xs v us Q I rx rxs h
  obtain ⟨y, d, ds, rfl, hl, hy, sl, sd, q⟩ := h
  obtain ⟨uy, rfl, ry⟩ := rxs.one
  obtain ⟨bs, r1⟩ := Dp.reads I d y uy hy ry
  have hxs : PyData.canLayAll0 ds = true := SeqAt.canLay_of_shaped sl
  have hroom : X.A.units + 1 + min (PyData.depthAll ds) d.depth < cLine := room_in_shaped sd hu
  cases hl with
  | @lst a _ _ hs ha =>
    cases rx
    obtain ⟨its, rv, ⟨⟨cls, dd, data, sls⟩, n, ho, hc, hdn, hdt⟩, hlen⟩ := I.list hs
    simp only at hc hdt
    subst hc hdt
    obtain ⟨as, h4⟩ := Dp.readsAll I ds _ its ha rv
    have hmap : its.map (SeqAt.readOf s.heap) = ds := SeqAt.readsAll_map ds its as hxs h4
    refine call_meets PySem.F.slot_list_count ⟨_, ho, rfl⟩ PySem.F.entry_list_count (PySem.F.args_list_count_2 _ _)
      (SeqAt.list_countAt a its.toArray n dd sls uy (fun u => PyData.eqv (SeqAt.readOf s.heap u) d)) ⟨ho, SeqAt.items_eqAt (vs := its.toArray) (show ReadsAll s.heap its.toArray.toList ds as from h4) r1 hxs (SeqAt.canLay_of_shaped sd) hroom, ?_⟩
    refine ⟨.int (ds.countP fun z => PyData.eqv z d : Nat), H, I.tok _, ⟨s.toks, ?_⟩, q⟩
    rw [← hmap, countP_map']
theorem mt_countT (hu : X.A.units + 65 < cLine) : MtR X "tuple.count" (rCntT X.K) := by
  intro pins s σ H x xs v us Q I rx rxs h
  obtain ⟨y, d, ds, rfl, hl, hy, sl, sd, q⟩ := h
  obtain ⟨uy, rfl, ry⟩ := rxs.one
  obtain ⟨bs, r1⟩ := Dp.reads I d y uy hy ry
  have hxs : PyData.canLayAll0 ds = true := SeqAt.canLay_of_shaped sl
  have hroom : X.A.units + 1 + min (PyData.depthAll ds) d.depth < cLine := room_in_shaped sd hu
  cases hl with
  | @tup a _ _ hs ha =>
    cases rx
    obtain ⟨its, rv, ⟨⟨cls, dd, data, sls⟩, ho, hc, n, hdt⟩, hlen⟩ := I.tuple hs
    simp only at hc hdt
    subst hc hdt
    obtain ⟨as, h4⟩ := Dp.readsAll I ds _ its ha rv
    have hmap : its.map (SeqAt.readOf s.heap) = ds := SeqAt.readsAll_map ds its as hxs h4
    refine call_meets PySem.F.slot_tuple_count ⟨_, ho, rfl⟩ PySem.F.entry_tuple_count (PySem.F.args_tuple_count_2 _ _)
      (SeqAt.tuple_countAt a its.toArray n dd sls uy (fun u => PyData.eqv (SeqAt.readOf s.heap u) d)) ⟨ho, SeqAt.items_eqAt (vs := its.toArray) (show ReadsAll s.heap its.toArray.toList ds as from h4) r1 hxs (SeqAt.canLay_of_shaped sd) hroom, ?_⟩
    refine ⟨.int (ds.countP fun z => PyData.eqv z d : Nat), H, I.tok _, ⟨s.toks, ?_⟩, q⟩
    rw [← hmap, countP_map']
end
def cntP (y : P) : List P → Nat
  | [] => 0
  | x :: r => (if eqP x y then 1 else 0) + cntP y r
def pCnt (x y : P) : Option P := match x with
  | .lst ys => if okN 60 y && okN 60 (.lst ys) then some (.int (cntP y ys : Nat)) else none
  | .tup ys => if okN 60 y && okN 60 (.tup ys) then some (.int (cntP y ys : Nat)) else none
  | _ => none
theorem cntP_any : ∀ (n m : Nat) (x : P) (ys : List P), okN n x = true → (∀ y ∈ ys, okN m y = true) → cntP x ys = (pys ys).countP fun z => PyData.eqv z (py x)
  | n, m, x, [], _, _ => rfl
  | n, m, x, y :: r, hx, hy => by
    show (if eqP y x then 1 else 0) + cntP x r = (py y :: pys r).countP fun z => PyData.eqv z (py x)
    rw [List.countP_cons, ← cntP_any n m x r hx fun z hz => hy z (List.mem_cons_of_mem _ hz), ← eqP_ok m n y x (hy y List.mem_cons_self) hx, Nat.add_comm]
section
variable {X : Cx} {W : Wd} {F : Addr → Prop} {H : Hp} {fa fb : CE} {σ : L2.St} {Q : VK}
theorem tyOk_lst {a : Addr} {vs : List V} (h : H a = some (.lst vs)) : TyOk X "list" (.ref a) H := by
  intro pins s σ v I r
  cases r
  obtain ⟨its, n, rr, e, _⟩ := I.lst h
  exact ⟨⟨_, e, rfl⟩, fun a' ea => by cases ea; exact ⟨_, e, rfl⟩⟩
theorem tyOk_tup {a : Addr} {vs : List V} (hK : W.K = X.K) (h : TupAt W F H a vs) : TyOk X "tuple" (.ref a) H := by
  intro pins s σ v I r
  cases r
  rcases h.2 with ⟨o, q, d, c, _⟩ | ⟨o, its, n, q1, q2, q3, _⟩
  · obtain ⟨e, _⟩ := I.hok a _ q
    exact ⟨⟨_, e, c⟩, fun a' ea => by cases ea; exact ⟨_, e, d⟩⟩
  · rw [hK] at q1
    exact ⟨⟨_, I.kIn a o q1, q2⟩, fun a' ea => by cases ea; exact ⟨_, I.kIn a o q1, q3⟩⟩
theorem TyOk.env0 {T : String} {x : V} {H : Hp} (h : TyOk X T x H) : TyOk X T x H := h
/-- x.count(y) -/
def cCnt (a b : CE) : CE := fun env m Q => a env m fun x m1 => match x with
  | .p (.lst xs) => b env m1 fun y m2 => (match look m2 y with
    | some y => (match pCnt (.lst xs) y with
      | some z => Q (.p z) m2
      | none => false)
    | none => false)
  | .p (.tup xs) => b env m1 fun y m2 => (match look m2 y with
    | some y => (match pCnt (.tup xs) y with
      | some z => Q (.p z) m2
      | none => false)
    | none => false)
  | _ => false
theorem pCnt_l {xs : List P} {y z : P} (h : pCnt (.lst xs) y = some z) : okN 60 y = true ∧ okN 60 (.lst xs) = true ∧ z = .int (cntP y xs : Nat) := by
  unfold pCnt at h
  dsimp only at h
  split at h
  · rename_i hb
    cases h
    rw [Bool.and_eq_true] at hb
    exact ⟨hb.1, hb.2, rfl⟩
  · cases h
theorem pCnt_t {xs : List P} {y z : P} (h : pCnt (.tup xs) y = some z) : okN 60 y = true ∧ okN 60 (.tup xs) = true ∧ z = .int (cntP y xs : Nat) := by
  unfold pCnt at h
  dsimp only at h
  split at h
  · rename_i hb
    cases h
    rw [Bool.and_eq_true] at hb
    exact ⟨hb.1, hb.2, rfl⟩
  · cases h
theorem rd_count (hK : W.K = X.K) (h : RdE W (cCnt fa fb) σ H Q) : tBX X "list" "tuple" (rCntL X.K) (rCntT X.K) (RdE W fa) (tCons (RdE W fb) tNil) σ H Q := by
  obtain ⟨F, M, env, mem, Qb, st, en, h, k⟩ := h
  refine RdE.go st en h fun v1 H1 F1 M1 d1 m1 s1 st1 r1 h1 => ?_
  split at h1
  · rename_i xs
    have r0 : RepP W F1 H1 (.lst xs) v1 := r1
    obtain ⟨a, vs, e1, ⟨z, q, nF⟩, rr⟩ := r1
    refine .inl ⟨by rw [e1]; exact tyOk_lst q, ?_⟩
    refine RdE.go st1 (en.mono s1) h1 fun v2 H2 F2 M2 d2 m2 s2 st2 r2 h2 => ?_
    split at h2
    · rename_i y ey
      split at h2
      · rename_i zz ez
        obtain ⟨h3, h4, h5⟩ := pCnt_l ez
        subst h5
        obtain ⟨dd1, ss1⟩ := dpl_of (by decide) h4 (RepP.rl (RepP.kp s2.kp _ _ r0))
        obtain ⟨dd2, ss2⟩ := dpl_of (by decide) h3 (look_rl st2 r2 ey)
        rw [hK] at dd1 dd2
        refine ⟨v2, _, _, rfl, dd1, dd2, ss1, ss2, ?_⟩
        rw [← cntP_any 60 59 y xs h3 (List.all_eq_true.mp h4)]
        exact k _ H2 F2 M2 (.p (.int (cntP y xs : Nat))) m2 (s1.trans s2) st2 rfl h2
      · cases h2
    · cases h2
  · rename_i xs
    have r0 : RepP W F1 H1 (.tup xs) v1 := r1
    obtain ⟨a, vs, e1, q, rr⟩ := r1
    refine .inr ⟨by rw [e1]; exact tyOk_tup hK q, ?_⟩
    refine RdE.go st1 (en.mono s1) h1 fun v2 H2 F2 M2 d2 m2 s2 st2 r2 h2 => ?_
    split at h2
    · rename_i y ey
      split at h2
      · rename_i zz ez
        obtain ⟨h3, h4, h5⟩ := pCnt_t ez
        subst h5
        obtain ⟨dd1, ss1⟩ := dpl_of (by decide) h4 (RepP.rl (RepP.kp s2.kp _ _ r0))
        obtain ⟨dd2, ss2⟩ := dpl_of (by decide) h3 (look_rl st2 r2 ey)
        rw [hK] at dd1 dd2
        refine ⟨v2, _, _, rfl, dd1, dd2, ss1, ss2, ?_⟩
        rw [← cntP_any 60 59 y xs h3 (List.all_eq_true.mp h4)]
        exact k _ H2 F2 M2 (.p (.int (cntP y xs : Nat))) m2 (s1.trans s2) st2 rfl h2
      · cases h2
    · cases h2
  · cases h1
end
end MP
/-! MPG: enumerate, sorted, max of a list, list of a range, append, pop, three names at once. -/
namespace MP
open PySem L2
open PySem.Spec PyProof.Rows
/-! ### enumerate -/
def enumP : Nat → List P → List P
  | _, [] => []
  | i, x :: r => .tup [.int i, x] :: enumP (i + 1) r
def iEn (a : CE) : CI := fun env m Q => a env m fun x m1 => match x with
  | .p (.tup xs) => Q (enumP 0 xs) m1
  | _ => false
theorem enumP_get : ∀ (xs : List P) (k i : Nat) (p : P), (enumP k xs)[i]? = some p → ∃ x, xs[i]? = some x ∧ p = .tup [.int ((k + i : Nat) : Int), x]
  | x :: r, k, 0, p, h => by
    cases h
    exact ⟨x, rfl, rfl⟩
  | x :: r, k, i + 1, p, h => by
    obtain ⟨y, h1, h2⟩ := enumP_get r (k + 1) i p h
    exact ⟨y, h1, by rw [h2, show k + 1 + i = k + (i + 1) by omega]⟩
theorem enumP_len : ∀ (xs : List P) (k : Nat), (enumP k xs).length = xs.length
  | [], _ => rfl
  | x :: r, k => congrArg (· + 1) (enumP_len r (k + 1))
section
variable {W : Wd} {F : Addr → Prop} {H : Hp} {σ : L2.St} {R : It → Hp → Prop} {fa fb : CE} {Q : VK}
theorem wk_enum {a : Addr} {vs : List V} {xs : List P} (h : TupAt W F H a vs) (r : RepPs W F H xs vs) : Wk W F H (Iet W.K a) (enumP 0 xs) := by
  intro F' M' H' mem' k st i
  have h' := h.kp k
  have r' := RepPs.kp k _ _ r
  refine ⟨fun p hp => ?_, fun hi => ⟨vs, h'.sq, by rw [← r'.length, ← enumP_len xs 0]; exact hi⟩⟩
  obtain ⟨y, hy, ep⟩ := enumP_get xs 0 i p hp
  rw [Nat.zero_add] at ep
  subst ep
  obtain ⟨v, e, q⟩ := r'.get' hy
  refine ⟨⟨vs, v, h'.sq, e⟩, fun x H'' yl => ?_⟩
  obtain ⟨T, o, x', e1, e2, e3, e4, e5⟩ := yl
  have e6 := e5 vs h'.sq
  rw [e] at e6
  cases e6
  subst e1 e4
  have sm : Same H' (upd H' T (.frz o (.tup [.int (i : Nat), v]))) := Same.new e2
  exact ⟨sm, T, _, rfl, ⟨by rw [sizeLine_eq]; exact (by decide : 2 ≤ 16777216), .inl ⟨o, upd_same, e3.1, e3.2, st.fresh e2⟩⟩, _, _, rfl, rfl, _, _, rfl, RepP.kp (Kp.same sm) _ _ q, rfl⟩
theorem rd_iEn (h : RdI W (iEn fa) σ H R) : iEnumT W.K (tCons (RdE W fa) tNil) σ H R := by
  obtain ⟨F, M, env, mem, Qb, st, en, h, k⟩ := h
  refine RdE.go st en h fun v H1 F1 M1 d m1 s1 st1 r1 h1 => ?_
  split at h1
  · rename_i xs
    obtain ⟨a, vs, e1, q, r⟩ := r1
    exact ⟨a, vs, by rw [e1], q.sq, k _ _ H1 F1 M1 m1 s1 st1 (wk_enum q r) h1⟩
  · cases h1

/-! ### ints in a list -/
def intsOf : List P → Option (List Int)
  | [] => some []
  | .int i :: r => (match intsOf r with
    | some is => some (i :: is)
    | none => none)
  | _ => none
theorem intsOf_ok : ∀ {xs : List P} {is : List Int} {vs : List V}, intsOf xs = some is → RepPs W F H xs vs → vs = is.map V.int
  | [], is, vs, h, r => by
    cases h
    exact r
  | .int i :: xs, is, vs, h, r => by
    unfold intsOf at h
    split at h
    · rename_i js e
      cases h
      obtain ⟨v, r', e1, e2, e3⟩ := r
      have e2 : v = .int i := e2
      rw [e1, e2, intsOf_ok e e3]
      rfl
    · cases h
  | .non :: _, _, _, h, _ => by cases h
  | .bl _ :: _, _, _, h, _ => by cases h
  | .str _ :: _, _, _, h, _ => by cases h
  | .tup _ :: _, _, _, h, _ => by cases h
  | .lst _ :: _, _, _, h, _ => by cases h
  | .dct _ _ :: _, _, _, h, _ => by cases h
  | .ins _ _ :: _, _, _, h, _ => by cases h
theorem repInts : ∀ is : List Int, RepPs W F H (is.map P.int) (is.map V.int)
  | [] => rfl
  | i :: r => ⟨_, _, rfl, rfl, repInts r⟩
def insI (i : Int) : List Int → List Int
  | [] => [i]
  | j :: r => if i ≤ j then i :: j :: r else j :: insI i r
def srtI : List Int → List Int
  | [] => []
  | i :: r => insI i (srtI r)
theorem insI_perm (i : Int) : ∀ l : List Int, (insI i l).Perm (i :: l)
  | [] => .refl _
  | j :: r => by
    unfold insI
    split
    · exact .refl _
    · exact ((insI_perm i r).cons j).trans (.swap i j r)
theorem srtI_perm : ∀ l : List Int, (srtI l).Perm l
  | [] => .refl _
  | i :: r => (insI_perm i (srtI r)).trans ((srtI_perm r).cons i)
theorem insI_srt (i : Int) : ∀ l : List Int, l.Pairwise (· ≤ ·) → (insI i l).Pairwise (· ≤ ·)
  | [], _ => by simp [insI]
  | j :: r, h => by
    rw [List.pairwise_cons] at h
    unfold insI
    split
    · rename_i hij
      rw [List.pairwise_cons]
      refine ⟨fun z hz => ?_, List.pairwise_cons.mpr h⟩
      rcases List.mem_cons.mp hz with e | e
      · rw [e]; exact hij
      · exact Int.le_trans hij (h.1 z e)
    · rename_i hij
      rw [List.pairwise_cons]
      refine ⟨fun z hz => ?_, insI_srt i r h.2⟩
      rcases List.mem_cons.mp ((insI_perm i r).mem_iff.mp hz) with e | e
      · rw [e]; omega
      · exact h.1 z e
theorem srtI_srt : ∀ l : List Int, (srtI l).Pairwise (· ≤ ·)
  | [] => .nil
  | i :: r => insI_srt i _ (srtI_srt r)
def pSrt : P → Option P
  | .lst xs => (match intsOf xs with
    | some is => if is.length < 64 then some (.lst ((srtI is).map P.int)) else none
    | none => none)
  | _ => none
theorem ok_srt : Ok1 W pSrt fun v => rSorted W.K [v] := by
  intro F M H mem x z v Q st rx h k
  unfold pSrt at h
  split at h
  · rename_i xs
    split at h
    · rename_i is e
      split at h
      · rename_i hl
        cases h
        obtain ⟨a, vs, e1, q1, z1, r1⟩ := rx
        have ev := intsOf_ok e r1
        subst ev
        refine ⟨a, is, by rw [e1], SqL.of q1, hl, fun ns p hp hs hn => ?_⟩
        have en : ns = srtI is := List.Perm.eq_of_pairwise (fun a b _ _ h1 h2 => Int.le_antisymm h1 h2) hs (srtI_srt is) (hp.trans (srtI_perm is).symm)
        subst en
        exact k (.ref p) _ (Same.new hn) ⟨p, _, rfl, hn, upd_same, by rw [List.length_map, (srtI_perm is).length_eq]; exact small_line (by omega), repInts _⟩
      · cases h
    · cases h
  · cases h
def maxI : Int → List Int → Int
  | m, [] => m
  | m, i :: r => maxI (if m < i then i else m) r
theorem maxI_ok : ∀ (l : List Int) (m : Int), (maxI m l = m ∨ maxI m l ∈ l) ∧ m ≤ maxI m l ∧ ∀ y ∈ l, y ≤ maxI m l
  | [], m => ⟨.inl rfl, Int.le_refl m, fun y h => nomatch h⟩
  | i :: r, m => by
    obtain ⟨h1, h2, h3⟩ := maxI_ok r (if m < i then i else m)
    refine ⟨?_, ?_, fun y hy => ?_⟩
    · rcases h1 with e | e
      · show maxI _ r = m ∨ maxI _ r ∈ i :: r
        rw [e]
        split
        · exact .inr List.mem_cons_self
        · exact .inl rfl
      · exact .inr (List.mem_cons_of_mem _ e)
    · show m ≤ maxI _ r
      refine Int.le_trans ?_ h2
      split <;> omega
    · show y ≤ maxI _ r
      rcases List.mem_cons.mp hy with e | e
      · rw [e]
        refine Int.le_trans ?_ h2
        split <;> omega
      · exact h3 y e
def pMaxL : P → Option P
  | .lst xs => (match intsOf xs with
    | some (i :: r) => some (.int (maxI i r))
    | _ => none)
  | _ => none
theorem ok_maxL : Ok1 W pMaxL fun v => rMax W.K [v] := by
  intro F M H mem x z v Q st rx h k
  unfold pMaxL at h
  split at h
  · rename_i xs
    split at h
    · rename_i i is e
      cases h
      obtain ⟨a, vs, e1, q1, z1, r1⟩ := rx
      have ev := intsOf_ok e r1
      subst ev
      refine ⟨a, i :: is, by rw [e1], SqL.of q1, Nat.succ_pos _, fun m hm hx => ?_⟩
      obtain ⟨h1, h2, h3⟩ := maxI_ok is i
      have em : m = maxI i is := by
        have a1 : m ≤ maxI i is := by
          rcases List.mem_cons.mp hm with e | e
          · rw [e]; exact h2
          · exact h3 m e
        have a2 : maxI i is ≤ m := hx _ (by rcases h1 with e | e <;> simp [e])
        omega
      rw [em]
      exact k _ H (Same.refl H) rfl
    · cases h
  · cases h
/-! ### list of a range, of a sequence -/
def cLrg1 (mu : Bool) (a : CE) : CE := fun env m Q => a env m fun x m1 => match x with
  | .p (.int j) => if decide (j ≤ 100000) && decide (-100000 ≤ j) then out mu (.lst (rangeP 0 j.toNat)) m1 Q else false
  | _ => false
theorem rep_range : ∀ (n : Nat) (lo : Int), RepPs W F H (rangeP lo n) ((List.range n).map fun i => V.int (lo + (i : Nat)))
  | 0, lo => rfl
  | n + 1, lo => by
    rw [List.range_succ_eq_map, List.map_cons, List.map_map]
    refine ⟨_, _, rfl, (by show V.int (lo + ((0 : Nat) : Int)) = V.int lo; simp), ?_⟩
    have := rep_range n (lo + 1)
    have e : (fun i : Nat => V.int (lo + (i : Int))) ∘ Nat.succ = fun i : Nat => V.int (lo + 1 + (i : Int)) := by
      funext i
      show V.int _ = V.int _
      rw [show lo + ((i.succ : Nat) : Int) = lo + 1 + (i : Int) by omega]
    rw [e]
    exact this
theorem rd_lrg1 {mu : Bool} (h : RdE W (cLrg1 mu fa) σ H Q) : tLstRg (tRg1 (RdE W fa)) σ H Q := by
  obtain ⟨F, M, env, mem, Qb, st, en, h, k⟩ := h
  refine RdE.go st en h fun v H1 F1 M1 d m1 s1 st1 r1 h1 => ?_
  split at h1
  · rename_i j
    split at h1
    · rename_i hb
      simp only [Bool.and_eq_true, decide_eq_true_eq] at hb
      have r1 : v = .int j := r1
      refine ⟨j, r1, ⟨by omega, by omega, by omega, by omega, by omega⟩, fun q hq => ?_⟩
      have rr := rep_range (W := W) (F := F1) (H := H1) (j - 0).toNat 0
      have ej : (j - 0).toNat = j.toNat := by omega
      refine out_ok (z := .lst (rangeP 0 j.toNat)) st1 (Same.new hq) ⟨q, _, rfl, hq, upd_same, ?_, by rw [← ej]; exact rr⟩ h1 fun v H' F' M' d mem' s => k v H' F' M' d mem' (s1.trans s)
      rw [rgV_length, sizeLine_eq]
      omega
    · cases h1
  · cases h1
def pLsq : P → Option P
  | .lst xs => if xs.length ≤ 100000 then some (.lst xs) else none
  | .tup xs => if xs.length ≤ 100000 then some (.lst xs) else none
  | _ => none
def rLsq (K : PySem.W.Frag) : List V → Hp → VK → Prop := fun xs H Q => ∃ p ys, xs = [.ref p] ∧ (SqL K H p ys ∨ SqT K H p ys) ∧ ∀ l, H l = none → Q (.ref l) (upd H l (.lst ys))
theorem ok_lsq : Ok1 W pLsq fun v => rLsq W.K [v] := by
  intro F M H mem x z v Q st rx h k
  unfold pLsq at h
  split at h
  · split at h
    · cases h
      obtain ⟨a, vs, e1, q1, z1, r1⟩ := rx
      exact ⟨a, vs, by rw [e1], .inl (SqL.of q1), fun l hl => k _ _ (Same.new hl) ⟨l, vs, rfl, hl, upd_same, z1, r1⟩⟩
    · cases h
  · split at h
    · cases h
      obtain ⟨a, vs, e1, q1, r1⟩ := rx
      exact ⟨a, vs, by rw [e1], .inr q1.sq, fun l hl => k _ _ (Same.new hl) ⟨l, vs, rfl, hl, upd_same, q1.1, r1⟩⟩
    · cases h
  · cases h
/-! ### append -/
def cApp (a b : CE) : CE := fun env m Q => a env m fun x m1 => match x with
  | .ref n => (match m1[n]? with
    | some (.lst _) => b env m1 fun y m2 => (match m2[n]?, y with
      | some (.lst xs), .p v => if xs.length ≤ 100000 then Q (.p .non) (m2.set n (.lst (xs ++ [v]))) else false
      | _, _ => false)
    | _ => false)
  | _ => false
theorem rd_app (h : RdE W (cApp fa fb) σ H Q) : tBM W.K "list" rAppend (RdE W fa) (tCons (RdE W fb) tNil) σ H Q := by
  obtain ⟨F, M, env, mem, Qb, st, en, h, k⟩ := h
  refine RdE.go st en h fun v1 H1 F1 M1 d1 m1 s1 st1 r1 h1 => ?_
  split at h1
  · rename_i n
    obtain ⟨a, ea, ev⟩ := r1
    split at h1
    · rename_i ys ey
      obtain ⟨ws, _, hw, _⟩ := st1.cell n a _ ea ey
      refine ⟨by rw [ev]; exact .inl ⟨rfl, ws, SqL.of hw⟩, ?_⟩
      refine RdE.go st1 (en.mono s1) h1 fun v2 H2 F2 M2 d2 m2 s2 st2 r2 h2 => ?_
      have ea2 : M2[n]? = some a := s2.get ea
      split at h2
      · rename_i xs v ex
        split at h2
        · rename_i hl
          obtain ⟨vs, z, hH, rr⟩ := st2.cell n a _ ea2 ex
          have hlen := rr.length
          refine ⟨a, vs, v2, ev, rfl, hH, by rw [← hlen, sizeLine_eq]; omega, ?_⟩
          have r2 : RepP W F2 H2 v v2 := r2
          obtain ⟨s3, st3⟩ := st2.write (c' := .lst (xs ++ [v])) (o' := .lst (vs ++ [v2])) ea2 hH (fun _ z => by cases z) (fun _ z => by cases z) fun kp =>
            ⟨_, by rw [List.length_append, ← hlen, sizeLine_eq]; simp only [List.length_singleton]; omega, upd_same, (RepPs.kp kp _ _ rr).append ⟨_, _, rfl, RepP.kp kp _ _ r2, rfl⟩⟩
          exact k .non _ F2 M2 (.p .non) _ ((s1.trans s2).trans s3) st3 rfl h2
        · cases h2
      · cases h2
    · cases h1
  · cases h1
/-! ### pop(i) -/
def cPopAt (a b : CE) : CE := fun env m Q => a env m fun x m1 => match x with
  | .ref n => (match m1[n]? with
    | some (.lst _) => b env m1 fun y m2 => (match m2[n]?, y with
      | some (.lst xs), .p (.int i) => (match ixN xs.length i with
        | some j => (match xs[j]? with
          | some v => Q (.p v) (m2.set n (.lst (xs.eraseIdx j)))
          | none => false)
        | none => false)
      | _, _ => false)
    | _ => false)
  | _ => false
theorem RepPs.erase : ∀ {xs : List P} {vs : List V} (j : Nat), RepPs W F H xs vs → RepPs W F H (xs.eraseIdx j) (vs.eraseIdx j)
  | [], vs, j, r => by
    have r : vs = [] := r
    subst r
    rfl
  | x :: xs, vs, 0, r => by
    obtain ⟨v, r', e, _, q⟩ := r
    subst e
    exact q
  | x :: xs, vs, j + 1, r => by
    obtain ⟨v, r', e, p, q⟩ := r
    subst e
    exact ⟨v, _, rfl, p, RepPs.erase j q⟩
theorem rd_popAt (h : RdE W (cPopAt fa fb) σ H Q) : tBM W.K "list" rPopAt (RdE W fa) (tCons (RdE W fb) tNil) σ H Q := by
  obtain ⟨F, M, env, mem, Qb, st, en, h, k⟩ := h
  refine RdE.go st en h fun v1 H1 F1 M1 d1 m1 s1 st1 r1 h1 => ?_
  split at h1
  · rename_i n
    obtain ⟨a, ea, ev⟩ := r1
    split at h1
    · rename_i ys ey
      obtain ⟨ws, _, hw, _⟩ := st1.cell n a _ ea ey
      refine ⟨by rw [ev]; exact .inl ⟨rfl, ws, SqL.of hw⟩, ?_⟩
      refine RdE.go st1 (en.mono s1) h1 fun v2 H2 F2 M2 d2 m2 s2 st2 r2 h2 => ?_
      have ea2 : M2[n]? = some a := s2.get ea
      split at h2
      · rename_i xs i ex
        split at h2
        · rename_i j ej
          split at h2
          · rename_i v hv
            obtain ⟨vs, z, hH, rr⟩ := st2.cell n a _ ea2 ex
            have hlen := rr.length
            obtain ⟨e1, e2, e3, e4⟩ := ixN_seq ej
            obtain ⟨u, hu, ru⟩ := rr.get' hv
            have r2 : v2 = .int i := r2
            have hz : (vs.length : Int) ≤ 16777216 := by rw [sizeLine_eq] at z; omega
            refine ⟨a, vs, i, j, u, ev, by rw [r2], hH, by omega, by omega, by rw [← hlen]; exact e1, hu, ?_⟩
            obtain ⟨s3, st3⟩ := st2.write (c' := .lst (xs.eraseIdx j)) (o' := .lst (vs.eraseIdx j)) ea2 hH (fun _ z => by cases z) (fun _ z => by cases z) fun kp =>
              ⟨_, Nat.le_trans (List.length_eraseIdx_le _ _) z, upd_same, RepPs.kp kp _ _ (RepPs.erase j rr)⟩
            exact k u _ F2 M2 (.p v) _ ((s1.trans s2).trans s3) st3 (RepP.kp s3.kp _ _ ru) h2
          · cases h2
        · cases h2
      · cases h2
    · cases h1
  · cases h1
end
/-! ### the sum of a tuple -/
def rSumT (K : PySem.W.Frag) : List V → Hp → VK → Prop := fun vs H Q => ∃ (a : Addr) (ns : List Int), vs = [V.ref a] ∧ SqT K H a (ns.map V.int) ∧ Q (.int ns.sum) H
theorem cr_sumT {X : Cx} (hc : X.calm = true) : CallR X (.builtin "sum") (rSumT X.K) := by
  intro pins s σ H vs us Q I r h
  obtain ⟨a, ns, rfl, hs, q⟩ := h
  obtain ⟨its, rv, p, _⟩ := I.tuple hs
  have hT : s.heap.IsTuple a its.toArray := p
  rw [Vals.ref1 r]
  obtain ⟨xs, e⟩ := rv.ints.allInts.items
  have hn : numsOf (intItems xs).toList = ns := by rw [← e]; exact rv.ints.numsOf
  rw [nums_intItems] at hn
  rw [e] at hT
  have hlt : a < s.heap.objs.size := by obtain ⟨_, z, _⟩ := hT; exact Heap.lt_size z
  refine call_sum_walkG (wpAny_pyIter_tuple hT ⟨_, [s.heap.objs.size, a], [s.heap.objs.size], _, _, _, numAt xs, rfl, Walks.tuple (A := X.A.in1) (show X.A.in1.handled = none from I.ok.hd hc) _ a (Nat.ne_of_lt hlt) (intItems xs),
    ⟨⟨_, Heap.get?_push_size _ rfl, rfl, rfl⟩, hT.push _⟩, fun b hb => ?_, fun _ _ => intItems_at, fun h' tk t' hk => ?_⟩)
  · show b < (s.heap.push _).objs.size
    rw [Heap.size_push]
    rcases List.mem_cons.mp hb with z | z
    · rw [z]; exact Nat.lt_succ_self _
    · rw [List.mem_singleton.mp z]; exact Nat.lt_succ_of_lt hlt
  · refine ⟨.int ns.sum, H, I.kept (h' := h') (t' := tk) fun b o z => hk b o (fun w => ?_) (Heap.get?_push_of_some _ z), ⟨t', ?_⟩, q⟩
    · rw [List.mem_singleton] at w
      rw [w] at z
      exact absurd (Heap.lt_size z) (Nat.lt_irrefl _)
    · rw [preSum_eq, List.take_of_length_le (by simp [intItems]), hn]
def pSumX : P → Option P
  | .tup xs => (match intsOf xs with
    | some is => some (.int is.sum)
    | none => none)
  | x => pSum x
def rSumX (K : PySem.W.Frag) : List V → Hp → VK → Prop := fun xs H Q => rSum K xs H Q ∨ rSumT K xs H Q
theorem ok_sumX {W : Wd} : Ok1 W pSumX fun v => rSumX W.K [v] := by
  intro F M H mem x z v Q st rx h k
  unfold pSumX at h
  split at h
  · rename_i xs
    split at h
    · rename_i is e
      cases h
      obtain ⟨a, vs, e1, q1, r1⟩ := rx
      have ev := intsOf_ok e r1
      subst ev
      exact .inr ⟨a, is, by rw [e1], q1.sq, k _ H (Same.refl H) rfl⟩
    · cases h
  · exact .inl (ok_sum F M H mem x z v Q st rx h k)
/-! ### three names at once -/
theorem rd_par3 {W : Wd} {σ : L2.St} {H : Hp} {Ds : Ends} {a : CA} {i j l : Nat} (h : RdS W (sPar [i, j, l] a) Ds σ H) : tPar3 i j l (RdA W a) Ds σ H := by
  obtain ⟨F, M, env, mem, B, st, en, h, o⟩ := h.un
  refine RdA.go st en h fun vs H1 F1 M1 ds m1 s1 st1 r1 h1 => ?_
  split at h1
  · rename_i env1 eg
    match ds, r1, eg with
    | [d1, d2, d3], r1, eg =>
      obtain ⟨v, rr, e1, q1, w, rr2, e2, q2, u, rr3, e3, q3, e4⟩ := r1
      have e4 : rr3 = [] := e4
      subst e4 e3 e2 e1
      have eg' : ((env.set i (some d1)).set j (some d2)).set l (some d3) = env1 := Option.some.inj eg
      subst eg'
      exact ⟨v, w, u, rfl, o.nx _ H1 F1 M1 _ m1 s1 st1 ((((en.mono s1).set q1).set q2).set q3) h1⟩
    | [], r1, eg => cases eg
    | [d1], r1, eg => cases eg
    | [d1, d2], r1, eg => cases eg
    | d1 :: d2 :: d3 :: d4 :: _, r1, eg => cases eg
  · cases h1
end MP
/-! MQ0: loops whose turns hang on nothing of one another. -/
namespace MP
open PySem L2
mutual
def samP : P → P → Bool
  | .non, y => match y with
    | .non => true
    | _ => false
  | .bl a, y => match y with
    | .bl b => a == b
    | _ => false
  | .int i, y => match y with
    | .int j => decide (i = j)
    | _ => false
  | .str s, y => match y with
    | .str t => decide (s = t)
    | _ => false
  | .tup xs, y => match y with
    | .tup ys => samPs xs ys
    | _ => false
  | .lst xs, y => match y with
    | .lst ys => samPs xs ys
    | _ => false
  | .dct _ _, _ => false
  | .ins _ _, _ => false
def samPs : List P → List P → Bool
  | [], ys => match ys with
    | [] => true
    | _ => false
  | x :: xs, ys => match ys with
    | y :: ys => samP x y && samPs xs ys
    | _ => false
end
mutual
theorem samP_eq : ∀ (x y : P), samP x y = true → x = y
  | .non, y, h => by
    unfold samP at h
    split at h
    · rfl
    · cases h
  | .bl a, y, h => by
    unfold samP at h
    split at h
    · rw [beq_iff_eq] at h; rw [h]
    · cases h
  | .int i, y, h => by
    unfold samP at h
    split at h
    · rw [of_decide_eq_true h]
    · cases h
  | .str s, y, h => by
    unfold samP at h
    split at h
    · rw [of_decide_eq_true h]
    · cases h
  | .tup xs, y, h => by
    unfold samP at h
    split at h
    · rw [samPs_eq _ _ h]
    · cases h
  | .lst xs, y, h => by
    unfold samP at h
    split at h
    · rw [samPs_eq _ _ h]
    · cases h
  | .dct _ _, _, h => by cases h
  | .ins _ _, _, h => by cases h
theorem samPs_eq : ∀ (xs ys : List P), samPs xs ys = true → xs = ys
  | [], ys, h => by
    unfold samPs at h
    split at h
    · rfl
    · cases h
  | x :: xs, ys, h => by
    unfold samPs at h
    split at h
    · rw [Bool.and_eq_true] at h
      rw [samP_eq _ _ h.1, samPs_eq _ _ h.2]
    · cases h
end
def samD : D → D → Bool
  | .p x, .p y => samP x y
  | .ref i, .ref j => Nat.beq i j
  | _, _ => false
theorem samD_eq {x y : D} (h : samD x y = true) : x = y := by
  unfold samD at h
  split at h
  · rw [samP_eq _ _ h]
  · rw [Nat.eq_of_beq_eq_true h]
  · cases h
def samE : Env → Env → Bool
  | [], [] => true
  | none :: xs, none :: ys => samE xs ys
  | some x :: xs, some y :: ys => samD x y && samE xs ys
  | _, _ => false
theorem samE_eq : ∀ {x y : Env}, samE x y = true → x = y
  | [], [], _ => rfl
  | none :: xs, none :: ys, h => by
    have h : samE xs ys = true := h
    rw [samE_eq h]
  | some x :: xs, some y :: ys, h => by
    unfold samE at h
    rw [Bool.and_eq_true] at h
    rw [samD_eq h.1, samE_eq h.2]
  | [], _ :: _, h => by cases h
  | none :: _, [], h => by cases h
  | some _ :: _, [], h => by cases h
  | none :: _, some _ :: _, h => by cases h
  | some _ :: _, none :: _, h => by cases h
def samM : Mem → Mem → Bool
  | [], [] => true
  | .lst xs :: r, .lst ys :: q => samPs xs ys && samM r q
  | .bowl :: r, .bowl :: q => samM r q
  | _, _ => false
theorem samM_eq : ∀ {x y : Mem}, samM x y = true → x = y
  | [], [], _ => rfl
  | .lst xs :: r, .lst ys :: q, h => by
    unfold samM at h
    rw [Bool.and_eq_true] at h
    rw [samPs_eq _ _ h.1, samM_eq h.2]
  | .bowl :: r, .bowl :: q, h => by
    have h : samM r q = true := h
    rw [samM_eq h]
  | [], _ :: _, h => by cases h
  | .lst _ :: _, [], h => by cases h
  | .bowl :: _, [], h => by cases h
  | .dct _ _ :: _, [], h => by cases h
  | .lst _ :: _, .bowl :: _, h => by cases h
  | .lst _ :: _, .dct _ _ :: _, h => by cases h
  | .bowl :: _, .lst _ :: _, h => by cases h
  | .bowl :: _, .dct _ _ :: _, h => by cases h
  | .dct _ _ :: _, .lst _ :: _, h => by cases h
  | .dct _ _ :: _, .bowl :: _, h => by cases h
  | .dct _ _ :: _, .dct _ _ :: _, h => by cases h
theorem wipeE_set {env : Env} {i : Nat} {x : Option D} : ∀ {vs : List Nat}, i ∈ vs → wipeE (env.set i x) vs = wipeE env vs
  | v :: vs, h => by
    show (wipeE (env.set i x) vs).set v none = (wipeE env vs).set v none
    by_cases hv : v = i
    · subst hv
      by_cases hm : v ∈ vs
      · rw [wipeE_set hm]
      · have : ∀ {vs : List Nat} {env : Env}, v ∉ vs → wipeE (env.set v x) vs = (wipeE env vs).set v x := by
          intro vs
          induction vs with
          | nil => intro env _; rfl
          | cons w ws ih =>
            intro env hm
            have h1 : v ∉ ws := fun q => hm (List.mem_cons_of_mem _ q)
            have h2 : v ≠ w := fun q => hm (by rw [q]; exact List.mem_cons_self)
            show (wipeE (env.set v x) ws).set w none = ((wipeE env ws).set w none).set v x
            rw [ih h1, List.set_comm _ _ h2]
        rw [this hm, List.set_set]
    · rcases List.mem_cons.mp h with e | e
      · exact absurd e.symm hv
      · rw [wipeE_set e]
theorem wipeE_wipeE {env : Env} : ∀ (vs : List Nat), wipeE (wipeE env vs) vs = wipeE env vs := by
  have key : ∀ (ws vs : List Nat) (env : Env), (∀ w ∈ ws, w ∈ vs) → wipeE (wipeE env ws) vs = wipeE env vs := by
    intro ws
    induction ws with
    | nil => intro vs env _; rfl
    | cons w ws ih =>
      intro vs env h
      show wipeE ((wipeE env ws).set w none) vs = _
      rw [wipeE_set (h w List.mem_cons_self)]
      exact ih vs env fun x hx => h x (List.mem_cons_of_mem _ hx)
  exact fun vs => key vs vs env fun w h => h
theorem EnvR.forget {W : Wd} {F : Addr → Prop} {M : List Addr} {H : Hp} {env : Env} {σ : L2.St} (en : EnvR W F M H env σ) : ∀ vs : List Nat, EnvR W F M H (wipeE env vs) σ
  | [] => en
  | v :: vs => by
    have ih := en.forget vs
    refine ⟨?_, fun i d e => ?_⟩
    · show ((wipeE env vs).set v none).length = σ.length
      rw [List.length_set, ih.len]
    · have e : ((wipeE env vs).set v none)[i]? = some (some d) := e
      by_cases hv : v = i
      · subst hv
        by_cases hl : v < (wipeE env vs).length
        · rw [List.getElem?_set_self hl] at e
          cases e
        · rw [List.getElem?_eq_none (by rw [List.length_set]; omega)] at e
          cases e
      · rw [List.getElem?_set_ne hv] at e
        exact ih.at_ i d e

/-! ### the loops -/
abbrev CIp := Env → Mem → (P → Bool) → Bool
def ipI (i : CI) : CIp := fun env m chk => i env m fun xs m1 => samM m1 m && xs.all chk
def ipT (es : List CE) : CIp := fun env m chk => decide (es.length ≤ 1000) && es.all fun e => e env m fun d m1 => samM m1 m && match d with
  | .p x => chk x
  | _ => false
def lapOk (g : Tg) (b : CS) (w : List Nat) (rt : KD) (env0 : Env) (m0 : Mem) (x : P) : Bool := match g.run (.p x) env0 with
  | some env1 => b { nx := fun env2 m2 => samE (wipeE env2 w) env0 && samM m2 m0, ct := fun env2 m2 => samE (wipeE env2 w) env0 && samM m2 m0, bk := fun _ _ => false, rt := rt } env1 m0
  | none => false
def sForC (w : List Nat) (ip : CIp) (g : Tg) (b : CS) : CS := fun D env m => ip env m (lapOk g b w D.rt (wipeE env w) m) && D.nx (wipeE env w) m
/-- what is walked is not looked at -/
def sForU (w : List Nat) (j : Nat) (i : CI) (b : CS) : CS := fun D env m => (w.contains j) && (i env m fun _ m1 => samM m1 m) &&
  b { nx := fun env2 m2 => samE (wipeE env2 w) (wipeE env w) && samM m2 m, ct := fun env2 m2 => samE (wipeE env2 w) (wipeE env w) && samM m2 m, bk := fun _ _ => false, rt := D.rt } (wipeE env w) m && D.nx (wipeE env w) m
def RdIp (W : Wd) (f : CIp) : TI := fun σ H R => ∃ F M env mem chk, StR W F M H mem ∧ EnvR W F M H env σ ∧ f env mem chk = true ∧
  ∀ J xs H' F' M', Step F M H F' M' H' → StR W F' M' H' mem → Wk W F' H' J xs → (∀ x ∈ xs, chk x = true) → R J H'
section
variable {W : Wd} {σ : L2.St} {H : Hp} {Ds : Ends} {fb : CS} {fi : CI} {ip : CIp} {g : Tg} {w : List Nat} {R : It → Hp → Prop}
theorem rd_forC (h : RdS W (sForC w ip g fb) Ds σ H) : tFor (RdIp W ip) (g.rd W.K) (RdS W fb) Ds σ H := by
  obtain ⟨F, M, env, mem, B, st, en, h, o⟩ := h.un
  have h : (ip env mem (lapOk g fb w B.rt (wipeE env w) mem) && B.nx (wipeE env w) mem) = true := h
  rw [Bool.and_eq_true] at h
  obtain ⟨h, hnx⟩ := h
  refine ⟨F, M, env, mem, _, st, en, h, fun J xs H1 F1 M1 s1 st1 wk h1 => ?_⟩
  refine ⟨fun i m σ2 H2 => ∃ F2 M2, Step F1 M1 H1 F2 M2 H2 ∧ StR W F2 M2 H2 mem ∧ EnvR W F2 M2 H2 (wipeE env w) σ2 ∧ m = xs.length - i ∧ i ≤ xs.length,
    ⟨xs.length, F1, M1, Step.refl, st1, (en.mono s1).forget w, by simp, Nat.zero_le _⟩, ?_⟩
  rintro i m σ2 H2 ⟨F2, M2, s2, st2, en2, rfl, hi⟩
  obtain ⟨w1, w2⟩ := wk F2 M2 H2 mem s2.kp st2 i
  by_cases hlt : i < xs.length
  · obtain ⟨g1, g2⟩ := w1 xs[i] (List.getElem?_eq_getElem hlt)
    refine .inr ⟨g1, fun σ' H' => ∃ F2 M2, Step F1 M1 H1 F2 M2 H' ∧ StR W F2 M2 H' mem ∧ EnvR W F2 M2 H' (wipeE env w) σ', fun σ' H' ⟨F3, M3, s3, st3, en3⟩ => ⟨xs.length - (i + 1), by omega, F3, M3, s3, st3, en3, rfl, hlt⟩, fun x H3 y => ?_⟩
    obtain ⟨sm, rp⟩ := g2 x H3 y
    have s3 := s2.trans (Step.same sm)
    have st3 := st2.same sm
    have en3 := en2.mono (Step.same sm)
    have hc := h1 xs[i] (List.getElem_mem hlt)
    unfold lapOk at hc
    split at hc
    · rename_i env4 eg
      refine Tg.ok eg en3 (d := .p xs[i]) rp fun σ4 en4 _ => ?_
      have o3 := o.later (s1.trans s3)
      have back : ∀ σ' H' F' M' env' mem', Step F2 M2 H3 F' M' H' → StR W F' M' H' mem' → EnvR W F' M' H' env' σ' → (samE (wipeE env' w) (wipeE env w) && samM mem' mem) = true →
          ∃ F2 M2, Step F1 M1 H1 F2 M2 H' ∧ StR W F2 M2 H' mem ∧ EnvR W F2 M2 H' (wipeE env w) σ' := fun σ' H' F' M' env' mem' s st' en' h' => by
        rw [Bool.and_eq_true] at h'
        have e1 := samM_eq h'.2
        have e2 := samE_eq h'.1
        have en5 := en'.forget w
        rw [e2] at en5
        rw [e1] at st'
        exact ⟨F', M', s3.trans s, st', en5⟩
      exact RdS.go st3 en4 hc ⟨back, o3.rt, fun σ' H' F' M' env' mem' s st' en' h' => (by cases h'), back⟩
    · cases hc
  · have e : i = xs.length := by omega
    subst e
    exact .inl ⟨w2 (Nat.le_refl _), o.nx σ2 H2 F2 M2 _ mem (s1.trans s2) st2 en2 hnx⟩
theorem rd_forU {j : Nat} (h : RdS W (sForU w j fi fb) Ds σ H) : tFor (RdI W fi) (Tg.rd W.K (.n j)) (RdS W fb) Ds σ H := by
  obtain ⟨F, M, env, mem, B, st, en, h, o⟩ := h.un
  unfold sForU at h
  rw [Bool.and_eq_true, Bool.and_eq_true, Bool.and_eq_true] at h
  obtain ⟨⟨⟨hj, h⟩, hc⟩, hnx⟩ := h
  have hj : j ∈ w := by simpa using hj
  refine ⟨F, M, env, mem, _, st, en, h, fun J xs H1 F1 M1 m1 s1 st1 wk h1 => ?_⟩
  have e0 := samM_eq h1
  subst e0
  refine ⟨fun i m σ2 H2 => ∃ F2 M2, Step F1 M1 H1 F2 M2 H2 ∧ StR W F2 M2 H2 m1 ∧ EnvR W F2 M2 H2 (wipeE env w) σ2 ∧ m = xs.length - i ∧ i ≤ xs.length,
    ⟨xs.length, F1, M1, Step.refl, st1, (en.mono s1).forget w, by simp, Nat.zero_le _⟩, ?_⟩
  rintro i m σ2 H2 ⟨F2, M2, s2, st2, en2, rfl, hi⟩
  obtain ⟨w1, w2⟩ := wk F2 M2 H2 m1 s2.kp st2 i
  by_cases hlt : i < xs.length
  · obtain ⟨g1, g2⟩ := w1 xs[i] (List.getElem?_eq_getElem hlt)
    refine .inr ⟨g1, fun σ' H' => ∃ F2 M2, Step F1 M1 H1 F2 M2 H' ∧ StR W F2 M2 H' m1 ∧ EnvR W F2 M2 H' (wipeE env w) σ', fun σ' H' ⟨F3, M3, s3, st3, en3⟩ => ⟨xs.length - (i + 1), by omega, F3, M3, s3, st3, en3, rfl, hlt⟩, fun x H3 y => ?_⟩
    obtain ⟨sm, rp⟩ := g2 x H3 y
    have s3 := s2.trans (Step.same sm)
    have st3 := st2.same sm
    have en3 := en2.mono (Step.same sm)
    have en4 : EnvR W F2 M2 H3 (wipeE env w) (σ2.set j (some x)) := by
      have := (en3.set (i := j) (d := .p xs[i]) rp).forget w
      rw [wipeE_set hj, wipeE_wipeE] at this
      exact this
    have o3 := o.later (s1.trans s3)
    have back : ∀ σ' H' F' M' env' mem', Step F2 M2 H3 F' M' H' → StR W F' M' H' mem' → EnvR W F' M' H' env' σ' → (samE (wipeE env' w) (wipeE env w) && samM mem' m1) = true →
        ∃ F2 M2, Step F1 M1 H1 F2 M2 H' ∧ StR W F2 M2 H' m1 ∧ EnvR W F2 M2 H' (wipeE env w) σ' := fun σ' H' F' M' env' mem' s st' en' h' => by
      rw [Bool.and_eq_true] at h'
      have e1 := samM_eq h'.2
      have e2 := samE_eq h'.1
      have en5 := en'.forget w
      rw [e2] at en5
      rw [e1] at st'
      exact ⟨F', M', s3.trans s, st', en5⟩
    exact RdS.go st3 en4 hc ⟨back, o3.rt, fun σ' H' F' M' env' mem' s st' en' h' => (by cases h'), back⟩
  · have e : i = xs.length := by omega
    subst e
    exact .inl ⟨w2 (Nat.le_refl _), o.nx σ2 H2 F2 M2 _ m1 (s1.trans s2) st2 en2 hnx⟩
theorem rd_ipI (h : RdIp W (ipI fi) σ H R) : RdI W fi σ H R := by
  obtain ⟨F, M, env, mem, chk, st, en, h, k⟩ := h
  refine ⟨F, M, env, mem, _, st, en, h, fun J xs H' F' M' mem' s st' wk h1 => ?_⟩
  rw [Bool.and_eq_true] at h1
  have e := samM_eq h1.1
  subst e
  exact k J xs H' F' M' s st' wk fun x hx => List.all_eq_true.mp h1.2 x hx
/-- the chain of a tuple's places -/
def tAll (W : Wd) : List CE → TA
  | [] => tNil
  | f :: fs => tCons (RdE W f) (tAll W fs)
theorem tAll_ok {env : Env} {mem : Mem} {chk : P → Bool} : ∀ {fs : List CE} {F1 : Addr → Prop} {M1 : List Addr} {H1 : Hp} {QA : List V → Hp → Prop}, StR W F1 M1 H1 mem → EnvR W F1 M1 H1 env σ →
    (fs.all fun e => e env mem fun d m1 => samM m1 mem && match d with
      | .p x => chk x
      | _ => false) = true →
    (∀ xs vs H' F' M', Step F1 M1 H1 F' M' H' → StR W F' M' H' mem → RepPs W F' H' xs vs → (∀ x ∈ xs, chk x = true) → xs.length = fs.length → QA vs H') → tAll W fs σ H1 QA
  | [], F1, M1, H1, QA, st, en, h, k => k [] [] H1 F1 M1 Step.refl st rfl (fun x hx => by cases hx) rfl
  | f :: fs, F1, M1, H1, QA, st, en, h, k => by
    rw [List.all_cons, Bool.and_eq_true] at h
    show RdE W f σ H1 _
    refine RdE.go st en h.1 fun v H2 F2 M2 d m2 s2 st2 r2 h2 => ?_
    rw [Bool.and_eq_true] at h2
    have e := samM_eq h2.1
    subst e
    have h3 := h2.2
    split at h3
    · rename_i x
      refine tAll_ok st2 (en.mono s2) h.2 fun xs vs H' F' M' s' st' rr hc hl => ?_
      refine k (x :: xs) (v :: vs) H' F' M' (s2.trans s') st' ⟨v, vs, rfl, RepP.kp s'.kp _ _ r2, rr⟩ (fun y hy => ?_) (congrArg (· + 1) hl)
      rcases List.mem_cons.mp hy with e | e
      · rw [e]; exact h3
      · exact hc y e
    · cases h3
theorem rd_ipT {fs : List CE} (h : RdIp W (ipT fs) σ H R) : iSeqX W.K (tTupF (tAll W fs)) σ H R := by
  obtain ⟨F, M, env, mem, chk, st, en, h, k⟩ := h
  unfold ipT at h
  rw [Bool.and_eq_true] at h
  have hl0 := of_decide_eq_true h.1
  show tAll W fs σ H _
  refine tAll_ok (chk := chk) st en h.2 fun xs vs H' F' M' s' st' rr hc hl => ?_
  have hz : vs.length ≤ sizeLine := small_line (by rw [← rr.length, hl]; omega)
  refine ⟨hz, newT_of st' hz rr fun u H2 e2 ru => ?_⟩
  obtain ⟨a, ws, e1, q, r⟩ := ru
  exact .inr (.inl ⟨a, e1, ⟨ws, q.sq⟩, k _ _ H2 F' M' (s'.trans (Step.same e2)) (st'.same e2) (wk_tup q r) hc⟩)
end

/-! ### a def that hands on what it has made open to writing -/
def spOfG (W : Wd) (n : Nat) (C : CC) : Sp := fun vs H Q _ => vs.length = n ∧ ∃ F M ds mem Qb, StR W F M H mem ∧ RepDs W F M H ds vs ∧ C ds mem Qb = true ∧
  ∀ v H' F' M' d mem', Step F M H F' M' H' → StR W F' M' H' mem' → RepD W F' M' H' d v → Qb d mem' = true → Q v H'
def callG (k n : Nat) (body : CS) : CC := fun ds m Q => if ds.length = k then
    body { nx := fun _ m1 => Q (.p .non) m1, rt := Q, bk := fun _ _ => false, ct := fun _ _ => false } (startE n ds) m
  else false
theorem callG_len {k n : Nat} {body : CS} (ds : List D) (m : Mem) (Q : KD) (h : callG k n body ds m Q = true) : ds.length = k := by
  unfold callG at h
  split at h
  · assumption
  · cases h
/-- cells made on the way are forgotten -/
def cTrunc (f : CE) : CE := fun env m Q => f env m (retOf m.length Q)
section
variable {W : Wd} {σ : L2.St} {H : Hp} {Q : VK} {C : CC} {a : CA} {f : CE}
theorem rd_callG {n : Nat} (hn : ∀ ds m Qb, C ds m Qb = true → ds.length = n) (h : RdE W (cCall C a) σ H Q) : tCall (spOfG W n C) [] E0 (RdA W a) σ H Q := by
  obtain ⟨F, M, env, mem, Qb, st, en, h, k⟩ := h
  refine RdA.go st en h fun vs H1 F1 M1 ds m1 s1 st1 r1 h1 => ?_
  rw [List.append_nil]
  exact ⟨by rw [← r1.length]; exact hn _ _ _ h1, F1, M1, ds, m1, Qb, st1, r1, h1, fun v H' F' M' d mem' s2 => k v H' F' M' d mem' (s1.trans s2)⟩
theorem rd_bodyG {N : List Str} {k : Nat} {body : CS} {vs : List V} {E : XK} (hN : k ≤ N.length) (h : spOfG W k (callG k N.length body) vs H Q E) : RdS W body { nx := fun _ H' => Q .non H', rt := Q } (L2.start N vs) H := by
  obtain ⟨hl, F, M, ds, mem, Qb, st, r, h, kk⟩ := h
  have hd : ds.length = k := callG_len _ _ _ h
  unfold callG at h
  rw [if_pos hd] at h
  exact RdS.go st (startE_ok r (by omega)) h ⟨fun σ' H' F' M' env' mem' s st' en' h' => kk .non H' F' M' (.p .non) mem' s st' rfl h', fun v H' F' M' d mem' s st' r' h' => kk v H' F' M' d mem' s st' r' h',
    fun σ' H' F' M' env' mem' s st' en' h' => (by cases h'), fun σ' H' F' M' env' mem' s st' en' h' => (by cases h')⟩
theorem rd_trunc (h : RdE W (cTrunc f) σ H Q) : RdE W f σ H Q := by
  obtain ⟨F, M, env, mem, Qb, st, en, h, k⟩ := h
  exact ⟨F, M, env, mem, _, st, en, h, fun v H' F' M' d mem' s st' r q => back_ok st s st' r q fun v H'' d mem'' s2 st2 r2 q2 => k v H'' F M d mem'' s2 st2 r2 q2⟩
end
end MP
/-! MPW: from the syntax to closures; the closures tell what the syntax does. -/
namespace MP
open PySem L2

inductive GE where
  | blt
  | cst (p : P)
  | fn (ps : List Str) (kwl : List (List Str × List Nat)) (C : CC)
  | fnG (ps : List Str) (C : CC)
structure CCx where
  N : List Str
  sc : Scope
  blk : Option Scope
  G : List (Str × GE)
  mu : List Str
  ct : List (Nat × List Nat) := []
def permL {α : Type} (ix : List Nat) (l : List α) : List α := ix.filterMap (l[·]?)
/-- how a def's parameters are bound by keywords alone -/
def KwOk (K : PySem.W.Frag) (fd : FuncData) (ps ks : List Str) (ix : List Nat) : Prop := ks.length = ps.length ∧ ∀ (s : Shared) (ws : List Value), K.In s.heap → ws.length = ps.length → BindsTo s fd ⟨[], ks.zip ws⟩ (ps.zip (permL ix ws)) ∧ (permL ix ws).length = ps.length
def GOk (W : Wd) (X : Cx) (x : Str) : GE → Prop
  | .blt => X.mg x = none
  | .cst p => ∃ u v, X.mg x = some u ∧ RelV v u ∧ ∀ F H, RepP W F H p v
  | .fn ps kwl C => ∃ f fd j, X.mg x = some (.ref f) ∧ PySem.W.keepIn X.K (.ref f) = true ∧ Binds X.K fd ps [] ∧ (∀ q ∈ kwl, KwOk X.K fd ps q.1 q.2) ∧
      FnOk X.prog X.w X.K X.mg X.base CX0 j f fd ps (spOf W ps.length C) ∧ Room j X.A ∧ ∀ ds m Q, C ds m Q = true → ds.length = ps.length
  | .fnG ps C => ∃ f fd j, X.mg x = some (.ref f) ∧ PySem.W.keepIn X.K (.ref f) = true ∧ Binds X.K fd ps [] ∧
      FnOk X.prog X.w X.K X.mg X.base CX0 j f fd ps (spOfG W ps.length C) ∧ Room j X.A ∧ ∀ ds m Q, C ds m Q = true → ds.length = ps.length
theorem GOk.fnG_iff {W : Wd} {X : Cx} {x : Str} {ps : List Str} {C : CC} : GOk W X x (.fnG ps C) ↔ ∃ f fd j, X.mg x = some (.ref f) ∧ PySem.W.keepIn X.K (.ref f) = true ∧ Binds X.K fd ps [] ∧
      FnOk X.prog X.w X.K X.mg X.base CX0 j f fd ps (spOfG W ps.length C) ∧ Room j X.A ∧ ∀ ds m Q, C ds m Q = true → ds.length = ps.length := Iff.rfl
structure XOk (W : Wd) (c : CCx) (X : Cx) : Prop where
  nN : X.N = c.N
  nd : X.N.Nodup
  sc : X.env.scope = c.sc
  calm : X.calm = true
  K : W.K = X.K
  xe : X.xe = fun _ _ => False
  room : Room 0 X.A
  fn : match c.blk with
    | none => ∀ x, X.fn x = true
    | some s => ∀ x, X.fn x = (s.names.lookup x == some .cell)
  g : ∀ x ge, c.G.lookup x = some ge → GOk W X x ge

/-! ### names -/
def slotOf : List Str → Str → Option Nat
  | [], _ => none
  | y :: r, x => if y = x then some 0 else match slotOf r x with
    | some i => some (i + 1)
    | none => none
theorem slotOf_get : ∀ {N : List Str} {x : Str} {i : Nat}, slotOf N x = some i → N[i]? = some x
  | [], x, i, h => by cases h
  | y :: r, x, i, h => by
    unfold slotOf at h
    split at h
    · rename_i e
      cases h
      subst e
      rfl
    · split at h
      · rename_i j e
        cases h
        have := slotOf_get e
        simpa using this
      · cases h
def kind (c : CCx) (x : Str) : Option NameKind := c.sc.names.lookup x
def plainN (x : Str) : Bool := !(x == ("__debug__" : Str)) && !(x == ("__classdict__" : Str)) && !(x == ("__name__" : Str))
def visB (c : CCx) (x : Str) : Bool := match kind c x with
  | some .local => true
  | some .cell => true
  | some .free => true
  | _ => false
/-- a name that may be stored -/
def locB (c : CCx) (x : Str) : Bool := match kind c x with
  | some .local => true
  | some .cell => (match c.blk with
    | none => true
    | some s => s.names.lookup x == some .cell)
  | _ => false
def glB (c : CCx) (x : Str) : Bool := match kind c x with
  | some .globalImplicit => plainN x
  | _ => false
section
variable {W : Wd} {c : CCx} {X : Cx} {x : Str}
theorem plainN_1 (h : plainN x = true) : (x == ("__debug__" : Str)) = false := by
  unfold plainN at h
  simp only [Bool.and_eq_true, Bool.not_eq_true'] at h
  exact h.1.1
theorem plainN_2 (h : plainN x = true) : (x == ("__classdict__" : Str)) = false := by
  unfold plainN at h
  simp only [Bool.and_eq_true, Bool.not_eq_true'] at h
  exact h.1.2
theorem plainN_3 (h : plainN x = true) : x ≠ "__name__" := by
  unfold plainN at h
  simp only [Bool.and_eq_true, Bool.not_eq_true'] at h
  exact beq_eq_false_iff_ne.mp h.2
theorem visB_ok (ok : XOk W c X) (h : visB c x = true) : Vis X.env.scope x := by
  unfold visB at h
  unfold Vis
  rw [ok.sc]
  split at h
  · rename_i e; exact .inl e
  · rename_i e; exact .inr (.inl e)
  · rename_i e; exact .inr (.inr e)
  · cases h
theorem locB_ok (ok : XOk W c X) (h : locB c x = true) : Loc X.env.scope x ∧ (X.fn x = true ∨ X.env.scope.names.lookup x = some .local) := by
  unfold locB at h
  unfold L2.Loc
  rw [ok.sc]
  split at h
  · rename_i e; exact ⟨.inl e, .inr e⟩
  · rename_i e
    refine ⟨.inr e, .inl ?_⟩
    have f := ok.fn
    split at h
    · rename_i e2
      rw [e2] at f
      exact f x
    · rename_i s e2
      rw [e2] at f
      rw [f x]
      exact h
  · cases h
theorem glB_ok (ok : XOk W c X) (h : glB c x = true) : Gl X x ∧ plainN x = true := by
  unfold glB at h
  split at h
  · rename_i e
    refine ⟨?_, h⟩
    show X.env.scope.names.lookup x = _
    rw [ok.sc]
    exact e
  · cases h
end
def cName (c : CCx) (x : Str) : Option CE := if visB c x && plainN x then (match slotOf c.N x with
    | some i => some (cVar i)
    | none => none)
  else if glB c x then (match c.G.lookup x with
    | some (.cst p) => some (cP p)
    | _ => none)
  else none
def constP : Const → Option P
  | .none => some .non
  | .bool b => some (.bl b)
  | .int i => some (.int i)
  | .str s => if okStr s.cps.toList then some (.str s.cps.toList) else none
  | _ => none
section
variable {W : Wd} {c : CCx} {X : Cx} {x : Str} {pos : Pos} {f : CE}
theorem snd_name (ok : XOk W c X) (h : cName c x = some f) : PE X (.Name x pos) (RdE W f) := by
  unfold cName at h
  split at h
  · rename_i hb
    rw [Bool.and_eq_true] at hb
    split at h
    · rename_i i e
      cases h
      exact PE.imp (pe_var (i := i) (by rw [ok.nN]; exact slotOf_get e) (visB_ok ok hb.1) (plainN_1 hb.2) (plainN_2 hb.2)) fun σ H Q => rd_var
    · cases h
  · split at h
    · rename_i hg
      obtain ⟨g1, g2⟩ := glB_ok ok hg
      split at h
      · rename_i p e
        cases h
        obtain ⟨u, v, e1, e2, e3⟩ := ok.g _ _ e
        exact PE.imp (pe_glob g1 e1 e2 (plainN_1 g2)) fun σ H Q => rd_P e3
      · cases h
    · cases h
theorem snd_const {k : Const} {j : Nat} {p : P} (h : constP k = some p) : PE X (.Constant k j pos) (RdE W (cP p)) := by
  unfold constP at h
  split at h
  · cases h; exact PE.imp pe_non fun σ H Q => rd_P fun _ _ => rfl
  · cases h; exact PE.imp pe_bl fun σ H Q => rd_P fun _ _ => rfl
  · cases h; exact PE.imp pe_int fun σ H Q => rd_P fun _ _ => rfl
  · rename_i s
    split at h
    · rename_i ho
      cases h
      exact PE.imp pe_str fun σ H Q => rd_P fun _ _ => ⟨by
        show V.str s = V.str ⟨⟨s.cps.toList⟩⟩
        cases s
        rfl, ho⟩
    · cases h
  · cases h
end

/-! ### the pieces, over what is known of smaller ones -/
structure Cmp where
  e : CCx → Bool → Expr → Option CE
  t : CCx → Expr → Option CT
structure Snd (W : Wd) (r : Cmp) : Prop where
  e : ∀ (c : CCx) (X : Cx) (mu : Bool) (ex : Expr) (f : CE), XOk W c X → r.e c mu ex = some f → PE X ex (RdE W f)
  t : ∀ (c : CCx) (X : Cx) (ex : Expr) (f : CT), XOk W c X → r.t c ex = some f → PT X ex (RdT W f)
def isStar : Expr → Bool
  | .Starred _ _ => true
  | _ => false
theorem starEach_no {e : Expr} {es : List Expr} {env : PySem.Env} (h : isStar e = false) : starEach (e :: es) env = (false, eval e env) :: starEach es env := by
  cases e <;> first
    | rfl
    | cases h
def cArgs (r : Cmp) (c : CCx) : List Expr → Option CA
  | [] => some aNil
  | .Starred e _ :: es => match r.e c false e, cArgs r c es with
    | some f, some g => some (aStar f g)
    | _, _ => none
  | e :: es => match r.e c false e, cArgs r c es with
    | some f, some g => some (aCons f g)
    | _, _ => none
/-- the same, a list among them made open to writing -/
def cArgsM (r : Cmp) (c : CCx) : List (Expr × Bool) → Option CA
  | [] => some aNil
  | (e, mu) :: es => if isStar e then none else match r.e c mu e, cArgsM r c es with
    | some f, some g => some (aCons f g)
    | _, _ => none
section
variable {W : Wd} {c : CCx} {X : Cx} {r : Cmp}
theorem snd_args (sr : Snd W r) (ok : XOk W c X) : ∀ {es : List Expr} {f : CA}, cArgs r c es = some f → PA X es (RdA W f)
  | [], f, h => by
    cases h
    exact PA.imp pa_nil fun σ H Q => rd_aNil
  | e :: es, f, h => by
    cases e with
    | Starred e p =>
      unfold cArgs at h
      split at h
      · rename_i f1 g1 e1 e2
        cases h
        exact PA.imp (StX.pa_star (sr.e c X false e f1 ok e1) (snd_args sr ok e2)) fun σ H Q h => by
          rw [← ok.K]
          exact rd_aStar h
      · cases h
    | _ =>
      unfold cArgs at h
      split at h
      · rename_i f1 g1 e1 e2
        cases h
        exact PA.imp (pa_cons (sr.e c X false _ f1 ok e1) (snd_args sr ok e2) (starEach_no rfl)) fun σ H Q => rd_aCons
      · cases h
theorem snd_argsM (sr : Snd W r) (ok : XOk W c X) : ∀ {es : List (Expr × Bool)} {f : CA}, cArgsM r c es = some f → PA X (es.map (·.1)) (RdA W f)
  | [], f, h => by
    cases h
    exact PA.imp pa_nil fun σ H Q => rd_aNil
  | (e, mu) :: es, f, h => by
    unfold cArgsM at h
    split at h
    · cases h
    · rename_i hs
      split at h
      · rename_i f1 g1 e1 e2
        cases h
        exact PA.imp (pa_cons (sr.e c X mu _ f1 ok e1) (snd_argsM sr ok e2) (starEach_no (by simpa using hs))) fun σ H Q => rd_aCons
      · cases h
end

/-! ### operators -/
def binF : Operator → Option (P → P → Option P)
  | .Add => some pAdd
  | .Sub => some pSub
  | .Mult => some pMul
  | .FloorDiv => some pFdiv
  | .Mod => some pMod
  | .Pow => some pPow
  | _ => none
def cmpF : CmpOp → Option (P → P → Option P)
  | .Eq => some (pEq false)
  | .NotEq => some (pEq true)
  | .Lt => some pLt
  | .LtE => some pLe
  | .Gt => some pGt
  | .GtE => some pGe
  | .Is => some (pIsN false)
  | .IsNot => some (pIsN true)
  | .In => some (pIn false)
  | .NotIn => some (pIn true)
def isSetE : Expr → Bool
  | .Set _ _ _ => true
  | _ => false
theorem marks_no {op : CmpOp} {b : Expr} (h : isSetE b = false) : behindInMarks op b = false := by
  cases b <;> first
    | rfl
    | cases h
section
variable {W : Wd} {c : CCx} {X : Cx} {r : Cmp} {a b : Expr} {fa fb : CE} {pos : Pos}
theorem snd_bin {op : Operator} {f : P → P → Option P} {mu : Bool} (ok : XOk W c X) (h : binF op = some f) (ha : PE X a (RdE W fa)) (hb : PE X b (RdE W fb)) : PE X (.BinOp a op b pos) (RdE W (c2 mu f fa fb)) := by
  have hK := ok.K
  cases op <;> first
    | (cases h; done)
    | skip
  · cases h; exact PE.imp (pe_op op_addX ha hb) fun σ H Q h => by rw [← hK]; exact rd_2 ok_add h
  · cases h; exact PE.imp (pe_op op_sub ha hb) fun σ H Q h => rd_2 ok_sub h
  · cases h; exact PE.imp (pe_op op_mulX ha hb) fun σ H Q h => by rw [← hK]; exact rd_2 ok_mul h
  · cases h; exact PE.imp (pe_op op_mod ha hb) fun σ H Q h => rd_2 ok_mod h
  · cases h; exact PE.imp (pe_op op_pow ha hb) fun σ H Q h => rd_2 ok_pow h
  · cases h; exact PE.imp (pe_op op_fdivW ha hb) fun σ H Q h => rd_2 ok_fdiv h
theorem room64 (ok : XOk W c X) : X.A.units + 64 < cLine := ok.room.units
theorem room65 (ok : XOk W c X) : X.A.units + 65 < cLine := by have := ok.room.un; omega
/-- the rule of a comparison, and what it asks -/
theorem cmp_rule {op : CmpOp} {f : P → P → Option P} (ok : XOk W c X) (h : cmpF op = some f) : ∃ rr : R2, OpR X (compareOp op) rr ∧ Ok2 W f rr := by
  have hK := ok.K
  cases op with
  | Eq => cases h; exact ⟨_, op_eqD (room64 ok), by rw [← hK]; exact ok_eq⟩
  | NotEq => cases h; exact ⟨_, op_neD (room64 ok), by rw [← hK]; exact ok_ne⟩
  | Lt => cases h; exact ⟨_, op_lt, ok_lt⟩
  | LtE => cases h; exact ⟨_, op_le, ok_le⟩
  | Gt => cases h; exact ⟨_, op_gt, ok_gt⟩
  | GtE => cases h; exact ⟨_, op_ge, ok_ge⟩
  | Is => cases h; exact ⟨_, op_isN, ok_isN⟩
  | IsNot => cases h; exact ⟨_, op_notN, ok_notN⟩
  | In => cases h; exact ⟨_, op_inX (room65 ok), by rw [← hK]; exact ok_in false⟩
  | NotIn => cases h; exact ⟨_, op_notInX (room65 ok), by rw [← hK]; exact ok_in true⟩
theorem snd_cmp {op : CmpOp} {f : P → P → Option P} (ok : XOk W c X) (h : cmpF op = some f) (hs : isSetE b = false) (ha : PE X a (RdE W fa)) (hb : PE X b (RdE W fb)) : PE X (.Compare a [op] [b] pos) (RdE W (c2 false f fa fb)) := by
  obtain ⟨rr, h1, h2⟩ := cmp_rule ok h
  exact PE.imp (pe_cmpR h1 ha hb (marks_no hs)) fun σ H Q h => rd_2 h2 h
theorem snd_cmpT {op : CmpOp} {f : P → P → Option P} (ok : XOk W c X) (h : cmpF op = some f) (hs : isSetE b = false) (ha : PE X a (RdE W fa)) (hb : PE X b (RdE W fb)) : PT X (.Compare a [op] [b] pos) (RdT W (cTest (c2 false f fa fb))) := by
  obtain ⟨rr, h1, h2⟩ := cmp_rule ok h
  exact PT.imp (pt_cmpR h1 ha hb (marks_no hs)) fun σ H Q h => rd_2 h2 (rd_test h)
end
/-- a op1 b op2 c, ints -/
def cChain (f g : P → P → Option P) (a b d : CE) : CE := fun env m Q => a env m fun x m1 => b env m1 fun y m2 => match look m2 x, look m2 y with
  | some x, some y' => (match f x y' with
    | some (.bl true) => d env m2 fun z m3 => (match look m3 y, look m3 z with
      | some y, some z => (match g y z with
        | some w => out false w m3 Q
        | none => false)
      | _, _ => false)
    | some (.bl false) => Q (.p (.bl false)) m2
    | _ => false)
  | _, _ => false
section
variable {W : Wd} {X : Cx} {fa fb fd : CE} {σ : L2.St} {H : Hp} {Q : VK}
theorem rd_chain {f g : P → P → Option P} {rf rg : R2} (hf : Ok2 W f rf) (hg : Ok2 W g rg) (h : RdE W (cChain f g fa fb fd) σ H Q) : tChain rf rg (RdE W fa) (RdE W fb) (RdE W fd) σ H Q := by
  obtain ⟨F, M, env, mem, Qb, st, en, h, k⟩ := h
  refine RdE.go st en h fun v1 H1 F1 M1 d1 m1 s1 st1 r1 h1 => ?_
  refine RdE.go st1 (en.mono s1) h1 fun v2 H2 F2 M2 d2 m2 s2 st2 r2 h2 => ?_
  split at h2
  · rename_i x y ex ey
    split at h2
    · rename_i ef
      refine hf F2 M2 H2 m2 x y (.bl true) v1 v2 _ st2 (look_rl st2 (RepD.mono s2 _ _ r1) ex) (look_rl st2 r2 ey) ef fun u H3 e3 rz => ?_
      have s3 := Step.same (F := F2) (M := M2) e3
      refine ⟨true, rz, ?_⟩
      rw [if_pos rfl]
      refine RdE.go (st2.same e3) (en.mono ((s1.trans s2).trans s3)) h2 fun v3 H4 F4 M4 d4 m4 s4 st4 r4 h4 => ?_
      split at h4
      · rename_i y' z' ey' ez'
        split at h4
        · rename_i w ew
          exact hg F4 M4 H4 m4 y' z' w v2 v3 Q st4 (look_rl st4 (RepD.mono (s3.trans s4) _ _ r2) ey') (look_rl st4 r4 ez') ew fun u H5 e5 rw' => out_ok st4 e5 rw' h4 fun v H' F' M' d mem' s5 => k v H' F' M' d mem' ((((s1.trans s2).trans s3).trans s4).trans s5)
        · cases h4
      · cases h4
    · rename_i ef
      refine hf F2 M2 H2 m2 x y (.bl false) v1 v2 _ st2 (look_rl st2 (RepD.mono s2 _ _ r1) ex) (look_rl st2 r2 ey) ef fun u H3 e3 rz => ?_
      have s3 := Step.same (F := F2) (M := M2) e3
      refine ⟨false, rz, ?_⟩
      rw [if_neg Bool.false_ne_true]
      exact k _ H3 F2 M2 (.p (.bl false)) m2 ((s1.trans s2).trans s3) (st2.same e3) rfl h2
    · cases h2
  · cases h2
end
end MP
/-! MPX: expressions and tests to closures. -/
namespace MP
open PySem L2
open PySem.Spec PyProof.Rows

/-! ### blocks -/
def cBlk (c : CCx) (scope : Scope) : CCx := { c with sc := relS scope c.sc, blk := some scope }
theorem XOk.blk {W : Wd} {c : CCx} {X : Cx} {scope : Scope} (ok : XOk W c X) (s : Shared) (H : Hp) (C : Addr) (cl : List (Str × Addr)) (fp : List Addr) : XOk W (cBlk c scope) (X.blk s H scope (compEnvC scope cl C X.env) fp) where
  nN := ok.nN
  nd := ok.nd
  sc := by
    show relabel scope X.env = relS scope c.sc
    rw [← ok.sc]
    rfl
  calm := ok.calm
  K := ok.K
  xe := rfl
  room := ok.room
  fn := fun x => rfl
  g := fun x ge h => by
    have := ok.g x ge h
    cases ge <;> exact this
def ownOf (N : List Str) : List (Str × NameKind) → List (Str × Nat)
  | [] => []
  | (x, k) :: r => if k == .local || k == .cell then (match slotOf N x with
    | some i => (x, i) :: ownOf N r
    | none => ownOf N r) else ownOf N r

/-! ### targets by names -/
def nmOf : Expr → Option Str
  | .Name x _ => some x
  | _ => none
theorem nmOf_ok {e : Expr} {x : Str} (h : nmOf e = some x) : ∃ p, e = .Name x p := by
  unfold nmOf at h
  split at h
  · cases h; exact ⟨_, rfl⟩
  · cases h
def tgNames (c : CCx) : List Expr → Option (List Nat)
  | [] => some []
  | e :: es => match nmOf e with
    | some x => if locB c x then (match slotOf c.N x, tgNames c es with
      | some i, some is => some (i :: is)
      | _, _ => none) else none
    | none => none
def tgOf (c : CCx) : Expr → Option Tg
  | .Name x _ => if locB c x then (match slotOf c.N x with
    | some i => some (.n i)
    | none => none) else none
  | .Tuple es _ _ => (match tgNames c es with
    | some is => some (.t is)
    | none => none)
  | _ => none
section
variable {W : Wd} {c : CCx} {X : Cx} {r : Cmp}
theorem pg_nm (ok : XOk W c X) {x : Str} {i : Nat} {pos : Pos} (h : locB c x = true) (e : slotOf c.N x = some i) : PG X (.Name x pos) (gName i) := by
  obtain ⟨h1, h2⟩ := locB_ok ok h
  exact pg_name ok.nd (by rw [ok.nN]; exact slotOf_get e) h1 h2
theorem tgNames_ok (ok : XOk W c X) : ∀ {es : List Expr} {is : List Nat}, tgNames c es = some is → PGs X es (gNames is) ∧ (assignEach es X.env).length = is.length ∧ (assignEach es X.env).findIdx? (·.1) = none
  | [], is, h => by
    cases h
    exact ⟨pgs_nil, rfl, rfl⟩
  | e :: es, is, h => by
    unfold tgNames at h
    split at h
    · rename_i x e1
      obtain ⟨p, rfl⟩ := nmOf_ok e1
      split at h
      · rename_i hl
        split at h
        · rename_i i is' e2 e3
          cases h
          obtain ⟨q1, q2, q3⟩ := tgNames_ok ok e3
          refine ⟨pgs_cons (pg_nm ok hl e2) q1, congrArg (· + 1) q2, ?_⟩
          show List.findIdx? (·.1) ((false, assign (.Name x p) X.env) :: assignEach es X.env) = none
          rw [List.findIdx?_cons]
          simp [q3]
        · cases h
      · cases h
    · cases h
theorem tgOf_ok (ok : XOk W c X) {e : Expr} {g : Tg} (h : tgOf c e = some g) : PG X e (g.rd W.K) := by
  unfold tgOf at h
  split at h
  · split at h
    · rename_i hl
      split at h
      · rename_i i e2
        cases h
        exact pg_nm ok hl e2
      · cases h
    · cases h
  · split at h
    · rename_i is e2
      cases h
      obtain ⟨q1, q2, q3⟩ := tgNames_ok ok e2
      rw [ok.K]
      exact pg_tup ok.calm q1 q2 q3
    · cases h
  · cases h
end

/-! ### walked things -/
def bltB (c : CCx) (x : Str) : Bool := glB c x && (match c.G.lookup x with
  | some .blt => true
  | _ => false)
theorem bltB_ok {W : Wd} {c : CCx} {X : Cx} {x : Str} (ok : XOk W c X) (h : bltB c x = true) : Gl X x ∧ X.mg x = none ∧ x ≠ "__name__" ∧ (x == ("__debug__" : Str)) = false := by
  unfold bltB at h
  rw [Bool.and_eq_true] at h
  obtain ⟨h1, h2⟩ := h
  obtain ⟨g1, g2⟩ := glB_ok ok h1
  split at h2
  · rename_i e
    exact ⟨g1, ok.g _ _ e, plainN_3 g2, plainN_1 g2⟩
  · cases h2
def isTup2 : Expr → Bool
  | .Tuple _ _ _ => true
  | _ => false
theorem isTup2_ok {e : Expr} (h : isTup2 e = true) : ∃ es k p, e = .Tuple es k p := by
  unfold isTup2 at h
  split at h
  · exact ⟨_, _, _, rfl⟩
  · cases h
def iE (r : Cmp) (c : CCx) (tg : Expr) : Expr → Option CI
  | .Call (.Name x p) [a] [] pos => if x = "enumerate" then (if bltB c x && !isStar a && isTup2 tg then (match r.e c false a with
      | some f => some (iEn f)
      | none => none) else none)
    else if x = "range" then (if bltB c x && !isStar a then (match r.e c false a with
      | some f => some (iR1 f)
      | none => none) else none)
    else (match r.e c false (.Call (.Name x p) [a] [] pos) with
      | some f => some (iV f)
      | none => none)
  | .Call (.Name x p) [a, b] [] pos => if x = "range" then (if bltB c x && !isStar a && !isStar b then (match r.e c false a, r.e c false b with
      | some f, some g => some (iR2 f g)
      | _, _ => none) else none)
    else (match r.e c false (.Call (.Name x p) [a, b] [] pos) with
      | some f => some (iV f)
      | none => none)
  | e => match r.e c false e with
      | some f => some (iV f)
      | none => none
theorem starEach1 {a : Expr} {env : PySem.Env} (h : isStar a = false) : starEach [a] env = [(false, eval a env)] := starEach_no h
theorem folded_no {e : Expr} {env : PySem.Env} (h : isSetE e = false) (x : Value) : foldedSetIterable e env x = pure x := by
  cases e <;> first
    | rfl
    | cases h
section
variable {W : Wd} {c : CCx} {X : Cx} {r : Cmp}
theorem snd_iV (sr : Snd W r) (ok : XOk W c X) {e tg : Expr} {f : CE} (h : r.e c false e = some f) : PI X tg e (RdI W (iV f)) := by
  have := pi_seqX (tg := tg) (sr.e c X false e f ok h)
  rw [← ok.K] at this
  exact PI.imp this fun σ H R => rd_iV
theorem snd_iE (sr : Snd W r) (ok : XOk W c X) {e tg : Expr} {f : CI} (h : iE r c tg e = some f) : PI X tg e (RdI W f) := by
  unfold iE at h
  split at h
  · split at h
    · rename_i hx
      subst hx
      split at h
      · rename_i hb
        rw [Bool.and_eq_true, Bool.and_eq_true] at hb
        obtain ⟨g1, g2, g3, g4⟩ := bltB_ok ok hb.1.1
        have ns := hb.1.2
        rw [Bool.not_eq_true'] at ns
        obtain ⟨es, kk, tp, rfl⟩ := isTup2_ok hb.2
        split at h
        · rename_i f1 e1
          cases h
          exact PI.imp (pi_enumT g1 g2 (pa_cons (sr.e c X false _ f1 ok e1) pa_nil (starEach_no ns)) (starEach1 ns)) fun σ H R q => by rw [← ok.K]; exact rd_iEn q
        · cases h
      · cases h
    split at h
    · rename_i hx
      subst hx
      split at h
      · rename_i hb
        rw [Bool.and_eq_true] at hb
        obtain ⟨g1, g2, g3, g4⟩ := bltB_ok ok hb.1
        have ns := hb.2
        rw [Bool.not_eq_true'] at ns
        split at h
        · rename_i f1 e1
          cases h
          exact PI.imp (pi_range1 g1 g2 (pa_cons (sr.e c X false _ f1 ok e1) pa_nil (starEach_no ns)) (starEach1 ns)) fun σ H R => rd_iR1
        · cases h
      · cases h
    · split at h
      · rename_i f1 e1
        cases h
        exact snd_iV sr ok e1
      · cases h
  · split at h
    · rename_i hx
      subst hx
      split at h
      · rename_i hb
        rw [Bool.and_eq_true, Bool.and_eq_true] at hb
        obtain ⟨g1, g2, g3, g4⟩ := bltB_ok ok hb.1.1
        have ns := hb.1.2
        have ns2 := hb.2
        rw [Bool.not_eq_true'] at ns ns2
        split at h
        · rename_i f1 f2 e1 e2
          cases h
          exact PI.imp (pi_range2 g1 g2 (pa_cons (sr.e c X false _ f1 ok e1) (pa_cons (sr.e c X false _ f2 ok e2) pa_nil (starEach_no ns2)) (starEach_no ns)) ((starEach_no ns).trans (by rw [starEach1 ns2])) (starEach1 ns2)) fun σ H R => rd_iR2
        · cases h
      · cases h
    · split at h
      · rename_i f1 e1
        cases h
        exact snd_iV sr ok e1
      · cases h
  · split at h
    · rename_i f1 e1
      cases h
      exact snd_iV sr ok e1
    · cases h
end

/-! ### comprehensions -/
def cIfs (r : Cmp) (c : CCx) : List Expr → Option CT
  | [] => some kYes
  | [e] => r.t c e
  | _ => none
def subN (xs ys : List Nat) : Bool := xs.all fun i => ys.contains i
theorem subN_ok {xs ys : List Nat} (h : subN xs ys = true) : ∀ i ∈ xs, i ∈ ys := fun i hi => by
  have := List.all_eq_true.mp h i hi
  simpa using this
/-- a law's lap: its bowl is forgotten behind it -/
def lapE : Expr → Bool
  | .Call (.Name x _) _ _ _ => decide (x = "_law_right")
  | _ => false
def trE (e : Expr) (f : CE) : CE := if lapE e then cTrunc f else f
theorem rd_trE {W : Wd} {e : Expr} {f : CE} {σ : L2.St} {H : Hp} {Q : VK} (h : RdE W (trE e f) σ H Q) : RdE W f σ H Q := by
  unfold trE at h
  split at h
  · exact rd_trunc h
  · exact h
def cLcE (r : Cmp) (c : CCx) (mu : Bool) (elt : Expr) (scope : Scope) : List Comprehension → Option CE
  | [⟨tg, iter, ifs, 0⟩] =>
    if blkC c.N c.sc scope (ownOf c.N scope.names) && !isSetE iter then
      (match iE r c tg iter, tgOf (cBlk c scope) tg, cIfs r (cBlk c scope) ifs, r.e (cBlk c scope) false elt with
      | some fi, some g, some t, some f => if subN g.ix ((ownOf c.N scope.names).map (·.2)) then some (cLc mu ((ownOf c.N scope.names).map (·.2)) fi g t (trE elt f)) else none
      | _, _, _, _ => none)
    else none
  | [⟨tg, iter, ifs, 0⟩, ⟨tg1, iter1, ifs1, 0⟩] =>
    if blkC c.N c.sc scope (ownOf c.N scope.names) && !isSetE iter && !isSetE iter1 then
      (match iE r c tg iter, tgOf (cBlk c scope) tg, cIfs r (cBlk c scope) ifs, r.e (cBlk c scope) false elt with
      | some fi, some g, some t, some f => (match iE r (cBlk c scope) tg1 iter1, tgOf (cBlk c scope) tg1, cIfs r (cBlk c scope) ifs1 with
        | some fi1, some g1, some t1 => if subN g.ix ((ownOf c.N scope.names).map (·.2)) && subN g1.ix ((ownOf c.N scope.names).map (·.2)) then
            some (cLc2 mu ((ownOf c.N scope.names).map (·.2)) g1.ix fi g t fi1 g1 t1 f) else none
        | _, _, _ => none)
      | _, _, _, _ => none)
    else none
  | _ => none
section
variable {W : Wd} {c : CCx} {X : Cx} {r : Cmp}
theorem cIfs_ok (sr : Snd W r) (ok : XOk W c X) {es : List Expr} {t : CT} (h : cIfs r c es = some t) : PTs X es (RdT W t) := by
  unfold cIfs at h
  split at h
  · cases h
    exact ⟨fun pins s σ H Q I q => pts_nil.run pins s σ H Q I (rd_yes q)⟩
  · exact pts_one (sr.t c X _ t ok h)
  · cases h
theorem PTs.imp {es : List Expr} {t t' : TT} (h : PTs X es t) (w : ∀ σ H Q, t' σ H Q → t σ H Q) : PTs X es t' := ⟨fun pins s σ H Q I q => h.run pins s σ H Q I (w σ H Q q)⟩
/-- what a comprehension asks of the state around: as a value, and stored in a name -/
theorem snd_lcE (sr : Snd W r) (ok : XOk W c X) {mu : Bool} {elt : Expr} {scope : Scope} {gens : List Comprehension} {pos : Pos} {f : CE} (h : cLcE r c mu elt scope gens = some f) :
    PE X (.ListComp elt gens scope pos) (RdE W f) ∧ ∀ (y : Str) (i : Nat) (py spos : Pos), X.N[i]? = some y → X.env.scope.names.lookup y = some .local →
      swapsWith (.ListComp elt gens scope pos) (some (.Name y py)) spos.line X.env = pure true → PS X (.Assign [.Name y py] (.ListComp elt gens scope pos) spos) (RdS W (sAsgG (gNm i) f)) := by
  unfold cLcE at h
  split at h
  · rename_i tg iter ifs
    split at h
    · rename_i hb
      rw [Bool.and_eq_true] at hb
      have hk := blkOk_by hb.1
      rw [← ok.nN, ← ok.sc] at hk
      have hs : ∀ x, foldedSetIterable iter X.env x = pure x := folded_no (by simpa using hb.2)
      split at h
      · rename_i fi g t fe e1 e2 e3 e4
        split at h
        · rename_i hsub
          cases h
          have hi := snd_iE sr ok (tg := tg) e1
          have hg := fun s H C cl fp => tgOf_ok (ok.blk (scope := scope) s H C cl fp) e2
          have ht := fun s H C cl fp => cIfs_ok sr (ok.blk (scope := scope) s H C cl fp) e3
          have he := fun s H C cl fp => PE.imp (t' := RdE W (trE elt fe)) (sr.e _ _ false _ fe (ok.blk (scope := scope) s H C cl fp) e4) fun σ H Q => rd_trE
          rw [← ok.nN] at hsub ⊢
          refine ⟨PE.imp (pe_lc ok.calm ok.nd hi hk hg ht he hs) fun σ H Q => rd_lc (subN_ok hsub), fun y i py spos h1 h2 h3 => ?_⟩
          refine ⟨fun pins s σ H D I q => (ps_setLc ok.calm ok.nd h1 h2 h3 hi hk hg ht he hs).run pins s σ H D I ?_⟩
          have q2 := rd_asgG q
          exact rd_lc (subN_ok hsub) (by
            obtain ⟨F, M, env, mem, Qb, st, en, h, k⟩ := q2
            exact ⟨F, M, env, mem, Qb, st, en, h, fun v H' F' M' d mem' s r q r' => rd_gNm (k v H' F' M' d mem' s r q r')⟩)
        · cases h
      · cases h
    · cases h
  · rename_i tg iter ifs tg1 iter1 ifs1
    split at h
    · rename_i hb
      rw [Bool.and_eq_true, Bool.and_eq_true] at hb
      have hk := blkOk_by hb.1.1
      rw [← ok.nN, ← ok.sc] at hk
      have hs : ∀ x, foldedSetIterable iter X.env x = pure x := folded_no (by simpa using hb.1.2)
      have hs1 : ∀ env x, foldedSetIterable iter1 env x = pure x := fun env => folded_no (by simpa using hb.2)
      split at h
      · rename_i fi g t fe e1 e2 e3 e4
        split at h
        · rename_i fi1 g1 t1 e5 e6 e7
          split at h
          · rename_i hsub
            cases h
            rw [Bool.and_eq_true] at hsub
            have hi := snd_iE sr ok (tg := tg) e1
            have hg := fun s H C cl fp => tgOf_ok (ok.blk (scope := scope) s H C cl fp) e2
            have ht := fun s H C cl fp => cIfs_ok sr (ok.blk (scope := scope) s H C cl fp) e3
            have he := fun s H C cl fp => sr.e _ _ false _ fe (ok.blk (scope := scope) s H C cl fp) e4
            have hi1 := fun s H C cl fp => snd_iE sr (ok.blk (scope := scope) s H C cl fp) (tg := tg1) e5
            have hg1 := fun s H C cl fp => tgOf_ok (ok.blk (scope := scope) s H C cl fp) e6
            have ht1 := fun s H C cl fp => cIfs_ok sr (ok.blk (scope := scope) s H C cl fp) e7
            rw [← ok.nN] at hsub ⊢
            refine ⟨PE.imp (pe_lc2 ok.calm ok.nd hi hk (subN_ok hsub.2) hg ht hi1 hg1 ht1 he hs hs1) fun σ H Q => rd_lc2 (subN_ok hsub.1) (fun i hi => hi), fun y i py spos h1 h2 h3 => ?_⟩
            refine ⟨fun pins s σ H D I q => (ps_setLc2 ok.calm ok.nd h1 h2 h3 hi hk (subN_ok hsub.2) hg ht hi1 hg1 ht1 he hs hs1).run pins s σ H D I ?_⟩
            have q2 := rd_asgG q
            exact rd_lc2 (subN_ok hsub.1) (fun i hi => hi) (by
              obtain ⟨F, M, env, mem, Qb, st, en, h, k⟩ := q2
              exact ⟨F, M, env, mem, Qb, st, en, h, fun v H' F' M' d mem' s r q r' => rd_gNm (k v H' F' M' d mem' s r q r')⟩)
          · cases h
        · cases h
      · cases h
    · cases h
  · cases h
end
end MP
/-! MPY: calls; the whole of the expressions. -/
namespace MP
open PySem L2
open PySem.Spec PyProof.Rows

/-! ### calls by keywords alone -/
def cPerm (n : Nat) (ix : List Nat) (fa : CA) : CA := fun env m Q => fa env m fun ds m1 => if ds.length = n then Q (permL ix ds) m1 else false
theorem Vals.perm {vs : List V} {us : List Value} (r : Vals vs us) : ∀ ix : List Nat, Vals (permL ix vs) (permL ix us)
  | [] => .nil
  | i :: ix => by
    unfold permL
    cases e : vs[i]? with
    | none =>
      have e2 := Vals.none_of r e
      rw [List.filterMap_cons, List.filterMap_cons, e, e2]
      exact Vals.perm r ix
    | some x =>
      obtain ⟨u, e2, q⟩ := Vals.get r e
      rw [List.filterMap_cons, List.filterMap_cons, e, e2]
      exact .cons q (Vals.perm r ix)
section
variable {W : Wd} {F : Addr → Prop} {M : List Addr} {H : Hp}
theorem RepDs.at_ : ∀ {ds : List D} {vs : List V} {i : Nat} {d : D}, RepDs W F M H ds vs → ds[i]? = some d → ∃ v, vs[i]? = some v ∧ RepD W F M H d v
  | [], _, i, d, _, e => by cases i <;> cases e
  | d0 :: ds, vs, 0, d, r, e => by
    obtain ⟨v, r', rfl, q, _⟩ := r
    cases e
    exact ⟨v, rfl, q⟩
  | d0 :: ds, vs, i + 1, d, r, e => by
    obtain ⟨v, r', rfl, _, q⟩ := r
    exact RepDs.at_ (ds := ds) (vs := r') (i := i) q e
theorem RepDs.perm {ds : List D} {vs : List V} (r : RepDs W F M H ds vs) : ∀ ix : List Nat, RepDs W F M H (permL ix ds) (permL ix vs)
  | [] => rfl
  | i :: ix => by
    unfold permL
    cases e : ds[i]? with
    | none =>
      have e2 : vs[i]? = none := by
        have := RepDs.length r
        rw [List.getElem?_eq_none_iff] at e ⊢
        omega
      rw [List.filterMap_cons, List.filterMap_cons, e, e2]
      exact RepDs.perm r ix
    | some x =>
      obtain ⟨u, e2, q⟩ := RepDs.at_ r e
      rw [List.filterMap_cons, List.filterMap_cons, e, e2]
      exact ⟨_, _, rfl, q, RepDs.perm r ix⟩
end
def tCallP (sp : Sp) (n : Nat) (ix : List Nat) (t : TA) : TE := fun σ H Q => t σ H fun zs H1 => zs.length = n ∧ sp (permL ix zs) H1 Q E0
theorem rd_callP {W : Wd} {σ : L2.St} {H : Hp} {Q : VK} {C : CC} {a : CA} {n : Nat} {ix : List Nat} (hn : ∀ ds m Qb, C ds m Qb = true → ds.length = n) (h : RdE W (cCall C (cPerm n ix a)) σ H Q) : tCallP (spOf W n C) n ix (RdA W a) σ H Q := by
  obtain ⟨F, M, env, mem, Qb, st, en, h, k⟩ := h
  refine RdA.go st en h fun vs H1 F1 M1 ds m1 s1 st1 r1 h1 => ?_
  split at h1
  · rename_i hl
    have e := RepDs.length r1
    have rp := RepDs.perm r1 ix
    refine ⟨by omega, ?_, F1, M1, _, m1, Qb, st1, rp, h1, fun v H' d mem' s2 => k v H' F1 M1 d mem' (s1.trans s2)⟩
    rw [← RepDs.length rp]
    exact hn _ _ _ h1
  · cases h1
def isCallE : Expr → Bool
  | .Call _ _ _ _ => true
  | _ => false
theorem attr_plain {o : Expr} {a : Str} {env : PySem.Env} {w : Sem Value} (h : isCallE o = false) : attributeBase o a env w = w := by
  cases o <;> first
    | rfl
    | cases h
theorem noStar_any {pos : Pos} {env : PySem.Env} : ∀ {es : List Expr}, es.all (fun e => !isStar e) = true → (backTo pos (starEach es env)).any (·.1) = false
  | [], _ => rfl
  | e :: es, h => by
    rw [List.all_cons, Bool.and_eq_true] at h
    rw [starEach_no (by simpa using h.1)]
    show (false || (backTo pos (starEach es env)).any (·.1)) = false
    rw [noStar_any h.2]
    rfl
theorem noStar_all {pos : Pos} {env : PySem.Env} : ∀ {es : List Expr}, es.all (fun e => !isStar e) = true → (backTo pos (starEach es env)).all (fun x => !x.1) = true
  | [], _ => rfl
  | e :: es, h => by
    rw [List.all_cons, Bool.and_eq_true] at h
    rw [starEach_no (by simpa using h.1)]
    show (true && (backTo pos (starEach es env)).all (fun x => !x.1)) = true
    rw [noStar_all h.2]
    rfl
def cKw (r : Cmp) (c : CCx) : List Keyword → Option CA
  | [] => some aNil
  | ⟨some _, e, _⟩ :: ks => (match r.e c false e, cKw r c ks with
    | some f, some g => some (aCons f g)
    | _, _ => none)
  | ⟨none, _, _⟩ :: _ => none
def kwNames : List Keyword → List Str
  | [] => []
  | ⟨some x, _, _⟩ :: ks => x :: kwNames ks
  | ⟨none, _, _⟩ :: ks => kwNames ks
theorem PK.imp {X : Cx} {kws : List Keyword} {t t' : TA} (h : PK X kws t) (w : ∀ σ H Q, t' σ H Q → t σ H Q) : PK X kws t' := ⟨fun pos pins s σ H Q I q => h.run pos pins s σ H Q I (w σ H Q q)⟩
section
variable {W : Wd} {c : CCx} {X : Cx} {r : Cmp}
theorem snd_kw (sr : Snd W r) (ok : XOk W c X) : ∀ {ks : List Keyword} {f : CA}, cKw r c ks = some f → PK X ks (RdA W f) ∧ (∀ pos, (backToKw pos (keywordEach ks X.env)).all (·.1.isSome) = true) ∧ (∀ pos, (backToKw pos (keywordEach ks X.env)).filterMap (·.1) = kwNames ks) ∧
    ∀ pos, (backToKw pos (keywordEach ks X.env)).any (·.1.isNone) = false
  | [], f, h => by
    cases h
    exact ⟨PK.imp pk_nil fun σ H Q => rd_aNil, fun _ => rfl, fun _ => rfl, fun _ => rfl⟩
  | ⟨some x, e, p⟩ :: ks, f, h => by
    unfold cKw at h
    split at h
    · rename_i f1 g1 e1 e2
      cases h
      obtain ⟨q1, q2, q3, q4⟩ := snd_kw sr ok e2
      exact ⟨PK.imp (pk_cons (sr.e c X false e f1 ok e1) q1) fun σ H Q => rd_aCons, fun pos => q2 pos, fun pos => congrArg (x :: ·) (q3 pos), fun pos => q4 pos⟩
    · cases h
  | ⟨none, e, p⟩ :: ks, f, h => by cases h
theorem pe_callP {f : Addr} {fd : FuncData} {ps ks : List Str} {ix : List Nat} {sp : Sp} {k : Nat} {x : Str} {p pos : Pos} {kws : List Keyword} {tk : TA} (F : FnOk X.prog X.w X.K X.mg X.base CX0 k f fd ps sp) (hr : Room k X.A) (hg : Gl X x) (hm : X.mg x = some (.ref f))
    (hk : PySem.W.keepIn X.K (.ref f) = true) (hb : KwOk X.K fd ps ks ix) (hkw : PK X kws tk) (hall : (backToKw pos (keywordEach kws X.env)).all (·.1.isSome) = true) (hks : (backToKw pos (keywordEach kws X.env)).filterMap (·.1) = ks)
    (hno : (backToKw pos (keywordEach kws X.env)).any (·.1.isNone) = false) (hdb : (x == ("__debug__" : Str)) = false) : PE X (.Call (.Name x p) [] kws pos) (tCallP sp ps.length ix tk) := by
  refine ⟨fun pins s σ H Q I h => ?_⟩
  refine wpAny_Call_Name_kw (ld_glob I hg hm ?_ hdb)
  refine PySem.W.callWith_KW0 (h₀ := X.base) I.ok.mod.kin hk hall ?_ (by rw [hno]; rfl)
  refine thn (hkw.run pos pins s σ H _ I h) fun ws s2 ⟨zs, H2, I2, rz, l2, q2⟩ => ⟨I2.kIn, ?_⟩
  rw [hks]
  have lw : ws.length = ps.length := by rw [← rz.length]; exact l2
  obtain ⟨b1, b2⟩ := hb.2 s2 ws I2.kIn lw
  refine wpAny_call (codeAny_mono (F.run X.A X.stack s2 H2 ⟨[], ks.zip ws⟩ (permL ix ws) (permL ix zs) Q E0 hr I2.env0 b1 (Vals.perm rz ix) q2) fun r s' hq => ?_)
  cases r with
  | error e => exact hq.elim
  | ok fl =>
    cases fl with
    | ret u => exact I2.after hq
    | next => exact False.elim hq
    | brk => exact False.elim hq
    | cont => exact False.elim hq
end

/-! ### built-ins -/
def blt1 (x : Str) : Option (P → Option P) :=
  if x = "len" then some pLen else if x = "tuple" then some pTup else if x = "int" then some pInt else if x = "abs" then some pAbs else if x = "all" then some pAll
  else if x = "sum" then some pSumX else if x = "sorted" then some pSrt else if x = "max" then some pMaxL else if x = "list" then some pLsq else none
def tyOf (x : Str) : Option String :=
  if x = "int" then some "int" else if x = "bool" then some "bool" else if x = "str" then some "str" else if x = "tuple" then some "tuple" else if x = "list" then some "list"
  else if x = "dict" then some "dict" else none
theorem tyOf_ok {x : Str} {t : String} (h : tyOf x = some t) : bootBuiltins x = some (.type t) := by
  unfold tyOf at h
  split at h
  · rename_i e; subst e; cases h; decide +kernel
  split at h
  · rename_i e; subst e; cases h; decide +kernel
  split at h
  · rename_i e; subst e; cases h; decide +kernel
  split at h
  · rename_i e; subst e; cases h; decide +kernel
  split at h
  · rename_i e; subst e; cases h; decide +kernel
  split at h
  · rename_i e; subst e; cases h; decide +kernel
  cases h
section
variable {W : Wd} {c : CCx} {X : Cx} {r : Cmp} {x : Str} {p pos : Pos} {a b : Expr} {fa fb : CE} {mu : Bool}
theorem snd_blt1 {f : P → Option P} (ok : XOk W c X) (hb : bltB c x = true) (h : blt1 x = some f) (ha : PE X a (RdE W fa)) (ns : isStar a = false) : PE X (.Call (.Name x p) [a] [] pos) (RdE W (c1 mu f fa)) := by
  obtain ⟨g1, g2, g3, g4⟩ := bltB_ok ok hb
  have pa : PA X [a] (tCons (RdE W fa) tNil) := pa_cons ha pa_nil (starEach_no ns)
  have hK := ok.K
  unfold blt1 at h
  split at h
  · rename_i e; subst e; cases h
    exact PE.imp (pe_callB call_len g1 g2 (by decide +kernel) pa g3 g4 (starEach_no ns) rfl) fun σ H Q h => by
      have := rd_1C ok_len h
      rw [hK] at this
      exact this
  split at h
  · rename_i e; subst e; cases h
    exact PE.imp (pe_callTy call_tupF g1 g2 (by decide +kernel) pa g3 g4 (starEach_no ns) rfl) fun σ H Q h => by
      have := rd_1C ok_tup h
      rw [hK] at this
      exact this
  split at h
  · rename_i e; subst e; cases h
    exact PE.imp (pe_callTy call_int1 g1 g2 (by decide +kernel) pa g3 g4 (starEach_no ns) rfl) fun σ H Q h => rd_1C ok_int h
  split at h
  · rename_i e; subst e; cases h
    exact PE.imp (pe_callB call_abs g1 g2 (by decide +kernel) pa g3 g4 (starEach_no ns) rfl) fun σ H Q h => rd_1C ok_abs h
  split at h
  · rename_i e; subst e; cases h
    exact PE.imp (pe_callB (cr_all ok.calm) g1 g2 (by decide +kernel) pa g3 g4 (starEach_no ns) rfl) fun σ H Q h => by
      have := rd_1C ok_all h
      rw [hK] at this
      exact this
  split at h
  · rename_i e; subst e; cases h
    exact PE.imp (pe_callB ((cr_sum ok.calm).or (cr_sumT ok.calm)) g1 g2 (by decide +kernel) pa g3 g4 (starEach_no ns) rfl) fun σ H Q h => by
      have := rd_1C ok_sumX h
      rw [hK] at this
      exact this
  split at h
  · rename_i e; subst e; cases h
    exact PE.imp (pe_callB cr_sorted g1 g2 (by decide +kernel) pa g3 g4 (starEach_no ns) rfl) fun σ H Q h => by
      have := rd_1C ok_srt h
      rw [hK] at this
      exact this
  split at h
  · rename_i e; subst e; cases h
    exact PE.imp (pe_callB (cr_max ok.calm) g1 g2 (by decide +kernel) pa g3 g4 (starEach_no ns) rfl) fun σ H Q h => by
      have := rd_1C ok_maxL h
      rw [hK] at this
      exact this
  split at h
  · rename_i e; subst e; cases h
    exact PE.imp (pe_callTy call_list_of g1 g2 (by decide +kernel) pa g3 g4 (starEach_no ns) rfl) fun σ H Q h => by
      have := rd_1C ok_lsq h
      rw [hK] at this
      exact this
  cases h
theorem snd_isi {y : Str} {py : Pos} {t : String} (ok : XOk W c X) (hb : bltB c "isinstance" = true) (hy : bltB c y = true) (ht : tyOf y = some t) (ha : PE X a (RdE W fa)) (ns : isStar a = false) :
    PE X (.Call (.Name "isinstance" p) [a, .Name y py] [] pos) (RdE W (c1 mu (pIsi t) fa)) := by
  obtain ⟨g1, g2, g3, g4⟩ := bltB_ok ok hb
  obtain ⟨y1, y2, y3, y4⟩ := bltB_ok ok hy
  have hK := ok.K
  have pa : PA X [a, .Name y py] (tCons (RdE W fa) (tCons (tC (.ty t)) tNil)) := pa_cons ha (pa_cons (pe_bltn y1 y2 (tyOf_ok ht) rfl y3 y4) pa_nil (starEach_no rfl)) (starEach_no ns)
  exact PE.imp (pe_callB call_isi g1 g2 (by decide +kernel) pa g3 g4 (starEach_no ns) rfl) fun σ H Q h => by
    have := rd_1 ok_isi h
    rw [hK] at this
    exact this
def cB2 (x : Str) (mu : Bool) (fa fb : CE) : Option CE := if x = "divmod" then some (cDivm fa fb) else if x = "min" then some (c2 mu pMin2 fa fb) else if x = "max" then some (c2 mu pMax2 fa fb) else none
theorem snd_b2 {f : CE} (ok : XOk W c X) (hb : bltB c x = true) (h : cB2 x mu fa fb = some f) (ha : PE X a (RdE W fa)) (hb2 : PE X b (RdE W fb)) (ns : isStar a = false) (ns2 : isStar b = false) : PE X (.Call (.Name x p) [a, b] [] pos) (RdE W f) := by
  obtain ⟨g1, g2, g3, g4⟩ := bltB_ok ok hb
  have pa : PA X [a, b] (tCons (RdE W fa) (tCons (RdE W fb) tNil)) := pa_cons ha (pa_cons hb2 pa_nil (starEach_no ns2)) (starEach_no ns)
  have ns3 : (backTo pos (starEach [b] X.env)).any (·.1) = false := noStar_any (by rw [List.all_cons, ns2]; rfl)
  unfold cB2 at h
  split at h
  · rename_i e; subst e; cases h
    exact PE.imp (pe_callB call_divmod g1 g2 (by decide +kernel) pa g3 g4 (starEach_no ns) ns3) fun σ H Q h => rd_divm h
  split at h
  · rename_i e; subst e; cases h
    exact PE.imp (pe_callB (call_min2 ok.calm) g1 g2 (by decide +kernel) pa g3 g4 (starEach_no ns) ns3) fun σ H Q h => rd_2C ok_min2 h
  split at h
  · rename_i e; subst e; cases h
    exact PE.imp (pe_callB (call_max2 ok.calm) g1 g2 (by decide +kernel) pa g3 g4 (starEach_no ns) ns3) fun σ H Q h => rd_2C ok_max2 h
  cases h
theorem snd_lrg {pr posr : Pos} (ok : XOk W c X) (hb : bltB c "list" = true) (hr : bltB c "range" = true) (ha : PE X a (RdE W fa)) (ns : isStar a = false) : PE X (.Call (.Name "list" p) [.Call (.Name "range" pr) [a] [] posr] [] pos) (RdE W (cLrg1 mu fa)) := by
  obtain ⟨g1, g2, g3, g4⟩ := bltB_ok ok hb
  obtain ⟨y1, y2, y3, y4⟩ := bltB_ok ok hr
  exact PE.imp (pe_listRg ok.calm g1 g2 (prg_1 y1 y2 ha (starEach_no ns)) (starEach_no rfl)) fun σ H Q => rd_lrg1
theorem snd_app {apos cpos : Pos} (ok : XOk W c X) (hl : (apos.endLine == cpos.line) = true) (hc : isCallE a = false) (ha : PE X a (RdE W fa)) (hb : PE X b (RdE W fb)) (ns : isStar b = false) :
    PE X (.Call (.Attribute a "append" apos) [b] [] cpos) (RdE W (cApp fa fb)) := by
  refine PE.imp (pe_bm PySem.F.plainAttrs_list PySem.F.slot_list_append PySem.F.type_list_append mt_append ha (pa_cons hb pa_nil (starEach_no ns)) (attr_plain hc) ?_ hl (starEach_no ns) rfl) fun σ H Q q => by rw [← ok.K]; exact rd_app q
  rw [noStar_all (by rw [List.all_cons, ns]; rfl)]
  rfl
theorem snd_popAt {apos cpos : Pos} (ok : XOk W c X) (hl : (apos.endLine == cpos.line) = true) (hc : isCallE a = false) (ha : PE X a (RdE W fa)) (hb : PE X b (RdE W fb)) (ns : isStar b = false) :
    PE X (.Call (.Attribute a "pop" apos) [b] [] cpos) (RdE W (cPopAt fa fb)) := by
  refine PE.imp (pe_bm PySem.F.plainAttrs_list PySem.F.slot_list_pop PySem.F.type_list_pop mt_popAt ha (pa_cons hb pa_nil (starEach_no ns)) (attr_plain hc) ?_ hl (starEach_no ns) rfl) fun σ H Q q => by rw [← ok.K]; exact rd_popAt q
  rw [noStar_all (by rw [List.all_cons, ns]; rfl)]
  rfl
theorem snd_count {apos cpos : Pos} (ok : XOk W c X) (hl : (apos.endLine == cpos.line) = true) (hc : isCallE a = false) (ha : PE X a (RdE W fa)) (hb : PE X b (RdE W fb)) (ns : isStar b = false) :
    PE X (.Call (.Attribute a "count" apos) [b] [] cpos) (RdE W (cCnt fa fb)) := by
  have hu := room65 ok
  refine PE.imp (pe_bX PySem.F.plainAttrs_list PySem.F.slot_list_count PySem.F.type_list_count (mt_countL hu) PySem.F.plainAttrs_tuple PySem.F.slot_tuple_count PySem.F.type_tuple_count (mt_countT hu) ha (pa_cons hb pa_nil (starEach_no ns)) (attr_plain hc) ?_ hl (starEach_no ns) rfl)
    fun σ H Q => rd_count ok.K
  rw [noStar_all (by rw [List.all_cons, ns]; rfl)]
  rfl
end
end MP
/-! MPZ: the compile function of expressions and statements, and that it tells the truth. -/
namespace MP
open PySem L2
open PySem.Spec PyProof.Rows

def pNeg : P → Option P
  | .int i => some (.int (-i))
  | _ => none
theorem ok_neg {W : Wd} : Ok1 W pNeg (rU fun i => .int (-i)) := by
  intro F M H mem x z v Q st rx h k
  cases x with
  | int i =>
    cases h
    have e : v = .int i := rx
    exact ⟨i, e, k _ H (Same.refl H) rfl⟩
  | _ => cases h
def isSlice : Expr → Bool
  | .Slice _ _ _ _ => true
  | _ => false
theorem plainIx {b : Expr} (h : isSlice b = false) : PlainIx b := by
  intro o i
  cases b <;> first
    | rfl
    | cases h
def cOpt (r : Cmp) (c : CCx) : Option Expr → Option CO
  | none => some oNo
  | some e => match r.e c false e with
    | some f => some (oSome f)
    | none => none
def cSub (r : Cmp) (c : CCx) (mu : Bool) (a : Expr) : Expr → Option CE
  | .Slice lo hi none _ => (match r.e c false a, cOpt r c lo, cOpt r c hi with
    | some fa, some fl, some fh => some (cCut mu fa fl fh)
    | _, _, _ => none)
  | b => if isSlice b then none else match r.e c false a, r.e c false b with
    | some fa, some fb => some (c2 mu pIx fa fb)
    | _, _ => none
def cCmp (r : Cmp) (c : CCx) (a : Expr) : List CmpOp → List Expr → Option CE
  | [op], [b] => if isSetE b then none else (match cmpF op, r.e c false a, r.e c false b with
    | some f, some fa, some fb => some (c2 false f fa fb)
    | _, _, _ => none)
  | [op, op'], [b, d] => if isSetE d then none else (match cmpF op, cmpF op', r.e c false a with
    | some f, some f', some fa => (match r.e c false b, r.e c false d with
      | some fb, some fd => some (cChain f f' fa fb fd)
      | _, _ => none)
    | _, _, _ => none)
  | _, _ => none
def kwFind (ks : List Str) : List (List Str × List Nat) → Option (List Nat)
  | [] => none
  | (k, ix) :: r => if k = ks then some ix else kwFind ks r
theorem kwFind_ok {ks : List Str} {ix : List Nat} : ∀ {l : List (List Str × List Nat)}, kwFind ks l = some ix → (ks, ix) ∈ l
  | [], h => by cases h
  | (k, jx) :: r, h => by
    unfold kwFind at h
    split at h
    · rename_i e
      cases h
      subst e
      exact List.mem_cons_self
    · exact List.mem_cons_of_mem _ (kwFind_ok h)
def cBlt (r : Cmp) (c : CCx) (mu : Bool) (x : Str) : List Expr → Option CE
  | [.Call (.Name y py) [b] [] posr] => if x = "list" && y = "range" && bltB c "list" && bltB c "range" && !isStar b then (match r.e c false b with
      | some fb => some (cLrg1 mu fb)
      | none => none)
    else (match blt1 x, r.e c false (.Call (.Name y py) [b] [] posr) with
      | some f, some fa => some (c1 mu f fa)
      | _, _ => none)
  | [a] => if isStar a then none else (match blt1 x, r.e c false a with
    | some f, some fa => some (c1 mu f fa)
    | _, _ => none)
  | [a, b] => if isStar a || isStar b then none else if x = "isinstance" then (match nmOf b, r.e c false a with
      | some y, some fa => if bltB c y then (match tyOf y with
        | some t => some (c1 mu (pIsi t) fa)
        | none => none) else none
      | _, _ => none)
    else (match r.e c false a, r.e c false b with
      | some fa, some fb => cB2 x mu fa fb
      | _, _ => none)
  | _ => none
def cFn (r : Cmp) (c : CCx) (ps : List Str) (kwl : List (List Str × List Nat)) (C : CC) : List Expr → List Keyword → Option CE
  | [], [] => some (cCall C aNil)
  | [], ks => (match kwFind (kwNames ks) kwl, cKw r c ks with
    | some ix, some fa => some (cCall C (cPerm ps.length ix fa))
    | _, _ => none)
  | es, [] => if es.all (fun e => !isStar e) then (match cArgs r c es with
    | some fa => some (cCall C fa)
    | none => none) else none
  | _, _ => none
def cFnG (r : Cmp) (c : CCx) (C : CC) : List Expr → List Keyword → Option CE
  | e :: es, [] => if (e :: es).all (fun e => !isStar e) then (match cArgs r c (e :: es) with
    | some fa => some (cCall C fa)
    | none => none) else none
  | _, _ => none
def cCallE (r : Cmp) (c : CCx) (mu : Bool) : Expr → List Expr → List Keyword → Pos → Option CE
  | .Name x _, es, ks, _ => if glB c x then (match c.G.lookup x with
    | some .blt => (match ks with
      | [] => cBlt r c mu x es
      | _ => none)
    | some (.fn ps kwl C) => cFn r c ps kwl C es ks
    | some (.fnG ps C) => cFnG r c C es ks
    | _ => none) else none
  | .Attribute o m apos, [b], [], cpos => if m = "append" then (if apos.endLine == cpos.line && !isCallE o && !isStar b then (match r.e c false o, r.e c false b with
    | some fo, some fb => some (cApp fo fb)
    | _, _ => none) else none)
   else if m = "pop" then (if apos.endLine == cpos.line && !isCallE o && !isStar b then (match r.e c false o, r.e c false b with
    | some fo, some fb => some (cPopAt fo fb)
    | _, _ => none) else none)
   else if m = "count" && apos.endLine == cpos.line && !isCallE o && !isStar b then (match r.e c false o, r.e c false b with
    | some fo, some fb => some (cCnt fo fb)
    | _, _ => none) else none
  | _, _, _, _ => none
def cBoolV (r : Cmp) (c : CCx) (op : BoolOp) (pos : Pos) : List Expr → Option CE
  | [a] => r.e c false a
  | a :: b :: rest => (match r.e c false a, r.e c false (.BoolOp op (b :: rest) pos) with
    | some f, some g => some (match op with
      | .And => cAndV f g
      | .Or => cOrV f g)
    | _, _ => none)
  | [] => none
def stepE (r : Cmp) (c : CCx) (mu : Bool) : Expr → Option CE
  | .Name x _ => cName c x
  | .Constant k _ _ => (match constP k with
    | some p => some (cP p)
    | none => none)
  | .BinOp a op b _ => (match binF op, r.e c false a, r.e c false b with
    | some f, some fa, some fb => some (c2 mu f fa fb)
    | _, _, _ => none)
  | .UnaryOp .USub a _ => (match r.e c false a with
    | some f => some (c1 false pNeg f)
    | none => none)
  | .UnaryOp .Not a _ => (match r.e c false a with
    | some f => some (cNotV f)
    | none => none)
  | .IfExp t a b _ => (match r.t c t, r.e c mu a, r.e c mu b with
    | some ft, some fa, some fb => some (cIf ft fa fb)
    | _, _, _ => none)
  | .BoolOp op vs pos => cBoolV r c op pos vs
  | .Compare a ops bs _ => cCmp r c a ops bs
  | .Tuple es _ _ => (match cArgs r c es with
    | some f => some (cTup f)
    | none => none)
  | .List es _ => (match cArgs r c es with
    | some f => some (cLst mu f)
    | none => none)
  | .Subscript a b _ => cSub r c mu a b
  | .ListComp elt gens scope _ => cLcE r c mu elt scope gens
  | .Call f es ks pos => cCallE r c mu f es ks pos
  | _ => none
def cBoolT (r : Cmp) (c : CCx) (op : BoolOp) : List Expr → Option CT
  | [] => none
  | [a] => r.t c a
  | a :: b :: rest => (match r.t c a, cBoolT r c op (b :: rest) with
    | some f, some g => some (match op with
      | .And => kAnd f g
      | .Or => kOr f g)
    | _, _ => none)
def plainT : Expr → Bool
  | .Name _ _ => true
  | .Constant _ _ _ => true
  | .Call _ _ _ _ => true
  | .Subscript _ _ _ => true
  | _ => false
theorem plainT_ok {e : Expr} {env : PySem.Env} (h : plainT e = true) : ∀ whole, isTrue e env whole = (do let v ← whole; standAt e.pos; holding [v] (truthy v)) := by
  intro w
  cases e <;> first
    | rfl
    | cases h
def stepT (r : Cmp) (c : CCx) : Expr → Option CT
  | .UnaryOp .Not a _ => (match r.t c a with
    | some f => some (kNot f)
    | none => none)
  | .BoolOp op vs _ => cBoolT r c op vs
  | .Compare a ops bs _ => (match cCmp r c a ops bs with
    | some f => some (cTest f)
    | none => none)
  | e => if plainT e then (match r.e c false e with
    | some f => some (cTest f)
    | none => none) else none
theorem PW.imp {X : Cx} {e : Expr} {t t' : TT} (h : PW X e t) (w : ∀ σ H Q, t' σ H Q → t σ H Q) : PW X e t' := ⟨fun wh pins s σ H Q I q => h.run wh pins s σ H Q I (w σ H Q q)⟩
theorem PO.imp {X : Cx} {e : Option Expr} {t t' : TO} (h : PO X e t) (w : ∀ σ H Q, t' σ H Q → t σ H Q) : PO X e t' := ⟨fun pins s σ H Q I q => h.run pins s σ H Q I (w σ H Q q)⟩
section
variable {W : Wd} {c : CCx} {X : Cx} {r : Cmp}
theorem snd_opt (sr : Snd W r) (ok : XOk W c X) {e : Option Expr} {f : CO} (h : cOpt r c e = some f) : PO X e (RdO W f) := by
  unfold cOpt at h
  split at h
  · cases h
    exact PO.imp po_none fun σ H Q => rd_oNo
  · split at h
    · rename_i f1 e1
      cases h
      exact PO.imp (po_some (sr.e c X false _ f1 ok e1)) fun σ H Q => rd_oSome
    · cases h
theorem snd_sub (sr : Snd W r) (ok : XOk W c X) {mu : Bool} {a b : Expr} {pos : Pos} {f : CE} (h : cSub r c mu a b = some f) : PE X (.Subscript a b pos) (RdE W f) := by
  have hK := ok.K
  unfold cSub at h
  split at h
  · split at h
    · rename_i fa fl fh e1 e2 e3
      cases h
      exact PE.imp (pe_slice sl_X (sr.e c X false _ fa ok e1) (snd_opt sr ok e2) (snd_opt sr ok e3)) fun σ H Q q => by
        rw [← hK]
        exact rd_cut q
    · cases h
  · split at h
    · cases h
    · rename_i hs
      split at h
      · rename_i fa fb e1 e2
        cases h
        exact PE.imp (pe_ix ix_seq (sr.e c X false _ fa ok e1) (sr.e c X false _ fb ok e2) (plainIx (by simpa using hs))) fun σ H Q q => by
          rw [← hK]
          exact rd_2 ok_ix q
      · cases h
theorem snd_cmpE (sr : Snd W r) (ok : XOk W c X) {a : Expr} {ops : List CmpOp} {bs : List Expr} {pos : Pos} {f : CE} (h : cCmp r c a ops bs = some f) :
    PE X (.Compare a ops bs pos) (RdE W f) ∧ PT X (.Compare a ops bs pos) (RdT W (cTest f)) := by
  unfold cCmp at h
  split at h
  · rename_i op b
    split at h
    · cases h
    · rename_i hs
      split at h
      · rename_i g fa fb e1 e2 e3
        cases h
        have hs' : isSetE b = false := by simpa using hs
        exact ⟨snd_cmp ok e1 hs' (sr.e c X false _ fa ok e2) (sr.e c X false _ fb ok e3), snd_cmpT ok e1 hs' (sr.e c X false _ fa ok e2) (sr.e c X false _ fb ok e3)⟩
      · cases h
  · rename_i op op' b d
    split at h
    · cases h
    · rename_i hs
      split at h
      · rename_i g g' fa e1 e2 e3
        split at h
        · rename_i fb fd e4 e5
          cases h
          have hm : lastMarks [op, op'] [b, d] = false := marks_no (by simpa using hs)
          obtain ⟨r1, h1, k1⟩ := cmp_rule ok e1
          obtain ⟨r2, h2, k2⟩ := cmp_rule ok e2
          have ha := sr.e c X false _ fa ok e3
          have hb := sr.e c X false _ fb ok e4
          have hd := sr.e c X false _ fd ok e5
          exact ⟨PE.imp (pe_chain h1 h2 ha hb hd hm) fun σ H Q => rd_chain k1 k2, PT.imp (pt_chain h1 h2 ha hb hd hm) fun σ H Q q => rd_chain k1 k2 (rd_test q)⟩
        · cases h
      · cases h
  · cases h
theorem snd_blt (sr : Snd W r) (ok : XOk W c X) {mu : Bool} {x : Str} {es : List Expr} {p pos : Pos} {f : CE} (hb : bltB c x = true) (h : cBlt r c mu x es = some f) : PE X (.Call (.Name x p) es [] pos) (RdE W f) := by
  unfold cBlt at h
  split at h
  · split at h
    · rename_i hc
      simp only [Bool.and_eq_true, decide_eq_true_eq, Bool.not_eq_true'] at hc
      obtain ⟨⟨⟨⟨c1, c2⟩, c3⟩, c4⟩, c5⟩ := hc
      subst c1 c2
      split at h
      · rename_i fb e1
        cases h
        exact snd_lrg ok c3 c4 (sr.e c X false _ fb ok e1) c5
      · cases h
    · split at h
      · rename_i g fa e1 e2
        cases h
        exact snd_blt1 ok hb e1 (sr.e c X false _ fa ok e2) rfl
      · cases h
  · split at h
    · cases h
    · rename_i hs
      split at h
      · rename_i g fa e1 e2
        cases h
        exact snd_blt1 ok hb e1 (sr.e c X false _ fa ok e2) (by simpa using hs)
      · cases h
  · rename_i a b
    split at h
    · cases h
    · rename_i hs
      have hs2 : isStar a = false ∧ isStar b = false := by simpa using hs
      split at h
      · rename_i hx
        subst hx
        split at h
        · rename_i y fa e1 e2
          obtain ⟨py, rfl⟩ := nmOf_ok e1
          split at h
          · rename_i hy
            split at h
            · rename_i t e3
              cases h
              exact snd_isi ok hb hy e3 (sr.e c X false _ fa ok e2) hs2.1
            · cases h
          · cases h
        · cases h
      · split at h
        · rename_i fa fb e1 e2
          exact snd_b2 ok hb h (sr.e c X false _ fa ok e1) (sr.e c X false _ fb ok e2) hs2.1 hs2.2
        · cases h
  · cases h
theorem snd_fn (sr : Snd W r) (ok : XOk W c X) {x : Str} {ps : List Str} {kwl : List (List Str × List Nat)} {C : CC} {es : List Expr} {ks : List Keyword} {p pos : Pos} {f : CE} (hg : glB c x = true) (hl : c.G.lookup x = some (.fn ps kwl C)) (h : cFn r c ps kwl C es ks = some f) :
    PE X (.Call (.Name x p) es ks pos) (RdE W f) := by
  obtain ⟨g1, g2⟩ := glB_ok ok hg
  obtain ⟨a, fd, j, m1, m2, m3, m4, m5, m6, m7⟩ := ok.g _ _ hl
  unfold cFn at h
  split at h
  · cases h
    exact PE.imp (pe_call0 (ds := []) (dvs := []) m5 m6 g1 m1 m2 m3 .nil pass0 (plainN_1 g2)) fun σ H Q q => by
      obtain ⟨F, M, env, mem, Qb, st, en, h, k⟩ := rd_call m7 q
      exact rd_aNil ⟨F, M, env, mem, Qb, st, en, h, k⟩
  · split at h
    · rename_i ix fa e1 e2
      cases h
      obtain ⟨q1, q2, q3, q4⟩ := snd_kw sr ok e2
      exact PE.imp (pe_callP m5 m6 g1 m1 m2 (m4 _ (kwFind_ok e1)) q1 (q2 _) (q3 _) (q4 _) (plainN_1 g2)) fun σ H Q q => rd_callP m7 q
    · cases h
  · split at h
    · rename_i hs
      split at h
      · rename_i fa e1
        cases h
        rename_i hne _
        cases es with
        | nil => exact (hne rfl).elim
        | cons e es =>
          rw [List.all_cons, Bool.and_eq_true] at hs
          exact PE.imp (pe_call (ds := []) (dvs := []) m5 m6 g1 m1 m2 m3 .nil pass0 (snd_args sr ok e1) (plainN_1 g2) (starEach_no (by simpa using hs.1)) (noStar_any hs.2)) fun σ H Q q => rd_call m7 q
      · cases h
    · cases h
  · cases h
theorem snd_fnG (sr : Snd W r) (ok : XOk W c X) {x : Str} {ps : List Str} {C : CC} {es : List Expr} {ks : List Keyword} {p pos : Pos} {f : CE} (hg : glB c x = true) (hl : c.G.lookup x = some (.fnG ps C)) (h : cFnG r c C es ks = some f) :
    PE X (.Call (.Name x p) es ks pos) (RdE W f) := by
  obtain ⟨g1, g2⟩ := glB_ok ok hg
  obtain ⟨a, fd, j, m1, m2, m3, m5, m6, m7⟩ := ok.g _ _ hl
  unfold cFnG at h
  split at h
  · split at h
    · rename_i hs
      split at h
      · rename_i fa e1
        cases h
        rw [List.all_cons, Bool.and_eq_true] at hs
        exact PE.imp (pe_call (ds := []) (dvs := []) m5 m6 g1 m1 m2 m3 .nil pass0 (snd_args sr ok e1) (plainN_1 g2) (starEach_no (by simpa using hs.1)) (noStar_any hs.2)) fun σ H Q q => rd_callG m7 q
      · cases h
    · cases h
  · cases h
theorem snd_callE (sr : Snd W r) (ok : XOk W c X) {mu : Bool} {fe : Expr} {es : List Expr} {ks : List Keyword} {pos : Pos} {f : CE} (h : cCallE r c mu fe es ks pos = some f) : PE X (.Call fe es ks pos) (RdE W f) := by
  unfold cCallE at h
  split at h
  · split at h
    · rename_i hg
      split at h
      · rename_i e1
        split at h
        · exact snd_blt sr ok (by unfold bltB; rw [hg, e1]; rfl) h
        · cases h
      · rename_i ps kwl C e1
        exact snd_fn sr ok hg e1 h
      · rename_i ps C e1
        exact snd_fnG sr ok hg e1 h
      · cases h
    · cases h
  · split at h
    · rename_i hm
      subst hm
      split at h
      · rename_i hc
        simp only [Bool.and_eq_true, Bool.not_eq_true'] at hc
        obtain ⟨⟨c2, c3⟩, c4⟩ := hc
        split at h
        · rename_i fo fb e1 e2
          cases h
          exact snd_app ok c2 c3 (sr.e c X false _ fo ok e1) (sr.e c X false _ fb ok e2) c4
        · cases h
      · cases h
    split at h
    · rename_i hm
      subst hm
      split at h
      · rename_i hc
        simp only [Bool.and_eq_true, Bool.not_eq_true'] at hc
        obtain ⟨⟨c2, c3⟩, c4⟩ := hc
        split at h
        · rename_i fo fb e1 e2
          cases h
          exact snd_popAt ok c2 c3 (sr.e c X false _ fo ok e1) (sr.e c X false _ fb ok e2) c4
        · cases h
      · cases h
    split at h
    · rename_i hc
      simp only [Bool.and_eq_true, decide_eq_true_eq, Bool.not_eq_true'] at hc
      obtain ⟨⟨⟨c1, c2⟩, c3⟩, c4⟩ := hc
      subst c1
      split at h
      · rename_i fo fb e1 e2
        cases h
        exact snd_count ok c2 c3 (sr.e c X false _ fo ok e1) (sr.e c X false _ fb ok e2) c4
      · cases h
    · cases h
  · cases h
theorem snd_boolV (sr : Snd W r) (ok : XOk W c X) {op : BoolOp} {pos : Pos} {es : List Expr} {f : CE} (h : cBoolV r c op pos es = some f) : PE X (.BoolOp op es pos) (RdE W f) := by
  unfold cBoolV at h
  split at h
  · exact pe_one (sr.e c X false _ f ok h)
  · split at h
    · rename_i f1 g1 e1 e2
      cases h
      cases op with
      | And => exact PE.imp (pe_and (sr.e c X false _ f1 ok e1) (sr.e c X false _ g1 ok e2)) fun σ H Q => rd_andV
      | Or => exact PE.imp (pe_or (sr.e c X false _ f1 ok e1) (sr.e c X false _ g1 ok e2)) fun σ H Q => rd_orV
    · cases h
  · cases h
theorem snd_boolT (sr : Snd W r) (ok : XOk W c X) {op : BoolOp} {pos : Pos} : ∀ {es : List Expr} {f : CT}, cBoolT r c op es = some f → PW X (.BoolOp op es pos) (RdT W f)
  | [], f, h => by cases h
  | [a], f, h => by
    cases op with
    | And => exact pw_and1 (sr.t c X a f ok h)
    | Or => exact pw_or1 (sr.t c X a f ok h)
  | a :: b :: rest, f, h => by
    unfold cBoolT at h
    split at h
    · rename_i f1 g1 e1 e2
      cases h
      cases op with
      | And => exact PW.imp (pw_and (sr.t c X a f1 ok e1) (snd_boolT sr ok e2)) fun σ H Q => rd_and
      | Or => exact PW.imp (pw_or (sr.t c X a f1 ok e1) (snd_boolT sr ok e2)) fun σ H Q => rd_or
    · cases h
theorem snd_stepE (sr : Snd W r) (ok : XOk W c X) {mu : Bool} {e : Expr} {f : CE} (h : stepE r c mu e = some f) : PE X e (RdE W f) := by
  unfold stepE at h
  split at h
  · exact snd_name ok h
  · split at h
    · rename_i p e1
      cases h
      exact snd_const e1
    · cases h
  · split at h
    · rename_i g fa fb e1 e2 e3
      cases h
      exact snd_bin ok e1 (sr.e c X false _ fa ok e2) (sr.e c X false _ fb ok e3)
    · cases h
  · split at h
    · rename_i fa e1
      cases h
      exact PE.imp (pe_un un_neg (sr.e c X false _ fa ok e1)) fun σ H Q => rd_1 ok_neg
    · cases h
  · split at h
    · rename_i fa e1
      cases h
      exact PE.imp (pe_not (sr.e c X false _ fa ok e1)) fun σ H Q => rd_notV
    · cases h
  · split at h
    · rename_i ft fa fb e1 e2 e3
      cases h
      exact PE.imp (pe_ifExp (sr.t c X _ ft ok e1) (sr.e c X mu _ fa ok e2) (sr.e c X mu _ fb ok e3)) fun σ H Q => rd_if
    · cases h
  · exact snd_boolV sr ok h
  · exact (snd_cmpE sr ok h).1
  · split at h
    · rename_i fa e1
      cases h
      exact PE.imp (pe_tupF (snd_args sr ok e1)) fun σ H Q => rd_tup
    · cases h
  · split at h
    · rename_i fa e1
      cases h
      exact PE.imp (pe_lst (snd_args sr ok e1)) fun σ H Q => rd_lst
    · cases h
  · exact snd_sub sr ok h
  · exact (snd_lcE sr ok h).1
  · exact snd_callE sr ok h
  · cases h
theorem snd_stepT (sr : Snd W r) (ok : XOk W c X) {e : Expr} {f : CT} (h : stepT r c e = some f) : PT X e (RdT W f) := by
  unfold stepT at h
  split at h
  · split at h
    · rename_i fa e1
      cases h
      exact PT.imp (pt_not (sr.t c X _ fa ok e1)) fun σ H Q => rd_not
    · cases h
  · exact (snd_boolT sr ok h).pt
  · split at h
    · rename_i fa e1
      cases h
      exact (snd_cmpE sr ok e1).2
    · cases h
  · split at h
    · rename_i hp
      split at h
      · rename_i fa e1
        cases h
        exact PT.imp (pt_val (sr.e c X false _ fa ok e1) (plainT_ok hp)) fun σ H Q => rd_test
      · cases h
    · cases h
end
def comp : Nat → Cmp
  | 0 => ⟨fun _ _ _ => none, fun _ _ => none⟩
  | n + 1 => ⟨stepE (comp n), stepT (comp n)⟩
theorem comp_snd (W : Wd) : ∀ n, Snd W (comp n)
  | 0 => ⟨fun _ _ _ _ _ _ h => (nomatch h), fun _ _ _ _ _ h => (nomatch h)⟩
  | n + 1 => ⟨fun c X mu e f ok h => snd_stepE (comp_snd W n) ok h, fun c X e f ok h => snd_stepT (comp_snd W n) ok h⟩
end MP
/-! MQA: statements; a def by its compiled body. -/
namespace MP
open PySem L2
open PySem.Spec PyProof.Rows

def isComp : Expr → Bool
  | .ListComp _ _ _ _ => true
  | .SetComp _ _ _ _ => true
  | .DictComp _ _ _ _ _ => true
  | _ => false
theorem swaps_no {e : Expr} {t : Option Expr} {l : Nat} {env : PySem.Env} (h : isComp e = false) : swapsWith e t l env = pure false := by
  cases e <;> first
    | rfl
    | cases h
def isTupE : Expr → Bool
  | .Tuple _ _ _ => true
  | .List _ _ => true
  | _ => false
theorem stores_no {t e : Expr} {env : PySem.Env} (h : isTupE t = false) : swappedStores [t] e env = pure none := by
  cases t <;> first
    | rfl
    | cases h
theorem stores_no2 {ts : List Expr} {k : Nat} {p : Pos} {e : Expr} {env : PySem.Env} (h : isTup2 e = false) : swappedStores [.Tuple ts k p] e env = pure none := by
  cases e <;> first
    | rfl
    | cases h
/-- a target that is a name or a place in a list -/
def gOne (r : Cmp) (c : CCx) : Expr → Option CG
  | .Name x _ => if locB c x then (match slotOf c.N x with
    | some i => some (gNm i)
    | none => none) else none
  | .Subscript o i _ => if isSlice i then none else (match r.e c false o, r.e c false i with
    | some fo, some fi => some (gSub fo fi)
    | _, _ => none)
  | _ => none
def gMany (r : Cmp) (c : CCx) : List Expr → Option CGs
  | [] => some gsNil
  | e :: es => match gOne r c e, gMany r c es with
    | some g, some gs => some (gsCons g gs)
    | _, _ => none
def gAny (r : Cmp) (c : CCx) : Expr → Option CG
  | .Tuple es _ _ => (match gMany r c es with
    | some gs => some (gTpl es.length gs)
    | none => none)
  | e => gOne r c e
theorem assignEach_no {e : Expr} {es : List Expr} {env : PySem.Env} (h : isStar e = false) : assignEach (e :: es) env = (false, assign e env) :: assignEach es env := by
  cases e <;> first
    | rfl
    | cases h
theorem assign_sub {o i : Expr} {pos : Pos} {env : PySem.Env} {v : Value} (h : isSlice i = false) : assign (.Subscript o i pos) env v = (do
      let ov ← holding [v] (eval o env)
      let iv ← holding [v, ov] (eval i env)
      standAt pos
      holding [v, ov, iv] (setItem ov iv v)
      release [v, ov, iv] []) := by
  cases i <;> first
    | rfl
    | cases h
section
variable {W : Wd} {c : CCx} {X : Cx} {r : Cmp}
theorem gOne_ok (sr : Snd W r) (ok : XOk W c X) {e : Expr} {g : CG} (h : gOne r c e = some g) : PG X e (RdG W g) ∧ isStar e = false := by
  unfold gOne at h
  split at h
  · split at h
    · rename_i hl
      split at h
      · rename_i i e1
        cases h
        exact ⟨PG.imp (pg_nm ok hl e1) fun v σ H Q => rd_gNm, rfl⟩
      · cases h
    · cases h
  · split at h
    · cases h
    · rename_i hs
      split at h
      · rename_i fo fi e1 e2
        cases h
        exact ⟨PG.imp (pg_sub (sr.e c X false _ fo ok e1) (sr.e c X false _ fi ok e2) set_list (fun v => assign_sub (by simpa using hs))) fun v σ H Q => rd_gSub, rfl⟩
      · cases h
  · cases h
theorem gMany_ok (sr : Snd W r) (ok : XOk W c X) : ∀ {es : List Expr} {gs : CGs}, gMany r c es = some gs → PGs X es (RdGs W gs) ∧ (assignEach es X.env).length = es.length ∧ (assignEach es X.env).findIdx? (·.1) = none
  | [], gs, h => by
    cases h
    exact ⟨PGs.imp pgs_nil fun v σ H Q => rd_gsNil, rfl, rfl⟩
  | e :: es, gs, h => by
    unfold gMany at h
    split at h
    · rename_i g1 gs1 e1 e2
      cases h
      obtain ⟨p1, p2⟩ := gOne_ok sr ok e1
      obtain ⟨q1, q2, q3⟩ := gMany_ok sr ok e2
      have ha := assignEach_no (es := es) (env := X.env) p2
      refine ⟨PGs.imp (pgs_cons p1 q1 (by rw [ha]; rfl)) fun v σ H Q => rd_gsCons, ?_, ?_⟩
      · rw [ha]; exact congrArg (· + 1) q2
      · rw [ha, List.findIdx?_cons]
        simp [q3]
    · cases h
theorem gAny_ok (sr : Snd W r) (ok : XOk W c X) {e : Expr} {g : CG} (h : gAny r c e = some g) : PG X e (RdG W g) ∧ isStar e = false := by
  unfold gAny at h
  split at h
  · split at h
    · rename_i gs e1
      cases h
      obtain ⟨q1, q2, q3⟩ := gMany_ok sr ok e1
      refine ⟨PG.imp (pg_tup ok.calm q1 q2 q3) fun v σ H Q q => ?_, rfl⟩
      rw [← ok.K]
      exact rd_gTpl q
    · cases h
  · exact gOne_ok sr ok h
end

theorem star_any {a b : Expr} (ha : isStar a = false) (hb : isStar b = false) : ([a, b].any fun | .Starred .. => true | _ => false) = false := by
  cases a <;> first
    | (cases ha; done)
    | (cases b <;> first
      | rfl
      | cases hb)
theorem stores_swap {env : PySem.Env} {a b : Expr} {x y : Str} {px py kp2 pt : Pos} {kt k2 : Nat} (bk : env.blockKind = .function) (kx : env.kindOf x = some .local) (ky : env.kindOf y = some .local) (hl : px.line = py.line) (hxy : x ≠ y)
    (sa : isStar a = false) (sb : isStar b = false) (f1 : [a, b].all (foldedForSure 8) = false) (f2 : [a, b].all (constantsAlone 8) = false) : swappedStores [.Tuple [.Name x px, .Name y py] kt pt] (.Tuple [a, b] k2 kp2) env = pure (some [x, y]) := by
  have e1 := star_any sa sb
  have e2 : ([Expr.Name x px, Expr.Name y py].filterMap fun
    | .Name id pos => if env.kindOf id == some .local && pos.line == px.line then some id else none
    | _ => none) = [x, y] := by
    simp [kx, ky, hl]
  have e3 : [x, y].eraseDups = [x, y] := by
    have : (x == y) = false := by simpa using hxy
    have h2 : (y == x) = false := by simpa using fun e => hxy e.symm
    simp [List.eraseDups_cons, this, h2]
  have e4 : (([Expr.Name x px, Expr.Name y py].filterMap fun
    | .Name id pos => if env.kindOf id == some .local && pos.line == px.line then some id else none
    | _ => none).length != 2 || ([Expr.Name x px, Expr.Name y py].filterMap fun
    | .Name id pos => if env.kindOf id == some .local && pos.line == px.line then some id else none
    | _ => none).eraseDups.length != ([Expr.Name x px, Expr.Name y py].filterMap fun
    | .Name id pos => if env.kindOf id == some .local && pos.line == px.line then some id else none
    | _ => none).length) = false := by
    rw [e2, e3]
    rfl
  unfold swappedStores
  simp only [List.head?_cons, Option.map_some, Option.getD_some, bk]
  refine (if_neg fun h => Bool.false_ne_true h).trans ((if_neg fun h => Bool.false_ne_true (e1.symm.trans h)).trans ((if_neg fun h => Bool.false_ne_true (e4.symm.trans h)).trans ((if_neg fun h => Bool.false_ne_true (f1.symm.trans h)).trans ((if_neg fun h => Bool.false_ne_true (f2.symm.trans h)).trans ?_))))
  exact congrArg (fun l => (pure (some l) : Sem (Option (List Str)))) e2
/-! ### statements -/
/-- which of the right side's lists are open to writing -/
def muOf (c : CCx) : Expr → Bool
  | .Name x _ => c.mu.contains x
  | _ => false
def lineOf : Expr → Nat
  | e => e.pos.line
/-- does the model swap a comprehension with the name it goes to? -/
def swB (c : CCx) (x : Str) (p vpos : Pos) (scope : Scope) : Bool := c.sc.names.lookup x == some .local && p.line == vpos.line && !(scope.names.any fun (n, k) => n == x && (k == .local || k == .cell))
def swMode (sc : Scope) (ts vs : List Expr) : Option (Option (List Str)) :=
  if !(ts.length == 2 || ts.length == 3) || vs.length != ts.length then some none
  else if vs.any isStar then some none
  else if (ts.filterMap fun
    | .Name id pos => if sc.names.lookup id == some .local && pos.line == (ts.head?.map (·.pos.line)).getD 0 then some id else none
    | _ => none).length != ts.length || (ts.filterMap fun
    | .Name id pos => if sc.names.lookup id == some .local && pos.line == (ts.head?.map (·.pos.line)).getD 0 then some id else none
    | _ => none).eraseDups.length != (ts.filterMap fun
    | .Name id pos => if sc.names.lookup id == some .local && pos.line == (ts.head?.map (·.pos.line)).getD 0 then some id else none
    | _ => none).length then some none
  else if vs.all (foldedForSure 8) then some none
  else if vs.all (constantsAlone 8) then none
  else some (some (ts.filterMap fun
    | .Name id pos => if sc.names.lookup id == some .local && pos.line == (ts.head?.map (·.pos.line)).getD 0 then some id else none
    | _ => none))
theorem sw_mode {env : PySem.Env} {ts vs : List Expr} {k k2 : Nat} {p p2 : Pos} {r : Option (List Str)} (bk : env.blockKind = .function) (h : swMode env.scope ts vs = some r) : swappedStores [.Tuple ts k p] (.Tuple vs k2 p2) env = pure r := by
  unfold swMode at h
  unfold swappedStores
  simp only [bk]
  cases e1 : (!(ts.length == 2 || ts.length == 3) || vs.length != ts.length) with
  | true =>
    rw [e1, if_pos rfl] at h
    cases h
    exact if_pos rfl
  | false =>
    rw [e1, if_neg Bool.false_ne_true] at h
    refine (if_neg fun h' => Bool.false_ne_true h').trans ?_
    split at h
    · rename_i e2
      cases h
      exact if_pos e2
    · rename_i e2
      refine (if_neg e2).trans ?_
      split at h
      · rename_i e3
        cases h
        exact if_pos e3
      · rename_i e3
        refine (if_neg e3).trans ?_
        split at h
        · rename_i e4
          cases h
          exact if_pos e4
        · rename_i e4
          refine (if_neg e4).trans ?_
          split at h
          · cases h
          · rename_i e5
            refine (if_neg e5).trans ?_
            cases h
            rfl
def mz (c : CCx) : List Expr → List Expr → List (Expr × Bool)
  | t :: ts, v :: vs => (v, muOf c t) :: mz c ts vs
  | _, _ => []
theorem mz_ok {c : CCx} : ∀ {ts vs : List Expr}, ts.length = vs.length → (mz c ts vs).map (·.1) = vs
  | [], [], _ => rfl
  | t :: ts, v :: vs, h => congrArg (v :: ·) (mz_ok (ts := ts) (vs := vs) (by simpa using h))
def isLoc (c : CCx) (x : Str) : Bool := c.sc.names.lookup x == some .local
def cPar (r : Cmp) (c : CCx) (ts vs : List Expr) : Option CS :=
  match swMode c.sc ts vs with
  | some none => if ts.length = vs.length then (match gMany r c ts, cArgsM r c (mz c ts vs) with
    | some gs, some f => some (sAsgG (gTpl ts.length gs) (cTup f))
    | _, _ => none) else none
  | some (some [x', y']) => (match ts, vs with
    | [.Name x px, .Name y py], [a, b] => if x' = x && y' = y && isLoc c x && isLoc c y then (match slotOf c.N x, slotOf c.N y, cArgsM r c (mz c [.Name x px, .Name y py] [a, b]) with
      | some i, some j, some f => if i = j then none else some (sPar [i, j] f)
      | _, _, _ => none) else none
    | _, _ => none)
  | some (some [x', y', z']) => (match ts, vs with
    | [.Name x px, .Name y py, .Name z pz], [a, b, d] => if x' = x && y' = y && z' = z && isLoc c x && isLoc c y && isLoc c z then (match slotOf c.N x, slotOf c.N y, slotOf c.N z with
      | some i, some j, some l => if i = j || i = l || j = l then none else (match cArgsM r c (mz c [.Name x px, .Name y py, .Name z pz] [a, b, d]) with
        | some f => some (sPar [i, j, l] f)
        | none => none)
      | _, _, _ => none) else none
    | _, _ => none)
  | _ => none
def cAsg (r : Cmp) (c : CCx) (t e : Expr) : Option CS :=
  match t, e with
  | .Name x p, .ListComp elt gens scope vpos => if locB c x then (match slotOf c.N x, cLcE r c (c.mu.contains x) elt scope gens with
    | some i, some f => some (sAsgG (gNm i) f)
    | _, _ => none) else none
  | .Tuple ts _ _, .Tuple vs _ _ => cPar r c ts vs
  | t, e => if isComp e || (isTupE t && isTup2 e) || isStar t || (isTupE t && !isTup2 t) then none else (match gAny r c t, r.e c (muOf c t) e with
    | some g, some f => some (sAsgG g f)
    | _, _ => none)
def cMany (r : Cmp) (c : CCx) : List Expr → Option (List CE)
  | [] => some []
  | e :: es => if isStar e then none else (match r.e c false e, cMany r c es with
    | some f, some fs => some (f :: fs)
    | _, _ => none)
def cForC (r : Cmp) (c : CCx) (tg : Expr) (g : Tg) (fb : CS) (w : List Nat) (it : Expr) : Option CS :=
  match it with
  | .Tuple es _ _ => (match cMany r c es with
    | some fs => some (sForC w (ipT fs) g fb)
    | none => none)
  | it => (match iE r c tg it with
    | some fi => some (sForC w (ipI fi) g fb)
    | none => none)
def cFor (r : Cmp) (c : CCx) (tg : Expr) (g : Tg) (fb : CS) (h : Option (List Nat)) (it : Expr) : Option CS :=
  match h with
  | none => (match iE r c tg it with
    | some fi => some (sFor fi g fb)
    | none => none)
  | some w => (match g with
    | .n j => if w.head? == some j then (match iE r c tg it with
        | some fi => some (sForU w j fi fb)
        | none => none) else cForC r c tg g fb w it
    | g => cForC r c tg g fb w it)
def cSt (r : Cmp) (ss : CCx → List Stmt → Option CS) (c : CCx) : Stmt → Option CS
  | .Return (some e) _ => (match r.e c (c.mu.contains "return") e with
    | some f => some (sRet f)
    | none => none)
  | .Return none _ => some sRetN
  | .Assign [t] e _ => cAsg r c t e
  | .Expr (.Constant (.str _) _ _) _ => some sNil
  | .Expr e _ => if isComp e then none else (match r.e c false e with
    | some f => some (sExpr f)
    | none => none)
  | .If t a b _ => (match r.t c t, ss c a, ss c b with
    | some ft, some fa, some fb => some (sIf ft fa fb)
    | _, _, _ => none)
  | .While t b [] _ => (match r.t c t, ss c b with
    | some ft, some fb => some (sWhile 100000 ft fb)
    | _, _ => none)
  | .For tg it b [] pos => if isSetE it then none else (match tgOf c tg, ss c b with
    | some g, some fb => cFor r c tg g fb (c.ct.lookup pos.line) it
    | _, _ => none)
  | .Raise _ _ _ => some sNo
  | .Pass _ => some sNil
  | .Break _ => some sBrk
  | .Continue _ => some sCnt
  | _ => none
def cSs (st : CCx → Stmt → Option CS) (c : CCx) : List Stmt → Option CS
  | [] => some sNil
  | s :: ss => match st c s, cSs st c ss with
    | some f, some g => some (sSeq f g)
    | _, _ => none
def cStm (r : Cmp) : Nat → CCx → Stmt → Option CS
  | 0 => fun _ _ => none
  | n + 1 => fun c s => cSt r (cSs (cStm r n)) c s
structure YOk (W : Wd) (c : CCx) (X : Cx) : Prop where
  x : XOk W c X
  nb : c.blk = none
  kd : X.env.scope.kind = .function
structure SndS (W : Wd) (st : CCx → Stmt → Option CS) : Prop where
  s : ∀ (c : CCx) (X : Cx) (s : Stmt) (f : CS), YOk W c X → st c s = some f → PS X s (RdS W f)
section
variable {W : Wd} {c : CCx} {X : Cx} {r : Cmp}
theorem bk_fun (ok : YOk W c X) : X.env.blockKind = .function := by
  unfold Env.blockKind
  rw [ok.kd]
  rfl
theorem passX (ok : XOk W c X) : PassesOwn (model X.prog X.w) X.A X.env X.xe := by
  rw [ok.xe]
  exact PassesOwn.never
theorem asgEach1 {t : Expr} {env : PySem.Env} (h : isStar t = false) : (assignEach [t] env).map (·.2) = [assign t env] := by
  rw [assignEach_no h]
  rfl
theorem cPar_ok (sr : Snd W r) (ok : YOk W c X) {ts vs : List Expr} {k k2 : Nat} {p p2 pos : Pos} {f : CS} (h : cPar r c ts vs = some f) : PS X (.Assign [.Tuple ts k p] (.Tuple vs k2 p2) pos) (RdS W f) := by
  have okx := ok.x
  have hsw : swapsWithSole [.Tuple ts k p] (.Tuple vs k2 p2) pos.line X.env = pure false := swaps_no (e := .Tuple vs k2 p2) (t := some (.Tuple ts k p)) (l := pos.line) (env := X.env) rfl
  unfold cPar at h
  rw [← okx.sc] at h
  split at h
  · rename_i em
    have hw := sw_mode (k := k) (k2 := k2) (p := p) (p2 := p2) (bk_fun ok) em
    split at h
    · rename_i hl
      split at h
      · rename_i gs fa e1 e2
        cases h
        obtain ⟨q1, q2, q3⟩ := gMany_ok sr okx e1
        have ha := snd_argsM sr okx e2
        rw [mz_ok hl] at ha
        refine PS.imp (ps_asg (PE.imp (pe_tupF ha) fun σ H Q => rd_tup) (PG.imp (pg_tup okx.calm q1 q2 q3) fun v σ H Q q => ?_) hsw hw (asgEach1 rfl)) fun D σ H => rd_asgG
        rw [← okx.K]
        exact rd_gTpl q
      · cases h
    · cases h
  · rename_i x' y' em
    have hw := sw_mode (k := k) (k2 := k2) (p := p) (p2 := p2) (bk_fun ok) em
    split at h
    · split at h
      · rename_i hb
        simp only [Bool.and_eq_true, decide_eq_true_eq] at hb
        obtain ⟨⟨⟨b1, b2⟩, b3⟩, b4⟩ := hb
        subst b1 b2
        split at h
        · rename_i i j fa e1 e2 e3
          split at h
          · cases h
          · rename_i hij
            cases h
            have ha := snd_argsM sr okx e3
            have k1 : X.env.scope.names.lookup x' = some .local := by rw [okx.sc]; simpa [isLoc] using b3
            have k2' : X.env.scope.names.lookup y' = some .local := by rw [okx.sc]; simpa [isLoc] using b4
            exact PS.imp (ps_par okx.calm okx.nd (by rw [okx.nN]; exact slotOf_get e1) (by rw [okx.nN]; exact slotOf_get e2) hij k1 k2' ha hw hsw) fun D σ H => rd_par2
        · cases h
      · cases h
    · cases h
  · rename_i x' y' z' em
    have hw := sw_mode (k := k) (k2 := k2) (p := p) (p2 := p2) (bk_fun ok) em
    split at h
    · split at h
      · rename_i hb
        simp only [Bool.and_eq_true, decide_eq_true_eq] at hb
        obtain ⟨⟨⟨⟨⟨b1, b2⟩, b0⟩, b3⟩, b4⟩, b5⟩ := hb
        subst b1 b2 b0
        split at h
        · rename_i i j l e1 e2 e0
          split at h
          · cases h
          · rename_i hij
            simp only [Bool.or_eq_true, decide_eq_true_eq, not_or] at hij
            split at h
            · rename_i fa e3
              cases h
              have ha := snd_argsM sr okx e3
              have k1 : X.env.scope.names.lookup x' = some .local := by rw [okx.sc]; simpa [isLoc] using b3
              have k2' : X.env.scope.names.lookup y' = some .local := by rw [okx.sc]; simpa [isLoc] using b4
              have k3 : X.env.scope.names.lookup z' = some .local := by rw [okx.sc]; simpa [isLoc] using b5
              exact PS.imp (ps_par3 okx.calm okx.nd (by rw [okx.nN]; exact slotOf_get e1) (by rw [okx.nN]; exact slotOf_get e2) (by rw [okx.nN]; exact slotOf_get e0) hij.1.1 hij.1.2 hij.2 k1 k2' k3 ha hw hsw) fun D σ H => rd_par3
            · cases h
        · cases h
      · cases h
    · cases h
  · cases h
theorem cAsg_ok (sr : Snd W r) (ok : YOk W c X) {t e : Expr} {pos : Pos} {f : CS} (h : cAsg r c t e = some f) : PS X (.Assign [t] e pos) (RdS W f) := by
  have okx := ok.x
  unfold cAsg at h
  split at h
  · rename_i x p elt gens scope vpos
    split at h
    · rename_i hl
      split at h
      · rename_i i f1 e1 e2
        cases h
        obtain ⟨q1, q2⟩ := snd_lcE sr okx e2 (pos := vpos)
        have hN : X.N[i]? = some x := by rw [okx.nN]; exact slotOf_get e1
        have sw : swapsWith (.ListComp elt gens scope vpos) (some (.Name x p)) pos.line X.env = pure (swB c x p vpos scope) := by
          show (pure (X.env.blockKind == .function && X.env.kindOf x == some .local && p.line == vpos.line && !(scope.names.any fun (n, k) => n == x && (k == .local || k == .cell))) : Sem Bool) = _
          rw [bk_fun ok, show X.env.kindOf x = c.sc.names.lookup x from by rw [← okx.sc]; rfl]
          rfl
        by_cases hs : swB c x p vpos scope = true
        · rw [hs] at sw
          have hlo : X.env.scope.names.lookup x = some .local := by
            rw [okx.sc]
            unfold swB at hs
            rw [Bool.and_eq_true, Bool.and_eq_true] at hs
            simpa using hs.1.1
          exact q2 x i p pos hN hlo sw
        · rw [Bool.not_eq_true] at hs
          rw [hs] at sw
          exact PS.imp (ps_asg q1 (PG.imp (pg_nm okx hl e1) fun v σ H Q => rd_gNm) sw rfl rfl) fun D σ H => rd_asgG
      · cases h
    · cases h
  · exact cPar_ok sr ok h
  · split at h
    · cases h
    · rename_i hb
      simp only [Bool.or_eq_true, Bool.and_eq_true, not_or, Bool.not_eq_true, Bool.not_eq_true'] at hb
      split at h
      · rename_i g f1 e1 e2
        cases h
        obtain ⟨g1, g2⟩ := gAny_ok sr okx e1
        refine PS.imp (ps_asg (sr.e c X _ _ f1 okx e2) g1 (swaps_no hb.1.1.1) ?_ (asgEach1 g2)) fun D σ H => rd_asgG
        cases ht : isTupE t with
        | false => exact stores_no ht
        | true =>
          have h2 : isTup2 e = false := by
            have := hb.1.1.2
            rw [ht] at this
            simpa using this
          have h3 : isTup2 t = true := by
            have := hb.2
            rw [ht] at this
            simpa using this
          cases t <;> first
            | exact stores_no2 h2
            | cases h3
      · cases h
theorem cMany_ok (sr : Snd W r) (ok : XOk W c X) : ∀ {es : List Expr} {fs : List CE}, cMany r c es = some fs → PA X es (tAll W fs)
  | [], fs, h => by
    cases h
    exact pa_nil
  | e :: es, fs, h => by
    unfold cMany at h
    split at h
    · cases h
    · rename_i hs
      split at h
      · rename_i f fs' e1 e2
        cases h
        exact pa_cons (sr.e c X false e f ok e1) (cMany_ok sr ok e2) (starEach_no (by simpa using hs))
      · cases h
theorem cForC_ok (sr : Snd W r) (ok : XOk W c X) {tg it : Expr} {b : List Stmt} {pos : Pos} {g : Tg} {fb f : CS} {w : List Nat} (hg : tgOf c tg = some g) (hb : PSs X b (RdS W fb)) (hs : isSetE it = false) (h : cForC r c tg g fb w it = some f) : PS X (.For tg it b [] pos) (RdS W f) := by
  unfold cForC at h
  split at h
  · split at h
    · rename_i fs e1
      cases h
      have hi := fun x1 pos => pi_seqX (tg := tg) (pe_tupF (x1 := x1) (pos := pos) (cMany_ok sr ok e1))
      rw [← ok.K] at hi
      exact PS.imp (ps_for (passX ok) ok.calm (PI.imp (t' := RdIp W (ipT fs)) (hi _ _) fun σ H R => rd_ipT) (tgOf_ok ok hg) hb (folded_no hs)) fun D σ H => rd_forC
    · cases h
  · split at h
    · rename_i fi e1
      cases h
      exact PS.imp (ps_for (passX ok) ok.calm (PI.imp (t' := RdIp W (ipI fi)) (snd_iE sr ok (tg := tg) e1) fun σ H R => rd_ipI) (tgOf_ok ok hg) hb (folded_no hs)) fun D σ H => rd_forC
    · cases h
theorem cFor_ok (sr : Snd W r) (ok : XOk W c X) {tg it : Expr} {b : List Stmt} {pos : Pos} {g : Tg} {fb f : CS} {hw : Option (List Nat)} (hg : tgOf c tg = some g) (hb : PSs X b (RdS W fb)) (hs : isSetE it = false) (h : cFor r c tg g fb hw it = some f) : PS X (.For tg it b [] pos) (RdS W f) := by
  unfold cFor at h
  split at h
  · split at h
    · rename_i fi e1
      cases h
      exact PS.imp (ps_for (passX ok) ok.calm (snd_iE sr ok (tg := tg) e1) (tgOf_ok ok hg) hb (folded_no hs)) fun D σ H => rd_for
    · cases h
  · split at h
    · split at h
      · split at h
        · rename_i fi e1
          cases h
          exact PS.imp (ps_for (passX ok) ok.calm (snd_iE sr ok (tg := tg) e1) (tgOf_ok ok hg) hb (folded_no hs)) fun D σ H => rd_forU
        · cases h
      · exact cForC_ok sr ok hg hb hs h
    · exact cForC_ok sr ok hg hb hs h
theorem cSt_ok (sr : Snd W r) {ss : CCx → List Stmt → Option CS} (hss : ∀ (c : CCx) (X : Cx) (s : List Stmt) (f : CS), YOk W c X → ss c s = some f → PSs X s (RdS W f)) (ok : YOk W c X) {s : Stmt} {f : CS} (h : cSt r ss c s = some f) : PS X s (RdS W f) := by
  have okx := ok.x
  unfold cSt at h
  split at h
  · split at h
    · rename_i f1 e1
      cases h
      exact PS.imp (ps_ret (sr.e c X _ _ f1 okx e1)) fun D σ H => rd_ret
    · cases h
  · cases h
    exact PS.imp ps_retN fun D σ H => rd_retN
  · exact cAsg_ok sr ok h
  · cases h
    exact PS.imp ps_doc fun D σ H => rd_nil
  · split at h
    · cases h
    · rename_i hc
      split at h
      · rename_i f1 e1
        cases h
        exact PS.imp (ps_expr (sr.e c X _ _ f1 okx e1) (swaps_no (by simpa using hc))) fun D σ H => rd_expr
      · cases h
  · split at h
    · rename_i ft fa fb e1 e2 e3
      cases h
      exact PS.imp (ps_if (sr.t c X _ ft okx e1) (hss c X _ fa ok e2) (hss c X _ fb ok e3)) fun D σ H => rd_ifS
    · cases h
  · split at h
    · rename_i ft fb e1 e2
      cases h
      exact PS.imp (ps_while (passX okx) (sr.t c X _ ft okx e1) (hss c X _ fb ok e2)) fun D σ H => rd_while
    · cases h
  · rename_i tg it b pos
    split at h
    · cases h
    · rename_i hs
      split at h
      · rename_i g fb e2 e3
        exact cFor_ok sr okx e2 (hss c X _ fb ok e3) (by simpa using hs) h
      · cases h
  · cases h
    exact PS.imp ps_never fun D σ H => rd_no
  · cases h
    exact PS.imp ps_pass fun D σ H => rd_nil
  · cases h
    exact PS.imp ps_break fun D σ H => rd_brk
  · cases h
    exact PS.imp ps_continue fun D σ H => rd_cnt
  · cases h
theorem cSs_ok {st : CCx → Stmt → Option CS} (hst : SndS W st) : ∀ {ss : List Stmt} {f : CS}, YOk W c X → cSs st c ss = some f → PSs X ss (RdS W f)
  | [], f, ok, h => by
    cases h
    exact PSs.imp pss_nil fun D σ H => rd_nil
  | s :: ss, f, ok, h => by
    unfold cSs at h
    split at h
    · rename_i f1 g1 e1 e2
      cases h
      exact PSs.imp (pss_cons (hst.s c X s f1 ok e1) (cSs_ok hst ok e2)) fun D σ H => rd_seq
    · cases h
theorem cStm_ok (sr : Snd W r) : ∀ n, SndS W (cStm r n)
  | 0 => ⟨fun _ _ _ _ _ h => nomatch h⟩
  | n + 1 => ⟨fun c X s f ok h => cSt_ok sr (fun c X s f ok h => cSs_ok (cStm_ok sr n) ok h) ok h⟩
end
def body (n : Nat) (c : CCx) (ss : List Stmt) : Option CS := cSs (cStm (comp n) n) c ss
theorem body_ok {W : Wd} {c : CCx} {X : Cx} {n : Nat} {ss : List Stmt} {f : CS} (ok : YOk W c X) (h : body n c ss = some f) : PSs X ss (RdS W f) := cSs_ok (cStm_ok (comp_snd W n) n) ok h
end MP
/-! MQB: a def's promise from its compiled body; the laws' own defs: the bowl, the draw, the law. -/
namespace MP
open PySem L2
open PySem.Spec PyProof.Rows

/-! ### a def -/
section
variable {W : Wd} {Pg : Program} {w : World} {K : PySem.W.Frag} {mg : Str → Option Value} {base : Heap}
def GF (W : Wd) (Pg : Program) (w : World) (K : PySem.W.Frag) (mg : Str → Option Value) (base : Heap) (k : Nat) (x : Str) : GE → Prop
  | .blt => mg x = none
  | .cst p => ∃ u v, mg x = some u ∧ RelV v u ∧ ∀ F H, RepP W F H p v
  | .fn ps kwl C => ∃ f fd j, j ≤ k ∧ mg x = some (.ref f) ∧ PySem.W.keepIn K (.ref f) = true ∧ L2.Binds K fd ps [] ∧ (∀ q ∈ kwl, KwOk K fd ps q.1 q.2) ∧
      FnOk Pg w K mg base CX0 j f fd ps (spOf W ps.length C) ∧ ∀ ds m Q, C ds m Q = true → ds.length = ps.length
  | .fnG ps C => ∃ f fd j, j ≤ k ∧ mg x = some (.ref f) ∧ PySem.W.keepIn K (.ref f) = true ∧ L2.Binds K fd ps [] ∧
      FnOk Pg w K mg base CX0 j f fd ps (spOfG W ps.length C) ∧ ∀ ds m Q, C ds m Q = true → ds.length = ps.length
def GAll (p : Str → GE → Prop) : List (Str × GE) → Prop
  | [] => True
  | (x, g) :: r => p x g ∧ GAll p r
theorem GAll.get {p : Str → GE → Prop} : ∀ {l : List (Str × GE)} {x : Str} {g : GE}, GAll p l → l.lookup x = some g → p x g
  | (y, g') :: r, x, g, h, e => by
    rw [List.lookup_cons] at e
    split at e
    · rename_i hb
      cases e
      rw [eq_of_beq hb]
      exact h.1
    · exact GAll.get h.2 e
theorem yok_of {N ps : List Str} {scope : Scope} {qual : Str} {f : Addr} {cdv : Value} {A : Around} {outer : List PySem.Env} {s : Shared} {H : Hp} {E : XK} {k : Nat} {G : List (Str × GE)} {mu : List Str} {ct : List (Nat × List Nat)}
    (S : FnScope N ps scope) (hK : W.K = K) (hg : GAll (GF W Pg w K mg base k) G) (hr : Room k (A.deeper (envOfC qual scope s.heap.objs.size f cdv))) :
    YOk W ⟨N, scope, none, G, mu, ct⟩ (cxOf CX0 Pg w K mg base N qual scope f cdv A outer s H E).nox where
  x := {
    nN := rfl
    nd := S.nd
    sc := rfl
    calm := rfl
    K := hK
    xe := rfl
    room := hr.mono (Nat.zero_le _)
    fn := fun x => rfl
    g := fun x ge h => by
      have := hg.get h
      cases ge with
      | blt => exact this
      | cst p => exact this
      | fn ps kwl C =>
        obtain ⟨f, fd, j, hj, h1, h2, h3, h4, h5, h6⟩ := this
        exact ⟨f, fd, j, h1, h2, h3, h4, h5, hr.mono hj, h6⟩
      | fnG ps C =>
        obtain ⟨f, fd, j, hj, h1, h2, h3, h5, h6⟩ := this
        exact ⟨f, fd, j, h1, h2, h3, h5, hr.mono hj, h6⟩ }
  nb := rfl
  kd := S.kind
/-- a def by its compiled body -/
theorem fnOk_of {x qual : Str} {st : Stmt} {f : Addr} {fd : FuncData} {N ps : List Str} {k n : Nat} {G : List (Str × GE)} {mu : List Str} {ct : List (Nat × List Nat)} {B : CS} (Fn : Fun K x qual st f fd) (S : FnScope N ps (defScope st)) (hK : W.K = K)
    (hg : GAll (GF W Pg w K mg base k) G) (hl : ps.length ≤ N.length) (hb : body n ⟨N, defScope st, none, G, mu, ct⟩ (defBody st) = some B) : FnOk Pg w K mg base CX0 (k + 1) f fd ps (spOf W ps.length (callOf ps.length N.length B)) :=
  Fn.ok S (spOf_len rfl) fun cdv A outer s H vs Q E hr h => ⟨RdS W B, body_ok (yok_of S hK hg hr) hb, rd_body hl h⟩
theorem fnOk_ofG {x qual : Str} {st : Stmt} {f : Addr} {fd : FuncData} {N ps : List Str} {k n : Nat} {G : List (Str × GE)} {mu : List Str} {ct : List (Nat × List Nat)} {B : CS} (Fn : Fun K x qual st f fd) (S : FnScope N ps (defScope st)) (hK : W.K = K)
    (hg : GAll (GF W Pg w K mg base k) G) (hl : ps.length ≤ N.length) (hb : body n ⟨N, defScope st, none, G, mu, ct⟩ (defBody st) = some B) : FnOk Pg w K mg base CX0 (k + 1) f fd ps (spOfG W ps.length (callG ps.length N.length B)) :=
  Fn.ok S (fun vs H Q E q => q.1) fun cdv A outer s H vs Q E hr h => ⟨RdS W B, body_ok (yok_of S hK hg hr) hb, rd_bodyG hl h⟩
end

/-! ### frames -/
section
variable {W : Wd} {F F' : Addr → Prop} {M M' : List Addr} {H H' : Hp} {mem mem' : Mem} {a : Addr} {n : Nat} {c c' : Cell}
theorem frame1 (st : StR W F M H mem) (hn : M[n]? = some a) (hc : CellR W F H a c) : StR W F [a] H [c] where
  dom := st.dom
  nd := by simp
  inF := fun b hb => by
    rw [List.mem_singleton] at hb
    rw [hb]
    exact st.inF a (List.mem_of_getElem? hn)
  len := rfl
  cell := fun i b d e1 e2 => by
    cases i with
    | zero =>
      cases e1
      cases e2
      exact hc
    | succ i => cases i <;> cases e1
  tab := st.tab
  tabF := st.tabF
theorem frame0 (st : StR W F M H mem) : StR W F [] H [] := ⟨st.dom, by simp, (by intro a h; cases h), rfl, (by intro i b d e1; cases e1), st.tab, st.tabF⟩
theorem cell_tbl (h : CellR W F H a c) : ∃ o, H a = some o ∧ ∀ ps, o ≠ HO.tbl ps := by
  cases c with
  | lst xs =>
    obtain ⟨vs, _, e, _⟩ := h
    exact ⟨_, e, fun _ z => by cases z⟩
  | dct t kvs =>
    obtain ⟨l, _, _, e⟩ := h
    cases t with
    | true =>
      obtain ⟨l', e, _⟩ := e
      exact ⟨_, e, fun _ z => by cases z⟩
    | false =>
      obtain ⟨l', e, _⟩ := e
      exact ⟨_, e, fun _ z => by cases z⟩
  | bowl =>
    obtain ⟨vs, e, _⟩ := h
    exact ⟨_, e, fun _ z => by cases z⟩
/-- the rest of the memory stays when one cell alone is open -/
theorem unframe1 (st : StR W F M H mem) (hn : M[n]? = some a) (hc : mem[n]? = some c) (s : Step F [a] H F [a] H') (st' : StR W F [a] H' [c']) (back : CellR W F H' a c' → CellR W F H' a c) : Step F M H F M H' ∧ StR W F M H' mem := by
  have haM : a ∈ M := List.mem_of_getElem? hn
  refine ⟨⟨fun _ h => h, ⟨[], by simp, by simp⟩, s.kp, s.dm, fun x o h1 h2 h3 h4 => s.kf x o h1 (fun z => h2 (by rw [List.mem_singleton] at z; rw [z]; exact haM)) h3 h4⟩,
    ⟨fun b q => s.dm b (st.dom b q), st.nd, st.inF, st.len, fun i b d e1 e2 => ?_, st'.tab, st.tabF⟩⟩
  by_cases hi : i = n
  · subst hi
    rw [hn] at e1
    cases e1
    rw [hc] at e2
    cases e2
    exact back (st'.cell 0 a c' rfl rfl)
  · have hb := st.cell i b d e1 e2
    have ne : b ≠ a := fun z => by
      subst z
      obtain ⟨q1, e3⟩ := List.getElem?_eq_some_iff.mp e1
      obtain ⟨q2, e4⟩ := List.getElem?_eq_some_iff.mp hn
      exact hi ((List.getElem_inj st.nd).mp (e3.trans e4.symm))
    obtain ⟨o, eo, no⟩ := cell_tbl hb
    refine hb.kp s.kp fun u e => ?_
    rw [eo] at e
    cases e
    exact s.kf b o (st.inF b (List.mem_of_getElem? e1)) (fun z => ne (by simpa using z)) no eo
theorem unframe0 (st : StR W F M H mem) (s : Step F [] H F' [a] H') (st' : StR W F' [a] H' [c']) (back : CellR W F' H' a c' → CellR W F' H' a c) : Step F M H F' (M ++ [a]) H' ∧ StR W F' (M ++ [a]) H' (mem ++ [c]) := by
  obtain ⟨r, er, nr⟩ := s.mm
  have er : [a] = r := er
  subst er
  have na : H a = none := nr a (by simp)
  have naM : a ∉ M := fun z => st.dom a (st.inF a z) na
  refine ⟨⟨s.fm, ⟨[a], rfl, nr⟩, s.kp, s.dm, fun x o h1 h2 h3 h4 => s.kf x o h1 (by simp) h3 h4⟩, ⟨st'.dom, ?_, ?_, ?_, fun i b d e1 e2 => ?_, st'.tab, st'.tabF⟩⟩
  · rw [List.nodup_append]
    refine ⟨st.nd, by simp, fun x hx y hy => ?_⟩
    rw [List.mem_singleton] at hy
    rw [hy]
    exact fun z => naM (by rw [← z]; exact hx)
  · intro b hb
    rcases List.mem_append.mp hb with hb | hb
    · exact s.fm b (st.inF b hb)
    · exact st'.inF b hb
  · rw [List.length_append, List.length_append, st.len] <;> rfl
  · by_cases hi : i < M.length
    · rw [List.getElem?_append_left hi] at e1
      rw [List.getElem?_append_left (by rw [← st.len]; exact hi)] at e2
      have hb := st.cell i b d e1 e2
      obtain ⟨o, eo, no⟩ := cell_tbl hb
      refine hb.kp s.kp fun u e => ?_
      rw [eo] at e
      cases e
      exact s.kf b o (st.inF b (List.mem_of_getElem? e1)) (by simp) no eo
    · rw [List.getElem?_append_right (by omega)] at e1
      rw [List.getElem?_append_right (by rw [← st.len]; omega), ← st.len] at e2
      cases q : i - M.length with
      | zero =>
        rw [q] at e1 e2
        cases e1
        cases e2
        exact back (st'.cell 0 a c' rfl rfl)
      | succ j =>
        rw [q] at e1
        cases j <;> cases e1
end

/-! ### a law's lap over its bowl alone -/
def rightC : CC := fun ds m Q => match ds with
  | [.ref n] => (match m[n]? with
    | some .bowl => Q (.p (.bl true)) m
    | _ => false)
  | _ => false
def right0 (C : CC) : Bool := C [.ref 0] [.bowl] fun d m => samD d (.p (.bl true)) && samM m [.bowl]
theorem rightC_len (ds : List D) (m : Mem) (Q : KD) (h : rightC ds m Q = true) : ds.length = 1 := by
  unfold rightC at h
  split at h
  · rfl
  · cases h
theorem right_imp {W : Wd} {C : CC} (h : right0 C = true) : ∀ vs H Q E, spOf W 1 rightC vs H Q E → spOf W 1 C vs H Q E := by
  rintro vs H Q E ⟨hl, F, M, ds, mem, Qb, st, r, hc, k⟩
  refine ⟨hl, ?_⟩
  unfold rightC at hc
  split at hc
  · rename_i n
    split at hc
    · rename_i eb
      obtain ⟨v, r', e1, ⟨a, hn, e2⟩, e3⟩ := r
      have e3 : r' = [] := e3
      subst e1 e2 e3
      refine ⟨F, [a], [.ref 0], [.bowl], _, frame1 st hn (st.cell n a _ hn eb), ⟨_, _, rfl, ⟨a, rfl, rfl⟩, rfl⟩, h, fun v H' d mem' s st' rd q => ?_⟩
      rw [Bool.and_eq_true] at q
      have q1 := samD_eq q.1
      have q2 := samM_eq q.2
      subst q1 q2
      obtain ⟨s2, st2⟩ := unframe1 st hn eb s st' id
      exact k v H' (.p (.bl true)) mem s2 st2 rd hc
    · cases hc
  · cases hc

/-! ### the draw -/
def allLt : Nat → (Nat → Bool) → Bool
  | 0, _ => true
  | n + 1, p => p n && allLt n p
theorem allLt_get {p : Nat → Bool} : ∀ {n i : Nat}, allLt n p = true → i < n → p i = true
  | n + 1, i, h, hi => by
    unfold allLt at h
    rw [Bool.and_eq_true] at h
    by_cases e : i = n
    · rw [e]; exact h.1
    · exact allLt_get h.2 (by omega)
def drawC : CC := fun ds m Q => match ds with
  | [.ref n, .p (.int many)] => (match m[n]? with
    | some .bowl => decide (0 < many) && decide (many ≤ 1000000) && allLt many.toNat fun r => Q (.p (.int r)) m
    | _ => false)
  | _ => false
theorem drawC_len (ds : List D) (m : Mem) (Q : KD) (h : drawC ds m Q = true) : ds.length = 2 := by
  unfold drawC at h
  split at h
  · rfl
  · cases h
abbrev bx (i : Int) : CE := c2 false pIx (cVar 0) (cP (.int i))
abbrev ci (i : Int) : CE := cP (.int i)
def drawB : CS :=
  sSeq (sIf (cTest (c2 false pGt (bx 0) (ci 0))) (sSeq (sAsgG (gTpl 2 (gsCons (gSub (cVar 0) (ci 0)) (gsCons (gNm 2) gsNil))) (cDivm (bx 0) (cVar 1))) (sSeq (sRet (cVar 2)) sNil)) sNil)
  (sSeq (sAsgG (gSub (cVar 0) (ci 2)) (c2 false pAdd (bx 2) (ci 1)))
  (sSeq (sAsgG (gNm 3) (c2 false pMod (c1 false pInt (c2 false pAdd (c2 false pMul (bx 1) (ci 39373)) (c2 false pMul (ci 17011) (bx 2)))) (ci 2147483563)))
  (sSeq (sAsgG (gSub (cVar 0) (ci 1)) (c2 false pMod (c1 false pInt (c2 false pAdd (c2 false pMul (cVar 3) (c2 false pAdd (c2 false pMod (c1 false pInt (cVar 3)) (ci 4093)) (ci 30011))) (c2 false pMul (ci 7) (bx 2)))) (ci 2147483563)))
  (sSeq (sRet (c2 false pMod (c1 false pInt (c2 false pFdiv (bx 1) (ci 733))) (cVar 1))) sNil))))
def drawQ (many : Int) : KD := fun d m => match d, m with
  | .p (.int r), [.lst [.int x, .int y, .int z]] => decide (0 ≤ r) && decide (r < many) && decide (0 ≤ x) && decide (0 ≤ y) && decide (y < 2147483563) && decide (0 ≤ z)
  | _, _ => false
theorem bMul_r {i j : Int} (h : j.natAbs < 18446744073709551616) : bMul i j = true := by
  unfold bMul
  rw [Bool.or_eq_true, Nat.blt_eq, Nat.blt_eq]
  exact .inr h
theorem bMul_l {i j : Int} (h : i.natAbs < 18446744073709551616) : bMul i j = true := by
  unfold bMul
  rw [Bool.or_eq_true, Nat.blt_eq, Nat.blt_eq]
  exact .inl h
theorem mod_rng {i c : Int} (h : 0 < c) : 0 ≤ i % c ∧ i % c < c := ⟨Int.emod_nonneg _ (by omega), Int.emod_lt_of_pos _ h⟩
theorem pAdd_i {i j : Int} : pAdd (.int i) (.int j) = some (.int (i + j)) := rfl
theorem pMul_i {i j : Int} (h : bMul i j = true) : pMul (.int i) (.int j) = some (.int (i * j)) := by
  show (if bMul i j then _ else _) = _
  rw [if_pos h]
theorem pMod_i {i j : Int} (h : 0 < j) : pMod (.int i) (.int j) = some (.int (i % j)) := by
  show (if decide (0 < j) then _ else _) = _
  rw [if_pos (decide_eq_true h)]
theorem pFdiv_i {i j : Int} (h : bDiv i j = true) : pFdiv (.int i) (.int j) = some (.int (i / j)) := by
  show (if bDiv i j then _ else _) = _
  rw [if_pos h]
theorem log2_small {n : Nat} (h : n ≤ 1000000) : n.log2 < 9000 := by
  by_cases h0 : n = 0
  · subst h0; decide
  · have := (Nat.log2_lt h0 (k := 20)).mpr (by omega)
    omega
theorem bDiv_ok {i j : Int} (h : 0 < j) (h2 : j ≤ 1000000) : bDiv i j = true := by
  unfold bDiv
  rw [Bool.and_eq_true]
  exact ⟨decide_eq_true h, decide_eq_true (log2_small (by omega))⟩
section
variable {x y z many : Int} {Q : KD} {e2 e3 : Option D} {De : En}
theorem ix0 : pIx (.lst [.int x, .int y, .int z]) (.int 0) = some (.int x) := rfl
theorem ix1 : pIx (.lst [.int x, .int y, .int z]) (.int 1) = some (.int y) := rfl
theorem ix2 : pIx (.lst [.int x, .int y, .int z]) (.int 2) = some (.int z) := rfl
theorem pInt_i {i : Int} : pInt (.int i) = some (.int i) := rfl
abbrev dE (many : Int) (e2 e3 : Option D) : Env := [some (.ref 0), some (.p (.int many)), e2, e3]
abbrev dM (x y z : Int) : Mem := [.lst [.int x, .int y, .int z]]
theorem bx0 : bx 0 (dE many e2 e3) (dM x y z) Q = Q (.p (.int x)) (dM x y z) := rfl
theorem bx1 : bx 1 (dE many e2 e3) (dM x y z) Q = Q (.p (.int y)) (dM x y z) := rfl
theorem bx2 : bx 2 (dE many e2 e3) (dM x y z) Q = Q (.p (.int z)) (dM x y z) := rfl
theorem c2_i {f : P → P → Option P} {a b : CE} {env : Env} {m : Mem} {p q r : P} (ha : ∀ Q, a env m Q = Q (.p p) m) (hb : ∀ Q, b env m Q = Q (.p q) m) (hf : f p q = some r) : c2 false f a b env m Q = Q (.p r) m := by
  unfold c2
  rw [ha, hb]
  show (match f p q with
    | some z => out false z m Q
    | none => false) = _
  rw [hf]
  rfl
theorem c1_i {f : P → Option P} {a : CE} {env : Env} {m : Mem} {p r : P} (ha : ∀ Q, a env m Q = Q (.p p) m) (hf : f p = some r) : c1 false f a env m Q = Q (.p r) m := by
  unfold c1
  rw [ha]
  show (match f p with
    | some z => out false z m Q
    | none => false) = _
  rw [hf]
  rfl
theorem turn_ev : (c2 false pMod (c1 false pInt (c2 false pAdd (c2 false pMul (bx 1) (ci 39373)) (c2 false pMul (ci 17011) (bx 2)))) (ci 2147483563)) (dE many e2 e3) (dM x y z) Q = Q (.p (.int ((y * 39373 + 17011 * z) % 2147483563))) (dM x y z) :=
  c2_i (fun Q => c1_i (fun Q => c2_i (fun Q => c2_i (fun Q => bx1) (fun Q => rfl) (pMul_i (bMul_r (by decide)))) (fun Q => c2_i (fun Q => rfl) (fun Q => bx2) (pMul_i (bMul_l (by decide)))) pAdd_i) pInt_i) (fun Q => rfl) (pMod_i (by decide))
theorem stir_ev {t : Int} (ht : 0 ≤ t) (ht2 : t < 2147483563) : (c2 false pMod (c1 false pInt (c2 false pAdd (c2 false pMul (cVar 3) (c2 false pAdd (c2 false pMod (c1 false pInt (cVar 3)) (ci 4093)) (ci 30011))) (c2 false pMul (ci 7) (bx 2)))) (ci 2147483563)) (dE many e2 (some (.p (.int t)))) (dM x y z) Q = Q (.p (.int ((t * (t % 4093 + 30011) + 7 * z) % 2147483563))) (dM x y z) :=
  c2_i (fun Q => c1_i (fun Q => c2_i (fun Q => c2_i (fun Q => rfl) (fun Q => c2_i (fun Q => c2_i (fun Q => c1_i (fun Q => rfl) pInt_i) (fun Q => rfl) (pMod_i (by decide))) (fun Q => rfl) pAdd_i) (pMul_i (bMul_l (by omega)))) (fun Q => c2_i (fun Q => rfl) (fun Q => bx2) (pMul_i (bMul_l (by decide)))) pAdd_i) pInt_i) (fun Q => rfl) (pMod_i (by decide))
theorem last_ev (hm : 0 < many) : (c2 false pMod (c1 false pInt (c2 false pFdiv (bx 1) (ci 733))) (cVar 1)) (dE many e2 e3) (dM x y z) Q = Q (.p (.int (y / 733 % many))) (dM x y z) :=
  c2_i (fun Q => c1_i (fun Q => c2_i (fun Q => bx1) (fun Q => rfl) (pFdiv_i (bDiv_ok (by decide) (by decide)))) pInt_i) (fun Q => rfl) (pMod_i hm)
theorem divm_ev (hm : 0 < many) (hm2 : many ≤ 1000000) : cDivm (bx 0) (cVar 1) (dE many e2 e3) (dM x y z) Q = Q (.tup [.p (.int (x / many)), .p (.int (x % many))]) (dM x y z) := by
  show (if decide (0 < many) && decide (many < 1073741824) then _ else _) = _
  rw [if_pos (by rw [Bool.and_eq_true]; exact ⟨decide_eq_true hm, decide_eq_true (by omega)⟩)]
theorem put2 {v : Int} {k : Env → Mem → Bool} : gSub (cVar 0) (ci 2) (.p (.int v)) (dE many e2 e3) (dM x y z) k = k (dE many e2 e3) (dM x y v) := rfl
theorem put1 {v : Int} {k : Env → Mem → Bool} : gSub (cVar 0) (ci 1) (.p (.int v)) (dE many e2 e3) (dM x y z) k = k (dE many e2 e3) (dM x v z) := rfl
theorem nm3 {d : D} {m : Mem} {k : Env → Mem → Bool} : gNm 3 d (dE many e2 e3) m k = k (dE many e2 (some d)) m := rfl
theorem asg_ev {g : CG} {e : CE} {env : Env} {m m1 : Mem} {d : D} (h : ∀ Q, e env m Q = Q d m1) : sAsgG g e De env m = g d env m1 De.nx := by
  unfold sAsgG
  rw [h]
theorem draw_run (hx : 0 ≤ x) (hy : 0 ≤ y) (hy2 : y < 2147483563) (hz : 0 ≤ z) (hm : 0 < many) (hm2 : many ≤ 1000000) :
    callOf 2 4 drawB [.ref 0, .p (.int many)] (dM x y z) (drawQ many) = true := by
  show drawB { nx := fun _ m1 => retOf 1 (drawQ many) (.p .non) m1, rt := retOf 1 (drawQ many), bk := fun _ _ => false, ct := fun _ _ => false } (dE many none none) (dM x y z) = true
  unfold drawB
  have hif : ∀ (A B : CS) (D : En), sIf (cTest (c2 false pGt (bx 0) (ci 0))) A B D (dE many none none) (dM x y z) = if decide (0 < x) then A D (dE many none none) (dM x y z) else B D (dE many none none) (dM x y z) := fun A B D => by
    show cTest (c2 false pGt (bx 0) (ci 0)) (dE many none none) (dM x y z) (fun k m1 => if k then A D (dE many none none) m1 else B D (dE many none none) m1) = _
    unfold cTest
    rw [c2_i (r := .bl (decide (0 < x))) (fun Q => bx0) (fun Q => rfl) rfl]
  unfold sSeq
  rw [hif]
  by_cases hp : 0 < x
  · rw [if_pos (decide_eq_true hp)]
    rw [asg_ev (fun Q => divm_ev hm hm2)]
    have a := mod_rng (i := x) hm
    have b : 0 ≤ x / many := Int.ediv_nonneg hx (by omega)
    show (decide (0 ≤ x % many) && decide (x % many < many) && decide (0 ≤ x / many) && decide (0 ≤ y) && decide (y < 2147483563) && decide (0 ≤ z)) = true
    simp only [Bool.and_eq_true, decide_eq_true_eq]
    exact ⟨⟨⟨⟨⟨a.1, a.2⟩, b⟩, hy⟩, hy2⟩, hz⟩
  · rw [if_neg (by simpa using hp)]
    have hx0 : x = 0 := by omega
    subst hx0
    unfold sNil
    dsimp only
    rw [asg_ev (e := c2 false pAdd (bx 2) (ci 1)) (fun Q => c2_i (fun Q => bx2) (fun Q => rfl) pAdd_i)]
    rw [put2]
    dsimp only
    rw [asg_ev (fun Q => turn_ev)]
    have ht := mod_rng (i := y * 39373 + 17011 * (z + 1)) (c := 2147483563) (by decide)
    generalize (y * 39373 + 17011 * (z + 1)) % 2147483563 = t at ht ⊢
    rw [nm3]
    dsimp only
    rw [asg_ev (fun Q => stir_ev ht.1 ht.2)]
    have hs := mod_rng (i := t * (t % 4093 + 30011) + 7 * (z + 1)) (c := 2147483563) (by decide)
    generalize (t * (t % 4093 + 30011) + 7 * (z + 1)) % 2147483563 = s at hs ⊢
    rw [put1]
    unfold sRet
    dsimp only
    rw [last_ev hm]
    have a := mod_rng (i := s / 733) hm
    show (decide (0 ≤ s / 733 % many) && decide (s / 733 % many < many) && decide (0 ≤ (0 : Int)) && decide (0 ≤ s) && decide (s < 2147483563) && decide (0 ≤ z + 1)) = true
    simp only [Bool.and_eq_true, decide_eq_true_eq]
    exact ⟨⟨⟨⟨⟨a.1, a.2⟩, Int.le_refl 0⟩, hs.1⟩, hs.2⟩, by omega⟩
end

theorem draw_imp {W : Wd} : ∀ vs H Q E, spOf W 2 drawC vs H Q E → spOf W 2 (callOf 2 4 drawB) vs H Q E := by
  rintro vs H Q E ⟨hl, F, M, ds, mem, Qb, st, r, hc, k⟩
  refine ⟨hl, ?_⟩
  unfold drawC at hc
  split at hc
  · rename_i n many
    split at hc
    · rename_i eb
      rw [Bool.and_eq_true, Bool.and_eq_true] at hc
      obtain ⟨⟨hm, hm2⟩, ha⟩ := hc
      have hm := of_decide_eq_true hm
      have hm2 := of_decide_eq_true hm2
      obtain ⟨v, r', e1, ⟨a, hn, e2⟩, v2, r2, e4, e5, e6⟩ := r
      have e6 : r2 = [] := e6
      subst e1 e2 e4 e6
      obtain ⟨ws, hH, x, y, z, e7, hx, hy, hy2, hz⟩ := st.cell n a _ hn eb
      subst e7
      have hcell : CellR W F H a (.lst [.int x, .int y, .int z]) := ⟨_, by rw [sizeLine_eq]; exact (by decide : 3 ≤ 16777216), hH, _, _, rfl, rfl, _, _, rfl, rfl, _, _, rfl, rfl, rfl⟩
      refine ⟨F, [a], [.ref 0, .p (.int many)], [.lst [.int x, .int y, .int z]], drawQ many, frame1 st hn hcell, ⟨_, _, rfl, ⟨a, rfl, rfl⟩, _, _, rfl, e5, rfl⟩, draw_run hx hy hy2 hz hm hm2, fun v H' d mem' s st' rd q => ?_⟩
      unfold drawQ at q
      split at q
      · rename_i rr x' y' z'
        simp only [Bool.and_eq_true, decide_eq_true_eq] at q
        obtain ⟨⟨⟨⟨⟨q1, q2⟩, q3⟩, q4⟩, q5⟩, q6⟩ := q
        obtain ⟨s2, st2⟩ := unframe1 st hn eb s st' fun hcl => by
          obtain ⟨us, _, hH', u1, r1, w1, w2, u2, r2, w3, w4, u3, r3, w5, w6, w7⟩ := hcl
          have w2 : u1 = .int x' := w2
          have w4 : u2 = .int y' := w4
          have w6 : u3 = .int z' := w6
          have w7 : r3 = [] := w7
          subst w1 w2 w3 w4 w5 w6 w7
          exact ⟨_, hH', x', y', z', rfl, q3, q4, q5, q6⟩
        have hr := allLt_get ha (i := rr.toNat) (by omega)
        have er : ((rr.toNat : Nat) : Int) = rr := Int.toNat_of_nonneg q1
        rw [er] at hr
        exact k v H' (.p (.int rr)) mem s2 st2 rd hr
      · cases q
    · cases hc
  · cases hc

/-! ### the bowl -/
def isInts : List P → Bool
  | [] => true
  | .int _ :: r => isInts r
  | _ => false
theorem isInts_get : ∀ {xs : List P} {x : P}, isInts xs = true → x ∈ xs → ∃ i, x = .int i
  | .int i :: r, x, h, hx => by
    rcases List.mem_cons.mp hx with e | e
    · exact ⟨i, e⟩
    · exact isInts_get (xs := r) h e
def bowlC : CC := fun ds m Q => match ds with
  | [.p (.ins c xs), .p (.int k)] => decide (c = scrC) && isInts xs && decide (0 ≤ k) && decide (k ≤ 2) && Q (.ref m.length) (m ++ [.bowl])
  | _ => false
theorem bowlC_len (ds : List D) (m : Mem) (Q : KD) (h : bowlC ds m Q = true) : ds.length = 2 := by
  unfold bowlC at h
  split at h
  · rfl
  · cases h
def bowlL : CS := sSeq (sAsgG (gNm 2) (c2 false pMod (c1 false pInt (c2 false pAdd (c2 false pAdd (c2 false pMul (cVar 2) (ci 48611)) (c2 false pMul (c2 false pMod (c1 false pInt (cVar 3)) (ci 2147483053)) (ci 19))) (ci 41))) (ci 2147483563))) sNil
def bowlB : CS :=
  sSeq (sAsgG (gNm 2) (c2 false pAdd (ci 771041) (c2 false pMul (ci 8819) (cVar 1))))
  (sSeq (sFor (iV (cCut false (cVar 0) oNo (oSome (ci 9)))) (.n 3) bowlL)
  (sSeq (sAsgG (gNm 4) (cIf (cTest (c2 false pLt (cVar 1) (c1 false pLen (cVar 0)))) (c1 false pInt (c2 false pIx (cVar 0) (cVar 1))) (ci 0)))
  (sSeq (sAsgG (gNm 2) (c2 false pMod (c1 false pInt (c2 false pAdd (c2 false pAdd (c2 false pMul (cVar 2) (ci 53)) (c2 false pMul (c2 false pMod (cVar 4) (ci 2147483053)) (ci 27011))) (ci 11))) (ci 2147483563)))
  (sSeq (sRet (cLst true (aCons (cIf (kOr (cTest (c2 false pLt (cVar 4) (ci 0))) (cTest (c2 false pGe (cVar 4) (c2 false pPow (ci 10) (ci 16))))) (c1 false pAbs (cVar 4)) (ci 0)) (aCons (cVar 2) (aCons (ci 0) aNil))))) sNil))))
def bowlQ : KD := fun d m => match d, m with
  | .ref 0, [.lst [.int x, .int y, .int z]] => decide (0 ≤ x) && decide (0 ≤ y) && decide (y < 2147483563) && decide (0 ≤ z)
  | _, _ => false
section
variable {xs ys : List P} {k stir own : Int} {e2 e3 e4 : Option D} {De : En} {Q : KD}
abbrev wE (xs : List P) (k : Int) (e2 e3 e4 : Option D) : Env := [some (.p (.ins scrC xs)), some (.p (.int k)), e2, e3, e4]
theorem wv0 : cVar 0 (wE xs k e2 e3 e4) [] Q = Q (.p (.ins scrC xs)) [] := rfl
theorem wv1 : cVar 1 (wE xs k e2 e3 e4) [] Q = Q (.p (.int k)) [] := rfl
theorem wv2 {d : D} : cVar 2 (wE xs k (some d) e3 e4) [] Q = Q d [] := rfl
theorem wv3 {d : D} : cVar 3 (wE xs k e2 (some d) e4) [] Q = Q d [] := rfl
theorem wv4 {d : D} : cVar 4 (wE xs k e2 e3 (some d)) [] Q = Q d [] := rfl
theorem wn2 {d : D} {kk : Env → Mem → Bool} : gNm 2 d (wE xs k e2 e3 e4) [] kk = kk (wE xs k (some d) e3 e4) [] := rfl
theorem wn4 {d : D} {kk : Env → Mem → Bool} : gNm 4 d (wE xs k e2 e3 e4) [] kk = kk (wE xs k e2 e3 (some d)) [] := rfl
theorem small64 {a b c : Int} (h : 0 ≤ a) (h2 : a < b) (hb : b ≤ 2147483563) : bMul a c = true := bMul_l (by omega)
theorem bowl_loop (hn : ∀ stir e3, 0 ≤ stir → stir < 2147483563 → De.nx (wE xs k (some (.p (.int stir))) e3 e4) [] = true) : ∀ {ys : List P} {stir : Int} {e3 : Option D}, isInts ys = true → 0 ≤ stir → stir < 2147483563 →
    forGo (.n 3) bowlL De ys (wE xs k (some (.p (.int stir))) e3 e4) [] = true
  | [], stir, e3, _, h0, h1 => hn stir e3 h0 h1
  | .int i :: r, stir, e3, hi, h0, h1 => by
    show bowlL { De with nx := forGo (.n 3) bowlL De r, ct := forGo (.n 3) bowlL De r, bk := De.nx } (wE xs k (some (.p (.int stir))) (some (.p (.int i))) e4) [] = true
    have hm := mod_rng (i := i) (c := 2147483053) (by decide)
    have hs := mod_rng (i := stir * 48611 + i % 2147483053 * 19 + 41) (c := 2147483563) (by decide)
    unfold bowlL sSeq
    rw [asg_ev (d := .p (.int ((stir * 48611 + i % 2147483053 * 19 + 41) % 2147483563))) (m1 := []) fun Q =>
      c2_i (fun Q => c1_i (fun Q => c2_i (fun Q => c2_i (fun Q => c2_i (fun Q => wv2) (fun Q => rfl) (pMul_i (bMul_r (by decide)))) (fun Q => c2_i (fun Q => c2_i (fun Q => c1_i (fun Q => wv3) pInt_i) (fun Q => rfl) (pMod_i (by decide))) (fun Q => rfl) (pMul_i (bMul_r (by decide)))) pAdd_i) (fun Q => rfl) pAdd_i) pInt_i) (fun Q => rfl) (pMod_i (by decide))]
    rw [wn2]
    exact bowl_loop hn (ys := r) hi hs.1 hs.2
theorem isInts_cut {lo hi : Option Int} : isInts xs = true → isInts (cutP xs lo hi) = true := by
  have key : ∀ {ys : List P}, (∀ y ∈ ys, ∃ i, y = .int i) → isInts ys = true := by
    intro ys
    induction ys with
    | nil => intro _; rfl
    | cons y r ih =>
      intro h
      obtain ⟨i, e⟩ := h y List.mem_cons_self
      subst e
      exact ih fun z hz => h z (List.mem_cons_of_mem _ hz)
  intro h
  exact key fun y hy => isInts_get h (cutP_mem hy)
theorem cIf_ev {t : CT} {a b : CE} {env : Env} {m : Mem} {c : Bool} {d : D} (ht : ∀ Q, t env m Q = Q c m) (h : ∀ Q, (if c then a env m Q else b env m Q) = Q d m) : cIf t a b env m Q = Q d m := by
  unfold cIf
  rw [ht]
  exact h Q
theorem cTest_ev {a : CE} {env : Env} {m : Mem} {c : Bool} {Qt : KB} (h : ∀ Q, a env m Q = Q (.p (.bl c)) m) : cTest a env m Qt = Qt c m := by
  unfold cTest
  rw [h]
theorem kOr_ev {a b : CT} {env : Env} {m : Mem} {x y : Bool} {Qt : KB} (ha : ∀ Q, a env m Q = Q x m) (hb : ∀ Q, b env m Q = Q y m) : kOr a b env m Qt = Qt (x || y) m := by
  unfold kOr
  rw [ha]
  cases x with
  | true => rfl
  | false => exact hb _
theorem bowl_run (hx : isInts xs = true) (hk : 0 ≤ k) (hk2 : k ≤ 2) : callG 2 5 bowlB [.p (.ins scrC xs), .p (.int k)] [] bowlQ = true := by
  show bowlB { nx := fun _ m1 => bowlQ (.p .non) m1, rt := bowlQ, bk := fun _ _ => false, ct := fun _ _ => false } (wE xs k none none none) [] = true
  unfold bowlB sSeq
  rw [asg_ev (d := .p (.int (771041 + 8819 * k))) (m1 := []) fun Q => c2_i (fun Q => rfl) (fun Q => c2_i (fun Q => rfl) (fun Q => wv1) (pMul_i (bMul_l (by decide)))) pAdd_i]
  rw [wn2]
  dsimp only
  have hcut : ∀ (R : List P → Mem → Bool), iV (cCut false (cVar 0) oNo (oSome (ci 9))) (wE xs k (some (.p (.int (771041 + 8819 * k)))) none none) [] R = R (cutP xs none (some 9)) [] := fun R => rfl
  unfold sFor
  rw [hcut]
  refine bowl_loop (fun stir e3 h0 h1 => ?_) (isInts_cut hx) (by omega) (by omega)
  dsimp only
  have hlen : ∀ Q, c1 false pLen (cVar 0) (wE xs k (some (.p (.int stir))) e3 none) [] Q = Q (.p (.int xs.length)) [] := fun Q => c1_i (fun Q => wv0) rfl
  have hown : ∃ own : Int, ∀ Q, cIf (cTest (c2 false pLt (cVar 1) (c1 false pLen (cVar 0)))) (c1 false pInt (c2 false pIx (cVar 0) (cVar 1))) (ci 0) (wE xs k (some (.p (.int stir))) e3 none) [] Q = Q (.p (.int own)) [] := by
    by_cases hl : k < xs.length
    · have hj : k.toNat < xs.length := by omega
      obtain ⟨i, ei⟩ := isInts_get hx (List.getElem_mem hj)
      have hat : atI xs k = some (.int i) := by
        unfold atI ixN
        rw [if_pos hk, if_pos hl]
        show xs[k.toNat]? = _
        rw [List.getElem?_eq_getElem hj, ei]
      refine ⟨i, fun Q => cIf_ev (c := true) (fun Q => cTest_ev fun Q => c2_i (fun Q => wv1) hlen (by show some (P.bl (decide (k < (xs.length : Int)))) = _; rw [decide_eq_true hl])) fun Q => ?_⟩
      rw [if_pos rfl]
      refine c1_i (fun Q => c2_i (p := .ins scrC xs) (q := .int k) (r := .int i) (fun Q => wv0) (fun Q => wv1) ?_) pInt_i
      show (if scrC = scrC then noL (atI xs k) else none) = _
      rw [if_pos rfl, hat]
      rfl
    · refine ⟨0, fun Q => cIf_ev (c := false) (fun Q => cTest_ev fun Q => c2_i (fun Q => wv1) hlen (by show some (P.bl (decide (k < (xs.length : Int)))) = _; rw [decide_eq_false hl])) fun Q => ?_⟩
      rw [if_neg Bool.false_ne_true]
      rfl
  obtain ⟨own, hown⟩ := hown
  rw [asg_ev hown, wn4]
  dsimp only
  rw [asg_ev (d := .p (.int ((stir * 53 + own % 2147483053 * 27011 + 11) % 2147483563))) (m1 := []) fun Q =>
    c2_i (fun Q => c1_i (fun Q => c2_i (fun Q => c2_i (fun Q => c2_i (fun Q => wv2) (fun Q => rfl) (pMul_i (bMul_r (by decide)))) (fun Q => c2_i (fun Q => c2_i (fun Q => wv4) (fun Q => rfl) (pMod_i (by decide))) (fun Q => rfl) (pMul_i (bMul_r (by decide)))) pAdd_i) (fun Q => rfl) pAdd_i) pInt_i) (fun Q => rfl) (pMod_i (by decide))]
  rw [wn2]
  dsimp only
  have hs := mod_rng (i := stir * 53 + own % 2147483053 * 27011 + 11) (c := 2147483563) (by decide)
  generalize (stir * 53 + own % 2147483053 * 27011 + 11) % 2147483563 = t at hs ⊢
  have hfirst : ∃ x : Int, 0 ≤ x ∧ ∀ Q, cIf (kOr (cTest (c2 false pLt (cVar 4) (ci 0))) (cTest (c2 false pGe (cVar 4) (c2 false pPow (ci 10) (ci 16))))) (c1 false pAbs (cVar 4)) (ci 0) (wE xs k (some (.p (.int t))) e3 (some (.p (.int own)))) [] Q = Q (.p (.int x)) [] := by
    have hor : ∀ Q, kOr (cTest (c2 false pLt (cVar 4) (ci 0))) (cTest (c2 false pGe (cVar 4) (c2 false pPow (ci 10) (ci 16)))) (wE xs k (some (.p (.int t))) e3 (some (.p (.int own)))) [] Q = Q (decide (own < 0) || decide (10000000000000000 ≤ own)) [] := fun Q =>
      kOr_ev (fun Q => cTest_ev fun Q => c2_i (fun Q => wv4) (fun Q => rfl) rfl) (fun Q => cTest_ev fun Q => c2_i (fun Q => wv4) (fun Q => c2_i (r := .int 10000000000000000) (fun Q => rfl) (fun Q => rfl) (by kernel_rfl)) rfl)
    cases hc : (decide (own < 0) || decide (10000000000000000 ≤ own)) with
    | true =>
      refine ⟨if own < 0 then -own else own, by split <;> omega, fun Q => cIf_ev (c := true) (fun Q => by rw [hor, hc]) fun Q => ?_⟩
      rw [if_pos rfl]
      exact c1_i (fun Q => wv4) rfl
    | false =>
      refine ⟨0, Int.le_refl 0, fun Q => cIf_ev (c := false) (fun Q => by rw [hor, hc]) fun Q => ?_⟩
      rw [if_neg Bool.false_ne_true]
      rfl
  obtain ⟨x, hx0, hfirst⟩ := hfirst
  unfold sRet cLst aCons
  dsimp only
  rw [hfirst]
  show (decide (0 ≤ x) && decide (0 ≤ t) && decide (t < 2147483563) && decide (0 ≤ (0 : Int))) = true
  simp only [Bool.and_eq_true, decide_eq_true_eq]
  exact ⟨⟨⟨hx0, hs.1⟩, hs.2⟩, Int.le_refl 0⟩
end
theorem bowl_imp {W : Wd} : ∀ vs H Q E, spOfG W 2 bowlC vs H Q E → spOfG W 2 (callG 2 5 bowlB) vs H Q E := by
  rintro vs H Q E ⟨hl, F, M, ds, mem, Qb, st, r, hc, k⟩
  refine ⟨hl, ?_⟩
  unfold bowlC at hc
  split at hc
  · rename_i c xs n
    simp only [Bool.and_eq_true, decide_eq_true_eq] at hc
    obtain ⟨⟨⟨⟨h1, h2⟩, h3⟩, h4⟩, h5⟩ := hc
    subst h1
    obtain ⟨v, r', e1, e2, v2, r2, e4, e5, e6⟩ := r
    have e6 : r2 = [] := e6
    subst e1 e4 e6
    refine ⟨F, [], [.p (.ins scrC xs), .p (.int n)], [], bowlQ, frame0 st, ⟨_, _, rfl, e2, _, _, rfl, e5, rfl⟩, bowl_run h2 h3 h4, fun v H' F' M' d mem' s st' rd q => ?_⟩
    unfold bowlQ at q
    split at q
    · rename_i x y z
      simp only [Bool.and_eq_true, decide_eq_true_eq] at q
      obtain ⟨⟨⟨q1, q2⟩, q3⟩, q4⟩ := q
      obtain ⟨a, ea, ev⟩ := rd
      have eM : M' = [a] := by
        have := st'.len
        cases M' with
        | nil => cases ea
        | cons b t =>
          cases t with
          | nil => cases ea; rfl
          | cons _ _ => simp at this
      subst eM
      obtain ⟨s2, st2⟩ := unframe0 (c := .bowl) st s st' fun hcl => by
        obtain ⟨us, _, hH', u1, r1, w1, w2, u2, r2, w3, w4, u3, r3, w5, w6, w7⟩ := hcl
        have w2 : u1 = .int x := w2
        have w4 : u2 = .int y := w4
        have w6 : u3 = .int z := w6
        have w7 : r3 = [] := w7
        subst w1 w2 w3 w4 w5 w6 w7
        exact ⟨_, hH', x, y, z, rfl, q1, q2, q3, q4⟩
      refine k v H' F' (M ++ [a]) (.ref mem.length) (mem ++ [.bowl]) s2 st2 ⟨a, ?_, ev⟩ h5
      rw [← st.len, List.getElem?_append_right (Nat.le_refl _), Nat.sub_self] <;> rfl
    · cases q
  · cases hc

/-! ### the law -/
def lawB : CS :=
  sSeq (sRet (c1 false pAll (cLc false [1] (iR1 (c2 false pMax2 (ci 1) (c2 false pMin2 (c1 false pLen (cVar 0)) (ci 3)))) (.n 1) kYes (cTrunc (cCall rightC (aCons (cCall bowlC (aCons (cVar 0) (aCons (cVar 1) aNil))) aNil)))))) sNil
theorem law_run {xs : List P} {Q : KD} (hx : isInts xs = true) (hq : Q (.p (.bl true)) [] = true) : callOf 1 2 lawB [.p (.ins scrC xs)] [] Q = true := by
  have key : ∀ (n : Int), (n = 1 ∨ n = 2 ∨ n = 3) → (∀ (env : Env) (R : List P → Mem → Bool), env[0]? = some (some (.p (.ins scrC xs))) → iR1 (c2 false pMax2 (ci 1) (c2 false pMin2 (c1 false pLen (cVar 0)) (ci 3))) env [] R = R (rangeP 0 n.toNat) []) →
      callOf 1 2 lawB [.p (.ins scrC xs)] [] Q = true := by
    intro n hn hr
    show (c1 false pAll (cLc false [1] (iR1 (c2 false pMax2 (ci 1) (c2 false pMin2 (c1 false pLen (cVar 0)) (ci 3)))) (.n 1) kYes (cTrunc (cCall rightC (aCons (cCall bowlC (aCons (cVar 0) (aCons (cVar 1) aNil))) aNil))))) [some (.p (.ins scrC xs)), none] [] (retOf 0 Q) = true
    show cLc false [1] (iR1 (c2 false pMax2 (ci 1) (c2 false pMin2 (c1 false pLen (cVar 0)) (ci 3)))) (.n 1) kYes (cTrunc (cCall rightC (aCons (cCall bowlC (aCons (cVar 0) (aCons (cVar 1) aNil))) aNil))) [some (.p (.ins scrC xs)), none] []
      (fun x m1 => match look m1 x with
        | some x => (match pAll x with
          | some z => out false z m1 (retOf 0 Q)
          | none => false)
        | none => false) = true
    unfold cLc
    rw [hr _ _ rfl]
    have lap : ∀ (i : Int) (Q' : KD), (0 ≤ i) → (i ≤ 2) → cTrunc (cCall rightC (aCons (cCall bowlC (aCons (cVar 0) (aCons (cVar 1) aNil))) aNil)) [some (.p (.ins scrC xs)), some (.p (.int i))] [] Q' = Q' (.p (.bl true)) [] := by
      intro i Q' h0 h1
      show (decide (scrC = scrC) && isInts xs && decide (0 ≤ i) && decide (i ≤ 2) && Q' (.p (.bl true)) []) = _
      rw [hx, decide_eq_true h0, decide_eq_true h1]
      rfl
    have step : ∀ (i : Int) (r : List P) (n : Nat) (acc : List P) (QQ : List P → Mem → Bool), 0 ≤ i → i ≤ 2 → Nat.ble n 1000000 = true →
        lcGo (.n 1) kYes (cTrunc (cCall rightC (aCons (cCall bowlC (aCons (cVar 0) (aCons (cVar 1) aNil))) aNil))) [some (.p (.ins scrC xs)), none] 0 QQ (.int i :: r) [] n acc =
          lcGo (.n 1) kYes (cTrunc (cCall rightC (aCons (cCall bowlC (aCons (cVar 0) (aCons (cVar 1) aNil))) aNil))) [some (.p (.ins scrC xs)), none] 0 QQ r [] (n + 1) (.bl true :: acc) := by
      intro i r n acc QQ h0 h1 h2
      have h := lap i (fun y m2 => match y with
        | .p v => if Nat.beq m2.length 0 && Nat.ble n 1000000 then lcGo (.n 1) kYes (cTrunc (cCall rightC (aCons (cCall bowlC (aCons (cVar 0) (aCons (cVar 1) aNil))) aNil))) [some (.p (.ins scrC xs)), none] 0 QQ r m2 (n + 1) (v :: acc) else false
        | _ => false) h0 h1
      rw [lcGo]
      refine Eq.trans h ?_
      show (if Nat.beq 0 0 && Nat.ble n 1000000 then _ else false) = _
      rw [h2]
      rfl
    rcases hn with e | e | e
    · subst e
      show lcGo (.n 1) kYes _ [some (.p (.ins scrC xs)), none] 0 _ [.int 0] [] 0 [] = true
      rw [step 0 _ _ _ _ (by decide) (by decide) rfl]
      exact hq
    · subst e
      show lcGo (.n 1) kYes _ [some (.p (.ins scrC xs)), none] 0 _ [.int 0, .int 1] [] 0 [] = true
      rw [step 0 _ _ _ _ (by decide) (by decide) rfl, step 1 _ _ _ _ (by decide) (by decide) rfl]
      exact hq
    · subst e
      show lcGo (.n 1) kYes _ [some (.p (.ins scrC xs)), none] 0 _ [.int 0, .int 1, .int 2] [] 0 [] = true
      rw [step 0 _ _ _ _ (by decide) (by decide) rfl, step 1 _ _ _ _ (by decide) (by decide) rfl, step 2 _ _ _ _ (by decide) (by decide) rfl]
      exact hq
  have hlen : ∀ (env : Env) Q, env[0]? = some (some (.p (.ins scrC xs))) → c1 false pLen (cVar 0) env [] Q = Q (.p (.int xs.length)) [] := fun env Q he => c1_i (p := .ins scrC xs) (fun Q => by unfold cVar; rw [he]) rfl
  refine key (if (if (3 : Int) < xs.length then (3 : Int) else xs.length) > 1 then (if (3 : Int) < xs.length then (3 : Int) else xs.length) else 1) (by split <;> split <;> omega) fun env R he => ?_
  unfold iR1
  rw [c2_i (r := .int (if (if (3 : Int) < xs.length then (3 : Int) else xs.length) > 1 then (if (3 : Int) < xs.length then (3 : Int) else xs.length) else 1)) (fun Q => rfl) (fun Q => c2_i (fun Q => hlen env Q he) (fun Q => rfl) rfl) rfl]
  have hb : bRng (if (if (3 : Int) < xs.length then (3 : Int) else xs.length) > 1 then (if (3 : Int) < xs.length then (3 : Int) else xs.length) else 1) = true := by
    unfold bRng
    simp only [Bool.and_eq_true, decide_eq_true_eq]
    constructor <;> split <;> (try split) <;> omega
  show (if bRng _ then _ else false) = _
  rw [if_pos hb]
end MP
/-! MQC: what the end of a law's proof uses. -/
namespace MP
open PySem L2
open PySem.Spec PyProof.Rows
section
variable {W : Wd} {Pg : Program} {w : World} {K : PySem.W.Frag} {mg : Str → Option Value} {base : Heap} {x : Str}
theorem GF.up {j k : Nat} {g : GE} (h : GF W Pg w K mg base j x g) (hj : j ≤ k) : GF W Pg w K mg base k x g := by
  cases g with
  | blt => exact h
  | cst p => exact h
  | fn ps kwl C =>
    obtain ⟨f, fd, i, hi, r⟩ := h
    exact ⟨f, fd, i, Nat.le_trans hi hj, r⟩
  | fnG ps C =>
    obtain ⟨f, fd, i, hi, r⟩ := h
    exact ⟨f, fd, i, Nat.le_trans hi hj, r⟩
/-- atoms that stand in a written tuple -/
def atomV : P → Option V
  | .int i => some (.int i)
  | .str s => if okStr s then some (.str (mkS s)) else none
  | .bl b => some (.bl b)
  | .non => some .non
  | _ => none
def atomsV : List P → Option (List V)
  | [] => some []
  | p :: r => match atomV p, atomsV r with
    | some v, some vs => some (v :: vs)
    | _, _ => none
theorem atomV_ok {F : Addr → Prop} {H : Hp} {p : P} {v : V} (h : atomV p = some v) : RepP W F H p v := by
  unfold atomV at h
  split at h
  · cases h; rfl
  · split at h
    · rename_i ho
      cases h; exact ⟨rfl, ho⟩
    · cases h
  · cases h; rfl
  · cases h; rfl
  · cases h
theorem atomsV_ok {F : Addr → Prop} {H : Hp} : ∀ {ps : List P} {vs : List V}, atomsV ps = some vs → RepPs W F H ps vs
  | [], vs, h => by cases h; rfl
  | p :: r, vs, h => by
    unfold atomsV at h
    split at h
    · rename_i v vs' e1 e2
      cases h
      exact ⟨v, vs', rfl, atomV_ok e1, atomsV_ok e2⟩
    · cases h
theorem cst_tup {K' : PySem.W.Frag} {j : Nat} {t : Addr} {its : Array Value} {n : Nat} {sl : Array (Option Value)} {ps : List P} {vs : List V} (hm : mg x = some (.ref t)) (hl : W.K.lookup t = some ⟨.type "tuple", none, .seq its n, sl⟩)
    (hv : Vals vs its.toList) (hz : vs.length ≤ 1000) (hp : atomsV ps = some vs) : GF W Pg w K' mg base j x (GE.cst (.tup ps)) := by
  have hz2 : vs.length ≤ sizeLine := small_line (by omega)
  have hs : its.size ≤ sizeLine := by
    have e : vs.length = its.size := (Vals.length hv).trans Array.length_toList
    rw [← e]
    exact hz2
  exact ⟨_, .ref t, hm, rfl, fun F H => ⟨t, vs, rfl, ⟨hz2, .inr ⟨_, its, n, hl, rfl, rfl, rfl, hs, hv⟩⟩, atomsV_ok hp⟩⟩
theorem kwOk_of {xx qual : Str} {st : Stmt} {f : Addr} {fd : FuncData} {ps ks : List Str} {ix : List Nat} (F : Fun K xx qual st f fd) (hl : ks.length = ps.length)
    (h : ∀ (kV doc pm : Value) (an : Option Addr) (cdv ct : Value) (ws : List Value), ws.length = ps.length → bindArgs (PySem.W.fnOf xx qual (defArgs st) (defBody st) (defScope st) .none kV doc pm an cdv ct) ⟨[], ks.zip ws⟩ = pure (ps.zip (permL ix ws)) ∧ (permL ix ws).length = ps.length) : KwOk K fd ps ks ix := by
  obtain ⟨oc, od, kV, doc, pm, an, cdv, ct, osl, rfl, lk, hcd⟩ := F.ex
  refine ⟨hl, fun s ws _ hw => ?_⟩
  obtain ⟨h1, h2⟩ := h kV doc pm an cdv ct ws hw
  exact ⟨.of_eq h1, h2⟩
theorem one_kw {fd : FuncData} {ps ks : List Str} {ix : List Nat} (h : KwOk K fd ps ks ix) : ∀ q ∈ [(ks, ix)], KwOk K fd ps q.1 q.2 := fun q hq => by
  rw [List.mem_singleton] at hq
  rw [hq]
  exact h
def kwAll (K : PySem.W.Frag) (fd : FuncData) (ps : List Str) : List (List Str × List Nat) → Prop
  | [] => True
  | (ks, ix) :: r => KwOk K fd ps ks ix ∧ kwAll K fd ps r
theorem many_kw {fd : FuncData} {ps : List Str} : ∀ {l : List (List Str × List Nat)}, kwAll K fd ps l → ∀ q ∈ l, KwOk K fd ps q.1 q.2
  | (ks, ix) :: r, h, q, hq => by
    rcases List.mem_cons.mp hq with e | e
    · rw [e]; exact h.1
    · exact many_kw h.2 q e
theorem fn_false {f : Addr} {fd : FuncData} {ps : List Str} {k n : Nat} : FnOk Pg w K mg base CX0 k f fd ps (spOf W n fun _ _ _ => false) where
  len := fun vs H Q E h => by
    obtain ⟨_, F, M, ds, mem, Qb, _, _, h, _⟩ := h
    cases h
  run := fun A outer s H args us vs Q E _ _ _ _ h => by
    obtain ⟨_, F, M, ds, mem, Qb, _, _, h, _⟩ := h
    cases h
theorem isInts_map : ∀ ns : List Int, isInts (ns.map P.int) = true
  | [] => rfl
  | _ :: r => isInts_map r
theorem reps_ints {F : Addr → Prop} {H : Hp} : ∀ ns : List Int, RepPs W F H (ns.map P.int) (ns.map V.int)
  | [] => rfl
  | n :: r => ⟨_, _, rfl, rfl, reps_ints r⟩
theorem law_sp {H : Hp} {a : Addr} {ns : List Int} {E : XK} (hT : W.T = []) (hl : ns.length ≤ 63) (hO : Only H) (hS : SqL W.K H a (ns.map V.int)) : spOf W 1 (callOf 1 2 lawB) [.ref a] H (fun v _ => v = .bl true) E := by
  have st : StR W (fun _ => False) [] H [] := by
    refine ⟨fun _ h => h.elim, by simp, (by intro a h; cases h), rfl, (by intro i b d e; cases e), ?_, ?_⟩
    · rw [hT]
      exact fun p hp => nomatch hp
    · rw [hT]
      exact fun p hp => nomatch hp
  have hz : (ns.map V.int).length ≤ sizeLine := small_line (by rw [List.length_map]; omega)
  have hs : ScrAt W (fun _ => False) H a (ns.map V.int) := by
    refine ⟨hz, ?_⟩
    rcases hS with q | q
    · rcases q with q | ⟨o, q⟩
      · rcases hO a with e | ⟨o, xs, e⟩
        · rw [e] at q; cases q
        · rw [e] at q; cases q
      · exact .inl ⟨o, q, id⟩
    · exact .inr q
  refine ⟨rfl, _, [], [.p (.ins scrC (ns.map P.int))], [], fun d _ => samD d (.p (.bl true)), st, ⟨_, _, rfl, .inl ⟨rfl, a, _, rfl, hs, reps_ints ns⟩, rfl⟩, law_run (isInts_map ns) rfl, fun v H' d mem' s st' rd q => ?_⟩
  have e := samD_eq q
  subst e
  exact rd
end
end MP
/-! MQD: a def's answers by a table, each entry evaluated once. -/
namespace MP
open PySem L2
open PySem.Spec PyProof.Rows
/-- the last argument is looked at first -/
def keyEq : List P → List P → Bool
  | [], [] => true
  | x :: xs, y :: ys => keyEq xs ys && samP x y
  | _, _ => false
def tabGet (ks : List P) : List (List P × P) → Option P
  | [] => none
  | (k, r) :: t => if keyEq k ks then some r else tabGet ks t
def tabC (n : Nat) (tab : List (List P × P)) : CC := fun ds m Q => if ds.length = n then (match pures ds with
  | some ps => (match tabGet ps tab with
    | some r => Q (.p r) m
    | none => false)
  | none => false) else false
theorem tabC_len {n : Nat} {tab : List (List P × P)} (ds : List D) (m : Mem) (Q : KD) (h : tabC n tab ds m Q = true) : ds.length = n := by
  unfold tabC at h
  split at h
  · assumption
  · cases h
def tabOk (C : CC) : List (List P × P) → Bool
  | [] => true
  | (k, r) :: t => C (k.map D.p) [] (fun d m => samD d (.p r) && samM m []) && tabOk C t
theorem tabOk_app {C : CC} : ∀ {s t : List (List P × P)}, tabOk C s = true → tabOk C t = true → tabOk C (s ++ t) = true
  | [], t, _, h => h
  | (k, r) :: s, t, h1, h2 => by
    unfold tabOk at h1
    rw [Bool.and_eq_true] at h1
    show (C (k.map D.p) [] (fun d m => samD d (.p r) && samM m []) && tabOk C (s ++ t)) = true
    rw [Bool.and_eq_true]
    exact ⟨h1.1, tabOk_app h1.2 h2⟩
theorem keyEq_eq : ∀ {x y : List P}, keyEq x y = true → x = y
  | [], [], _ => rfl
  | x :: xs, y :: ys, h => by
    unfold keyEq at h
    rw [Bool.and_eq_true] at h
    rw [keyEq_eq h.1, samP_eq _ _ h.2]
  | [], _ :: _, h => by cases h
  | _ :: _, [], h => by cases h
theorem tabGet_ok {C : CC} {ks : List P} {r : P} : ∀ {t : List (List P × P)}, tabOk C t = true → tabGet ks t = some r → C (ks.map D.p) [] (fun d m => samD d (.p r) && samM m []) = true
  | (k, r') :: t, h, e => by
    unfold tabOk at h
    rw [Bool.and_eq_true] at h
    unfold tabGet at e
    split at e
    · rename_i hk
      cases e
      rw [← keyEq_eq hk]
      exact h.1
    · exact tabGet_ok h.2 e
theorem pures_map : ∀ {ds : List D} {ps : List P}, pures ds = some ps → ds = ps.map D.p
  | [], ps, h => by
    cases h
    rfl
  | .p x :: ds, ps, h => by
    unfold pures at h
    cases e : pures ds with
    | none => rw [e] at h; cases h
    | some qs =>
      rw [e] at h
      cases h
      rw [pures_map e]
      rfl
  | .ref _ :: _, _, h => by cases h
  | .tup _ :: _, _, h => by cases h
theorem unframeN {W : Wd} {F : Addr → Prop} {M : List Addr} {H H' : Hp} {mem : Mem} (st : StR W F M H mem) (s : Step F [] H F [] H') (st' : StR W F [] H' []) : Step F M H F M H' ∧ StR W F M H' mem := by
  refine ⟨⟨fun _ h => h, ⟨[], by simp, by simp⟩, s.kp, s.dm, fun x o h1 h2 h3 h4 => s.kf x o h1 (by simp) h3 h4⟩, ⟨fun b q => s.dm b (st.dom b q), st.nd, st.inF, st.len, fun i b d e1 e2 => ?_, st'.tab, st.tabF⟩⟩
  have hb := st.cell i b d e1 e2
  obtain ⟨o, eo, no⟩ := cell_tbl hb
  refine hb.kp s.kp fun u e => ?_
  rw [eo] at e
  cases e
  exact s.kf b o (st.inF b (List.mem_of_getElem? e1)) (by simp) no eo
theorem repDs_pure {W : Wd} {F : Addr → Prop} {M M' : List Addr} {H : Hp} : ∀ {ps : List P} {vs : List V}, RepDs W F M H (ps.map D.p) vs → RepDs W F M' H (ps.map D.p) vs
  | [], vs, h => h
  | p :: ps, vs, h => by
    obtain ⟨v, r, e, h1, h2⟩ := h
    exact ⟨v, r, e, h1, repDs_pure h2⟩
theorem tab_imp {W : Wd} {C : CC} {n : Nat} {tab : List (List P × P)} (h : tabOk C tab = true) : ∀ vs H Q E, spOf W n (tabC n tab) vs H Q E → spOf W n C vs H Q E := by
  rintro vs H Q E ⟨hl, F, M, ds, mem, Qb, st, r, hc, k⟩
  refine ⟨hl, ?_⟩
  unfold tabC at hc
  split at hc
  · split at hc
    · rename_i ps ep
      split at hc
      · rename_i z ez
        have ed := pures_map ep
        subst ed
        refine ⟨F, [], ps.map D.p, [], _, frame0 st, repDs_pure r, tabGet_ok h ez, fun v H' d mem' s st' rd q => ?_⟩
        rw [Bool.and_eq_true] at q
        have q1 := samD_eq q.1
        have q2 := samM_eq q.2
        subst q1 q2
        obtain ⟨s2, st2⟩ := unframeN st s st'
        exact k v H' (.p z) mem s2 st2 rd hc
      · cases hc
    · cases hc
  · cases hc
end MP
namespace K54
open PySem PySem.Spec PyProof.Rows L2 MP
def topS (i : Nat) : Stmt := PySem.Challenge.pw_turnedpairs_k54_whole_deals_counted.main.body.getD i (.Pass ⟨0, 0, 0, 0⟩)
abbrev s__law_draw : Stmt := topS 37
abbrev n__law_draw : List Str := ["bowl", "many", "figure", "turn"]
theorem sc__law_draw : FnScope n__law_draw ["bowl", "many"] (defScope s__law_draw) := ⟨rfl, rfl, rfl, by decide +kernel, rfl, by decide +kernel, by decide +kernel⟩
def g__law_draw : List (Str × GE) := [("divmod", GE.blt), ("int", GE.blt)]
theorem b__law_draw : body 60 ⟨n__law_draw, defScope s__law_draw, none, g__law_draw, [], []⟩ (defBody s__law_draw) = some drawB := by kernel_rfl
abbrev s__law_of : Stmt := topS 38
abbrev n__law_of : List Str := ["bowl", "some"]
theorem sc__law_of : FnScope n__law_of ["bowl", "some"] (defScope s__law_of) := ⟨rfl, rfl, rfl, by decide +kernel, rfl, by decide +kernel, by decide +kernel⟩
def g__law_of : List (Str × GE) := [("_law_draw", GE.fn ["bowl", "many"] [] drawC), ("len", GE.blt)]
def B__law_of : CS := (sSeq (sRet (c2 false pIx (cVar 1) (cCall drawC (aCons (cVar 0) (aCons (c1 false pLen (cVar 1)) aNil)))))
  sNil)
def C__law_of : CC := callOf 2 2 B__law_of
theorem b__law_of : body 60 ⟨n__law_of, defScope s__law_of, none, g__law_of, [], []⟩ (defBody s__law_of) = some B__law_of := by kernel_rfl
abbrev s__law_counted : Stmt := topS 44
abbrev n__law_counted : List Str := ["rows", "x", "k"]
theorem sc__law_counted : FnScope n__law_counted ["rows"] (defScope s__law_counted) := ⟨rfl, rfl, rfl, by decide +kernel, rfl, by decide +kernel, by decide +kernel⟩
def g__law_counted : List (Str × GE) := [("tuple", GE.blt), ("range", GE.blt), ("max", GE.blt), ("len", GE.blt)]
def B__law_counted : CS := (sSeq (sRet (c1 false pTup (cLc false [2] (iR1 (c2 false pAdd (c1 false pMaxL (cVar 0)) (cP (P.int 1)))) (Tg.n 2) kYes (c1 false pLen (cLc false [1] (iV (cVar 0)) (Tg.n 1) (cTest (c2 false (pEq false) (cVar 1) (cVar 2))) (cVar 1))))))
  sNil)
def C__law_counted : CC := callOf 1 3 B__law_counted
theorem b__law_counted : body 60 ⟨n__law_counted, defScope s__law_counted, none, g__law_counted, [], []⟩ (defBody s__law_counted) = some B__law_counted := by kernel_rfl
abbrev s__law_deals : Stmt := topS 41
abbrev n__law_deals : List Str := ["number", "found", "turn", "more", "each", "kind", "x"]
theorem sc__law_deals : FnScope n__law_deals ["number"] (defScope s__law_deals) := ⟨rfl, rfl, rfl, by decide +kernel, rfl, by decide +kernel, by decide +kernel⟩
def g__law_deals : List (Str × GE) := [("range", GE.blt), ("len", GE.blt)]
def B__law_deals : CS := (sSeq (sAsgG (gNm 1) (cLst false (aCons (cTup aNil) aNil)))
  (sSeq (sFor (iR1 (c2 false pMul (cP (P.int 2)) (cVar 0))) (Tg.n 2) (sSeq (sAsgG (gNm 3) (cLst false aNil))
  (sSeq (sFor (iV (cVar 1)) (Tg.n 4) (sSeq (sAsgG (gNm 3) (c2 false pAdd (cVar 3) (cLc false [5] (iV (cCut false (cP (P.str [97, 98, 99, 100, 101, 102, 103, 104])) oNo (oSome (cVar 0)))) (Tg.n 5) (cTest (c2 false pLt (c1 false pLen (cLc false [6] (iV (cVar 4)) (Tg.n 6) (cTest (c2 false (pEq false) (cVar 6) (cVar 5))) (cVar 6))) (cP (P.int 2)))) (c2 false pAdd (cVar 4) (cTup (aCons (cVar 5) aNil))))))
  sNil))
  (sSeq (sAsgG (gNm 1) (cVar 3))
  sNil))))
  (sSeq (sRet (cVar 1))
  sNil)))
def C__law_deals : CC := callOf 1 7 B__law_deals
theorem b__law_deals : body 60 ⟨n__law_deals, defScope s__law_deals, none, g__law_deals, [], []⟩ (defBody s__law_deals) = some B__law_deals := by kernel_rfl
abbrev s__law_fellow : Stmt := topS 42
abbrev n__law_fellow : List Str := ["deal", "place", "k"]
theorem sc__law_fellow : FnScope n__law_fellow ["deal", "place"] (defScope s__law_fellow) := ⟨rfl, rfl, rfl, by decide +kernel, rfl, by decide +kernel, by decide +kernel⟩
def g__law_fellow : List (Str × GE) := [("range", GE.blt), ("len", GE.blt)]
def B__law_fellow : CS := (sSeq (sRet (c2 false pIx (cLc false [2] (iR1 (c1 false pLen (cVar 0))) (Tg.n 2) (kAnd (cTest (c2 false (pEq true) (cVar 2) (cVar 1))) (cTest (c2 false (pEq false) (c2 false pIx (cVar 0) (cVar 2)) (c2 false pIx (cVar 0) (cVar 1))))) (cVar 2)) (cP (P.int 0))))
  sNil)
def C__law_fellow : CC := callOf 2 3 B__law_fellow
theorem b__law_fellow : body 60 ⟨n__law_fellow, defScope s__law_fellow, none, g__law_fellow, [], []⟩ (defBody s__law_fellow) = some B__law_fellow := by kernel_rfl
abbrev s__law_is_shut : Stmt := topS 40
abbrev n__law_is_shut : List Str := ["habit", "single", "hidden"]
theorem sc__law_is_shut : FnScope n__law_is_shut ["habit", "single", "hidden"] (defScope s__law_is_shut) := ⟨rfl, rfl, rfl, by decide +kernel, rfl, by decide +kernel, by decide +kernel⟩
def g__law_is_shut : List (Str × GE) := []
def B__law_is_shut : CS := (sSeq (sIf (kOr (cTest (c2 false (pEq false) (cVar 1) (cP (P.int 0)))) (cTest (c2 false (pEq false) (cVar 0) (cP (P.str [115, 104, 117, 116]))))) (sSeq (sRet (cP (P.bl true)))
  sNil) sNil)
  (sSeq (sRet (cAndV (c2 false (pEq false) (cVar 0) (cP (P.str [116, 117, 114, 110, 115]))) (c2 false (pEq false) (c2 false pSub (c2 false pSub (c2 false pAdd (cVar 1) (c2 false pMul (cP (P.int 2)) (cVar 2))) (cP (P.int 1))) (c2 false pMul (cP (P.int 2)) (c2 false pFdiv (c2 false pSub (c2 false pAdd (cVar 1) (c2 false pMul (cP (P.int 2)) (cVar 2))) (cP (P.int 1))) (cP (P.int 2))))) (cP (P.int 0)))))
  sNil))
def C__law_is_shut : CC := callOf 3 3 B__law_is_shut
theorem b__law_is_shut : body 60 ⟨n__law_is_shut, defScope s__law_is_shut, none, g__law_is_shut, [], []⟩ (defBody s__law_is_shut) = some B__law_is_shut := by kernel_rfl
abbrev s__law_played : Stmt := topS 43
abbrev n__law_played : List Str := ["deal", "habit", "there", "known", "turns", "ready", "k", "shut", "one", "two", "single", "hidden"]
theorem sc__law_played : FnScope n__law_played ["deal", "habit"] (defScope s__law_played) := ⟨rfl, rfl, rfl, by decide +kernel, rfl, by decide +kernel, by decide +kernel⟩
def g__law_played : List (Str × GE) := [("list", GE.blt), ("range", GE.blt), ("len", GE.blt), ("_law_fellow", GE.fn ["deal", "place"] [] C__law_fellow), ("_law_is_shut", GE.fn ["habit", "single", "hidden"] [] C__law_is_shut), ("sorted", GE.blt), ("tuple", GE.blt)]
def B__law_played : CS := (sSeq (sAsgG (gTpl 3 (gsCons (gNm 2) (gsCons (gNm 3) (gsCons (gNm 4) gsNil)))) (cTup (aCons (cLrg1 false (c1 false pLen (cVar 0))) (aCons (cLst false aNil) (aCons (cLst true aNil) aNil)))))
  (sSeq (sWhile 100000 (cTest (c2 false (pEq true) (cVar 2) (cLst false aNil))) (sSeq (sAsgG (gNm 5) (cLc false [6] (iV (cVar 2)) (Tg.n 6) (kAnd (cTest (c2 false (pIn false) (cVar 6) (cVar 3))) (cTest (c2 false (pIn false) (cCall C__law_fellow (aCons (cVar 0) (aCons (cVar 6) aNil))) (cVar 3)))) (cVar 6)))
  (sSeq (sAsgG (gNm 7) (cLc false [6] (iV (cVar 2)) (Tg.n 6) (cTest (c2 false (pIn true) (cVar 6) (cVar 3))) (cVar 6)))
  (sSeq (sAsgG (gNm 8) (cIf (cTest (c2 false (pEq true) (cVar 5) (cLst false aNil))) (c2 false pIx (cVar 5) (cP (P.int 0))) (c2 false pIx (cVar 7) (cP (P.int 0)))))
  (sSeq (sAsgG (gNm 9) (cCall C__law_fellow (aCons (cVar 0) (aCons (cVar 8) aNil))))
  (sSeq (sIf (kAnd (cTest (c2 false (pEq false) (cVar 5) (cLst false aNil))) (cTest (c2 false (pIn true) (cVar 9) (cVar 3)))) (sSeq (sPar [10, 11] (aCons (c1 false pLen (cVar 3)) (aCons (c2 false pFdiv (c2 false pSub (c1 false pLen (cVar 7)) (c1 false pLen (cVar 3))) (cP (P.int 2))) aNil)))
  (sSeq (sAsgG (gNm 9) (cIf (cTest (cCall C__law_is_shut (aCons (cVar 1) (aCons (cVar 10) (aCons (cVar 11) aNil))))) (c2 false pIx (cVar 7) (cP (P.int 1))) (c2 false pIx (c1 false pSrt (cVar 3)) (cP (P.int 0)))))
  sNil)) sNil)
  (sSeq (sExpr (cApp (cVar 4) (cTup (aCons (cVar 8) (aCons (cVar 9) aNil)))))
  (sSeq (sIf (cTest (c2 false (pEq false) (c2 false pIx (cVar 0) (cVar 8)) (c2 false pIx (cVar 0) (cVar 9)))) (sSeq (sAsgG (gTpl 2 (gsCons (gNm 2) (gsCons (gNm 3) gsNil))) (cTup (aCons (cLc false [6] (iV (cVar 2)) (Tg.n 6) (cTest (c2 false (pIn true) (cVar 6) (cTup (aCons (cVar 8) (aCons (cVar 9) aNil))))) (cVar 6)) (aCons (cLc false [6] (iV (cVar 3)) (Tg.n 6) (cTest (c2 false (pIn true) (cVar 6) (cTup (aCons (cVar 8) (aCons (cVar 9) aNil))))) (cVar 6)) aNil))))
  sNil) (sSeq (sAsgG (gNm 3) (c2 false pAdd (cVar 3) (cLc false [6] (iV (cTup (aCons (cVar 8) (aCons (cVar 9) aNil)))) (Tg.n 6) (cTest (c2 false (pIn true) (cVar 6) (cVar 3))) (cVar 6))))
  sNil))
  sNil))))))))
  (sSeq (sRet (c1 false pTup (cVar 4)))
  sNil)))
def C__law_played : CC := callOf 2 12 B__law_played
theorem b__law_played : body 60 ⟨n__law_played, defScope s__law_played, none, g__law_played, ["turns"], []⟩ (defBody s__law_played) = some B__law_played := by kernel_rfl
def t__law_played_0 : List (List P × P) := [([(P.tup [(P.str [97]), (P.str [97])]), (P.str [115, 104, 117, 116])], (P.tup [(P.tup [(P.int 0), (P.int 1)])])), ([(P.tup [(P.str [97]), (P.str [97])]), (P.str [111, 112, 101, 110])], (P.tup [(P.tup [(P.int 0), (P.int 1)])])), ([(P.tup [(P.str [97]), (P.str [97])]), (P.str [116, 117, 114, 110, 115])], (P.tup [(P.tup [(P.int 0), (P.int 1)])])), ([(P.tup [(P.str [97]), (P.str [97]), (P.str [98]), (P.str [98])]), (P.str [115, 104, 117, 116])], (P.tup [(P.tup [(P.int 0), (P.int 1)]), (P.tup [(P.int 2), (P.int 3)])])), ([(P.tup [(P.str [97]), (P.str [97]), (P.str [98]), (P.str [98])]), (P.str [111, 112, 101, 110])], (P.tup [(P.tup [(P.int 0), (P.int 1)]), (P.tup [(P.int 2), (P.int 3)])])), ([(P.tup [(P.str [97]), (P.str [97]), (P.str [98]), (P.str [98])]), (P.str [116, 117, 114, 110, 115])], (P.tup [(P.tup [(P.int 0), (P.int 1)]), (P.tup [(P.int 2), (P.int 3)])])), ([(P.tup [(P.str [97]), (P.str [98]), (P.str [97]), (P.str [98])]), (P.str [115, 104, 117, 116])], (P.tup [(P.tup [(P.int 0), (P.int 1)]), (P.tup [(P.int 2), (P.int 0)]), (P.tup [(P.int 3), (P.int 1)])])), ([(P.tup [(P.str [97]), (P.str [98]), (P.str [97]), (P.str [98])]), (P.str [111, 112, 101, 110])], (P.tup [(P.tup [(P.int 0), (P.int 1)]), (P.tup [(P.int 2), (P.int 0)]), (P.tup [(P.int 3), (P.int 1)])])), ([(P.tup [(P.str [97]), (P.str [98]), (P.str [97]), (P.str [98])]), (P.str [116, 117, 114, 110, 115])], (P.tup [(P.tup [(P.int 0), (P.int 1)]), (P.tup [(P.int 2), (P.int 0)]), (P.tup [(P.int 3), (P.int 1)])])), ([(P.tup [(P.str [97]), (P.str [98]), (P.str [98]), (P.str [97])]), (P.str [115, 104, 117, 116])], (P.tup [(P.tup [(P.int 0), (P.int 1)]), (P.tup [(P.int 2), (P.int 1)]), (P.tup [(P.int 3), (P.int 0)])])), ([(P.tup [(P.str [97]), (P.str [98]), (P.str [98]), (P.str [97])]), (P.str [111, 112, 101, 110])], (P.tup [(P.tup [(P.int 0), (P.int 1)]), (P.tup [(P.int 2), (P.int 1)]), (P.tup [(P.int 3), (P.int 0)])])), ([(P.tup [(P.str [97]), (P.str [98]), (P.str [98]), (P.str [97])]), (P.str [116, 117, 114, 110, 115])], (P.tup [(P.tup [(P.int 0), (P.int 1)]), (P.tup [(P.int 2), (P.int 1)]), (P.tup [(P.int 3), (P.int 0)])]))]
theorem to__law_played_0 : tabOk C__law_played t__law_played_0 = true := by decide +kernel
def t__law_played_1 : List (List P × P) := [([(P.tup [(P.str [98]), (P.str [97]), (P.str [97]), (P.str [98])]), (P.str [115, 104, 117, 116])], (P.tup [(P.tup [(P.int 0), (P.int 1)]), (P.tup [(P.int 2), (P.int 1)]), (P.tup [(P.int 3), (P.int 0)])])), ([(P.tup [(P.str [98]), (P.str [97]), (P.str [97]), (P.str [98])]), (P.str [111, 112, 101, 110])], (P.tup [(P.tup [(P.int 0), (P.int 1)]), (P.tup [(P.int 2), (P.int 1)]), (P.tup [(P.int 3), (P.int 0)])])), ([(P.tup [(P.str [98]), (P.str [97]), (P.str [97]), (P.str [98])]), (P.str [116, 117, 114, 110, 115])], (P.tup [(P.tup [(P.int 0), (P.int 1)]), (P.tup [(P.int 2), (P.int 1)]), (P.tup [(P.int 3), (P.int 0)])])), ([(P.tup [(P.str [98]), (P.str [97]), (P.str [98]), (P.str [97])]), (P.str [115, 104, 117, 116])], (P.tup [(P.tup [(P.int 0), (P.int 1)]), (P.tup [(P.int 2), (P.int 0)]), (P.tup [(P.int 3), (P.int 1)])])), ([(P.tup [(P.str [98]), (P.str [97]), (P.str [98]), (P.str [97])]), (P.str [111, 112, 101, 110])], (P.tup [(P.tup [(P.int 0), (P.int 1)]), (P.tup [(P.int 2), (P.int 0)]), (P.tup [(P.int 3), (P.int 1)])])), ([(P.tup [(P.str [98]), (P.str [97]), (P.str [98]), (P.str [97])]), (P.str [116, 117, 114, 110, 115])], (P.tup [(P.tup [(P.int 0), (P.int 1)]), (P.tup [(P.int 2), (P.int 0)]), (P.tup [(P.int 3), (P.int 1)])])), ([(P.tup [(P.str [98]), (P.str [98]), (P.str [97]), (P.str [97])]), (P.str [115, 104, 117, 116])], (P.tup [(P.tup [(P.int 0), (P.int 1)]), (P.tup [(P.int 2), (P.int 3)])])), ([(P.tup [(P.str [98]), (P.str [98]), (P.str [97]), (P.str [97])]), (P.str [111, 112, 101, 110])], (P.tup [(P.tup [(P.int 0), (P.int 1)]), (P.tup [(P.int 2), (P.int 3)])])), ([(P.tup [(P.str [98]), (P.str [98]), (P.str [97]), (P.str [97])]), (P.str [116, 117, 114, 110, 115])], (P.tup [(P.tup [(P.int 0), (P.int 1)]), (P.tup [(P.int 2), (P.int 3)])])), ([(P.tup [(P.str [97]), (P.str [97]), (P.str [98]), (P.str [98]), (P.str [99]), (P.str [99])]), (P.str [115, 104, 117, 116])], (P.tup [(P.tup [(P.int 0), (P.int 1)]), (P.tup [(P.int 2), (P.int 3)]), (P.tup [(P.int 4), (P.int 5)])])), ([(P.tup [(P.str [97]), (P.str [97]), (P.str [98]), (P.str [98]), (P.str [99]), (P.str [99])]), (P.str [111, 112, 101, 110])], (P.tup [(P.tup [(P.int 0), (P.int 1)]), (P.tup [(P.int 2), (P.int 3)]), (P.tup [(P.int 4), (P.int 5)])])), ([(P.tup [(P.str [97]), (P.str [97]), (P.str [98]), (P.str [98]), (P.str [99]), (P.str [99])]), (P.str [116, 117, 114, 110, 115])], (P.tup [(P.tup [(P.int 0), (P.int 1)]), (P.tup [(P.int 2), (P.int 3)]), (P.tup [(P.int 4), (P.int 5)])]))]
theorem to__law_played_1 : tabOk C__law_played t__law_played_1 = true := by decide +kernel
def t__law_played_2 : List (List P × P) := [([(P.tup [(P.str [97]), (P.str [97]), (P.str [98]), (P.str [99]), (P.str [98]), (P.str [99])]), (P.str [115, 104, 117, 116])], (P.tup [(P.tup [(P.int 0), (P.int 1)]), (P.tup [(P.int 2), (P.int 3)]), (P.tup [(P.int 4), (P.int 2)]), (P.tup [(P.int 5), (P.int 3)])])), ([(P.tup [(P.str [97]), (P.str [97]), (P.str [98]), (P.str [99]), (P.str [98]), (P.str [99])]), (P.str [111, 112, 101, 110])], (P.tup [(P.tup [(P.int 0), (P.int 1)]), (P.tup [(P.int 2), (P.int 3)]), (P.tup [(P.int 4), (P.int 2)]), (P.tup [(P.int 5), (P.int 3)])])), ([(P.tup [(P.str [97]), (P.str [97]), (P.str [98]), (P.str [99]), (P.str [98]), (P.str [99])]), (P.str [116, 117, 114, 110, 115])], (P.tup [(P.tup [(P.int 0), (P.int 1)]), (P.tup [(P.int 2), (P.int 3)]), (P.tup [(P.int 4), (P.int 2)]), (P.tup [(P.int 5), (P.int 3)])])), ([(P.tup [(P.str [97]), (P.str [97]), (P.str [98]), (P.str [99]), (P.str [99]), (P.str [98])]), (P.str [115, 104, 117, 116])], (P.tup [(P.tup [(P.int 0), (P.int 1)]), (P.tup [(P.int 2), (P.int 3)]), (P.tup [(P.int 4), (P.int 3)]), (P.tup [(P.int 5), (P.int 2)])])), ([(P.tup [(P.str [97]), (P.str [97]), (P.str [98]), (P.str [99]), (P.str [99]), (P.str [98])]), (P.str [111, 112, 101, 110])], (P.tup [(P.tup [(P.int 0), (P.int 1)]), (P.tup [(P.int 2), (P.int 3)]), (P.tup [(P.int 4), (P.int 3)]), (P.tup [(P.int 5), (P.int 2)])])), ([(P.tup [(P.str [97]), (P.str [97]), (P.str [98]), (P.str [99]), (P.str [99]), (P.str [98])]), (P.str [116, 117, 114, 110, 115])], (P.tup [(P.tup [(P.int 0), (P.int 1)]), (P.tup [(P.int 2), (P.int 3)]), (P.tup [(P.int 4), (P.int 3)]), (P.tup [(P.int 5), (P.int 2)])])), ([(P.tup [(P.str [97]), (P.str [97]), (P.str [99]), (P.str [98]), (P.str [98]), (P.str [99])]), (P.str [115, 104, 117, 116])], (P.tup [(P.tup [(P.int 0), (P.int 1)]), (P.tup [(P.int 2), (P.int 3)]), (P.tup [(P.int 4), (P.int 3)]), (P.tup [(P.int 5), (P.int 2)])])), ([(P.tup [(P.str [97]), (P.str [97]), (P.str [99]), (P.str [98]), (P.str [98]), (P.str [99])]), (P.str [111, 112, 101, 110])], (P.tup [(P.tup [(P.int 0), (P.int 1)]), (P.tup [(P.int 2), (P.int 3)]), (P.tup [(P.int 4), (P.int 3)]), (P.tup [(P.int 5), (P.int 2)])])), ([(P.tup [(P.str [97]), (P.str [97]), (P.str [99]), (P.str [98]), (P.str [98]), (P.str [99])]), (P.str [116, 117, 114, 110, 115])], (P.tup [(P.tup [(P.int 0), (P.int 1)]), (P.tup [(P.int 2), (P.int 3)]), (P.tup [(P.int 4), (P.int 3)]), (P.tup [(P.int 5), (P.int 2)])])), ([(P.tup [(P.str [97]), (P.str [97]), (P.str [99]), (P.str [98]), (P.str [99]), (P.str [98])]), (P.str [115, 104, 117, 116])], (P.tup [(P.tup [(P.int 0), (P.int 1)]), (P.tup [(P.int 2), (P.int 3)]), (P.tup [(P.int 4), (P.int 2)]), (P.tup [(P.int 5), (P.int 3)])])), ([(P.tup [(P.str [97]), (P.str [97]), (P.str [99]), (P.str [98]), (P.str [99]), (P.str [98])]), (P.str [111, 112, 101, 110])], (P.tup [(P.tup [(P.int 0), (P.int 1)]), (P.tup [(P.int 2), (P.int 3)]), (P.tup [(P.int 4), (P.int 2)]), (P.tup [(P.int 5), (P.int 3)])])), ([(P.tup [(P.str [97]), (P.str [97]), (P.str [99]), (P.str [98]), (P.str [99]), (P.str [98])]), (P.str [116, 117, 114, 110, 115])], (P.tup [(P.tup [(P.int 0), (P.int 1)]), (P.tup [(P.int 2), (P.int 3)]), (P.tup [(P.int 4), (P.int 2)]), (P.tup [(P.int 5), (P.int 3)])]))]
theorem to__law_played_2 : tabOk C__law_played t__law_played_2 = true := by decide +kernel
def t__law_played_3 : List (List P × P) := [([(P.tup [(P.str [97]), (P.str [97]), (P.str [99]), (P.str [99]), (P.str [98]), (P.str [98])]), (P.str [115, 104, 117, 116])], (P.tup [(P.tup [(P.int 0), (P.int 1)]), (P.tup [(P.int 2), (P.int 3)]), (P.tup [(P.int 4), (P.int 5)])])), ([(P.tup [(P.str [97]), (P.str [97]), (P.str [99]), (P.str [99]), (P.str [98]), (P.str [98])]), (P.str [111, 112, 101, 110])], (P.tup [(P.tup [(P.int 0), (P.int 1)]), (P.tup [(P.int 2), (P.int 3)]), (P.tup [(P.int 4), (P.int 5)])])), ([(P.tup [(P.str [97]), (P.str [97]), (P.str [99]), (P.str [99]), (P.str [98]), (P.str [98])]), (P.str [116, 117, 114, 110, 115])], (P.tup [(P.tup [(P.int 0), (P.int 1)]), (P.tup [(P.int 2), (P.int 3)]), (P.tup [(P.int 4), (P.int 5)])])), ([(P.tup [(P.str [97]), (P.str [98]), (P.str [97]), (P.str [98]), (P.str [99]), (P.str [99])]), (P.str [115, 104, 117, 116])], (P.tup [(P.tup [(P.int 0), (P.int 1)]), (P.tup [(P.int 2), (P.int 0)]), (P.tup [(P.int 3), (P.int 1)]), (P.tup [(P.int 4), (P.int 5)])])), ([(P.tup [(P.str [97]), (P.str [98]), (P.str [97]), (P.str [98]), (P.str [99]), (P.str [99])]), (P.str [111, 112, 101, 110])], (P.tup [(P.tup [(P.int 0), (P.int 1)]), (P.tup [(P.int 2), (P.int 0)]), (P.tup [(P.int 3), (P.int 1)]), (P.tup [(P.int 4), (P.int 5)])])), ([(P.tup [(P.str [97]), (P.str [98]), (P.str [97]), (P.str [98]), (P.str [99]), (P.str [99])]), (P.str [116, 117, 114, 110, 115])], (P.tup [(P.tup [(P.int 0), (P.int 1)]), (P.tup [(P.int 2), (P.int 0)]), (P.tup [(P.int 3), (P.int 1)]), (P.tup [(P.int 4), (P.int 5)])])), ([(P.tup [(P.str [97]), (P.str [98]), (P.str [97]), (P.str [99]), (P.str [98]), (P.str [99])]), (P.str [115, 104, 117, 116])], (P.tup [(P.tup [(P.int 0), (P.int 1)]), (P.tup [(P.int 2), (P.int 0)]), (P.tup [(P.int 3), (P.int 4)]), (P.tup [(P.int 1), (P.int 4)]), (P.tup [(P.int 5), (P.int 3)])])), ([(P.tup [(P.str [97]), (P.str [98]), (P.str [97]), (P.str [99]), (P.str [98]), (P.str [99])]), (P.str [111, 112, 101, 110])], (P.tup [(P.tup [(P.int 0), (P.int 1)]), (P.tup [(P.int 2), (P.int 0)]), (P.tup [(P.int 3), (P.int 1)]), (P.tup [(P.int 4), (P.int 1)]), (P.tup [(P.int 5), (P.int 3)])])), ([(P.tup [(P.str [97]), (P.str [98]), (P.str [97]), (P.str [99]), (P.str [98]), (P.str [99])]), (P.str [116, 117, 114, 110, 115])], (P.tup [(P.tup [(P.int 0), (P.int 1)]), (P.tup [(P.int 2), (P.int 0)]), (P.tup [(P.int 3), (P.int 4)]), (P.tup [(P.int 1), (P.int 4)]), (P.tup [(P.int 5), (P.int 3)])])), ([(P.tup [(P.str [97]), (P.str [98]), (P.str [97]), (P.str [99]), (P.str [99]), (P.str [98])]), (P.str [115, 104, 117, 116])], (P.tup [(P.tup [(P.int 0), (P.int 1)]), (P.tup [(P.int 2), (P.int 0)]), (P.tup [(P.int 3), (P.int 4)]), (P.tup [(P.int 5), (P.int 1)])])), ([(P.tup [(P.str [97]), (P.str [98]), (P.str [97]), (P.str [99]), (P.str [99]), (P.str [98])]), (P.str [111, 112, 101, 110])], (P.tup [(P.tup [(P.int 0), (P.int 1)]), (P.tup [(P.int 2), (P.int 0)]), (P.tup [(P.int 3), (P.int 1)]), (P.tup [(P.int 4), (P.int 3)]), (P.tup [(P.int 5), (P.int 1)])])), ([(P.tup [(P.str [97]), (P.str [98]), (P.str [97]), (P.str [99]), (P.str [99]), (P.str [98])]), (P.str [116, 117, 114, 110, 115])], (P.tup [(P.tup [(P.int 0), (P.int 1)]), (P.tup [(P.int 2), (P.int 0)]), (P.tup [(P.int 3), (P.int 4)]), (P.tup [(P.int 5), (P.int 1)])]))]
theorem to__law_played_3 : tabOk C__law_played t__law_played_3 = true := by decide +kernel
def t__law_played_4 : List (List P × P) := [([(P.tup [(P.str [97]), (P.str [98]), (P.str [98]), (P.str [97]), (P.str [99]), (P.str [99])]), (P.str [115, 104, 117, 116])], (P.tup [(P.tup [(P.int 0), (P.int 1)]), (P.tup [(P.int 2), (P.int 1)]), (P.tup [(P.int 3), (P.int 0)]), (P.tup [(P.int 4), (P.int 5)])])), ([(P.tup [(P.str [97]), (P.str [98]), (P.str [98]), (P.str [97]), (P.str [99]), (P.str [99])]), (P.str [111, 112, 101, 110])], (P.tup [(P.tup [(P.int 0), (P.int 1)]), (P.tup [(P.int 2), (P.int 1)]), (P.tup [(P.int 3), (P.int 0)]), (P.tup [(P.int 4), (P.int 5)])])), ([(P.tup [(P.str [97]), (P.str [98]), (P.str [98]), (P.str [97]), (P.str [99]), (P.str [99])]), (P.str [116, 117, 114, 110, 115])], (P.tup [(P.tup [(P.int 0), (P.int 1)]), (P.tup [(P.int 2), (P.int 1)]), (P.tup [(P.int 3), (P.int 0)]), (P.tup [(P.int 4), (P.int 5)])])), ([(P.tup [(P.str [97]), (P.str [98]), (P.str [98]), (P.str [99]), (P.str [97]), (P.str [99])]), (P.str [115, 104, 117, 116])], (P.tup [(P.tup [(P.int 0), (P.int 1)]), (P.tup [(P.int 2), (P.int 1)]), (P.tup [(P.int 3), (P.int 4)]), (P.tup [(P.int 0), (P.int 4)]), (P.tup [(P.int 5), (P.int 3)])])), ([(P.tup [(P.str [97]), (P.str [98]), (P.str [98]), (P.str [99]), (P.str [97]), (P.str [99])]), (P.str [111, 112, 101, 110])], (P.tup [(P.tup [(P.int 0), (P.int 1)]), (P.tup [(P.int 2), (P.int 1)]), (P.tup [(P.int 3), (P.int 0)]), (P.tup [(P.int 4), (P.int 0)]), (P.tup [(P.int 5), (P.int 3)])])), ([(P.tup [(P.str [97]), (P.str [98]), (P.str [98]), (P.str [99]), (P.str [97]), (P.str [99])]), (P.str [116, 117, 114, 110, 115])], (P.tup [(P.tup [(P.int 0), (P.int 1)]), (P.tup [(P.int 2), (P.int 1)]), (P.tup [(P.int 3), (P.int 4)]), (P.tup [(P.int 0), (P.int 4)]), (P.tup [(P.int 5), (P.int 3)])])), ([(P.tup [(P.str [97]), (P.str [98]), (P.str [98]), (P.str [99]), (P.str [99]), (P.str [97])]), (P.str [115, 104, 117, 116])], (P.tup [(P.tup [(P.int 0), (P.int 1)]), (P.tup [(P.int 2), (P.int 1)]), (P.tup [(P.int 3), (P.int 4)]), (P.tup [(P.int 5), (P.int 0)])])), ([(P.tup [(P.str [97]), (P.str [98]), (P.str [98]), (P.str [99]), (P.str [99]), (P.str [97])]), (P.str [111, 112, 101, 110])], (P.tup [(P.tup [(P.int 0), (P.int 1)]), (P.tup [(P.int 2), (P.int 1)]), (P.tup [(P.int 3), (P.int 0)]), (P.tup [(P.int 4), (P.int 3)]), (P.tup [(P.int 5), (P.int 0)])])), ([(P.tup [(P.str [97]), (P.str [98]), (P.str [98]), (P.str [99]), (P.str [99]), (P.str [97])]), (P.str [116, 117, 114, 110, 115])], (P.tup [(P.tup [(P.int 0), (P.int 1)]), (P.tup [(P.int 2), (P.int 1)]), (P.tup [(P.int 3), (P.int 4)]), (P.tup [(P.int 5), (P.int 0)])])), ([(P.tup [(P.str [97]), (P.str [98]), (P.str [99]), (P.str [97]), (P.str [98]), (P.str [99])]), (P.str [115, 104, 117, 116])], (P.tup [(P.tup [(P.int 0), (P.int 1)]), (P.tup [(P.int 2), (P.int 3)]), (P.tup [(P.int 0), (P.int 3)]), (P.tup [(P.int 4), (P.int 1)]), (P.tup [(P.int 5), (P.int 2)])])), ([(P.tup [(P.str [97]), (P.str [98]), (P.str [99]), (P.str [97]), (P.str [98]), (P.str [99])]), (P.str [111, 112, 101, 110])], (P.tup [(P.tup [(P.int 0), (P.int 1)]), (P.tup [(P.int 2), (P.int 0)]), (P.tup [(P.int 3), (P.int 0)]), (P.tup [(P.int 4), (P.int 1)]), (P.tup [(P.int 5), (P.int 2)])])), ([(P.tup [(P.str [97]), (P.str [98]), (P.str [99]), (P.str [97]), (P.str [98]), (P.str [99])]), (P.str [116, 117, 114, 110, 115])], (P.tup [(P.tup [(P.int 0), (P.int 1)]), (P.tup [(P.int 2), (P.int 0)]), (P.tup [(P.int 3), (P.int 0)]), (P.tup [(P.int 4), (P.int 1)]), (P.tup [(P.int 5), (P.int 2)])]))]
theorem to__law_played_4 : tabOk C__law_played t__law_played_4 = true := by decide +kernel
def t__law_played_5 : List (List P × P) := [([(P.tup [(P.str [97]), (P.str [98]), (P.str [99]), (P.str [97]), (P.str [99]), (P.str [98])]), (P.str [115, 104, 117, 116])], (P.tup [(P.tup [(P.int 0), (P.int 1)]), (P.tup [(P.int 2), (P.int 3)]), (P.tup [(P.int 0), (P.int 3)]), (P.tup [(P.int 4), (P.int 2)]), (P.tup [(P.int 5), (P.int 1)])])), ([(P.tup [(P.str [97]), (P.str [98]), (P.str [99]), (P.str [97]), (P.str [99]), (P.str [98])]), (P.str [111, 112, 101, 110])], (P.tup [(P.tup [(P.int 0), (P.int 1)]), (P.tup [(P.int 2), (P.int 0)]), (P.tup [(P.int 3), (P.int 0)]), (P.tup [(P.int 4), (P.int 2)]), (P.tup [(P.int 5), (P.int 1)])])), ([(P.tup [(P.str [97]), (P.str [98]), (P.str [99]), (P.str [97]), (P.str [99]), (P.str [98])]), (P.str [116, 117, 114, 110, 115])], (P.tup [(P.tup [(P.int 0), (P.int 1)]), (P.tup [(P.int 2), (P.int 0)]), (P.tup [(P.int 3), (P.int 0)]), (P.tup [(P.int 4), (P.int 2)]), (P.tup [(P.int 5), (P.int 1)])])), ([(P.tup [(P.str [97]), (P.str [98]), (P.str [99]), (P.str [98]), (P.str [97]), (P.str [99])]), (P.str [115, 104, 117, 116])], (P.tup [(P.tup [(P.int 0), (P.int 1)]), (P.tup [(P.int 2), (P.int 3)]), (P.tup [(P.int 1), (P.int 3)]), (P.tup [(P.int 4), (P.int 0)]), (P.tup [(P.int 5), (P.int 2)])])), ([(P.tup [(P.str [97]), (P.str [98]), (P.str [99]), (P.str [98]), (P.str [97]), (P.str [99])]), (P.str [111, 112, 101, 110])], (P.tup [(P.tup [(P.int 0), (P.int 1)]), (P.tup [(P.int 2), (P.int 0)]), (P.tup [(P.int 3), (P.int 1)]), (P.tup [(P.int 4), (P.int 0)]), (P.tup [(P.int 5), (P.int 2)])])), ([(P.tup [(P.str [97]), (P.str [98]), (P.str [99]), (P.str [98]), (P.str [97]), (P.str [99])]), (P.str [116, 117, 114, 110, 115])], (P.tup [(P.tup [(P.int 0), (P.int 1)]), (P.tup [(P.int 2), (P.int 0)]), (P.tup [(P.int 3), (P.int 1)]), (P.tup [(P.int 4), (P.int 0)]), (P.tup [(P.int 5), (P.int 2)])])), ([(P.tup [(P.str [97]), (P.str [98]), (P.str [99]), (P.str [98]), (P.str [99]), (P.str [97])]), (P.str [115, 104, 117, 116])], (P.tup [(P.tup [(P.int 0), (P.int 1)]), (P.tup [(P.int 2), (P.int 3)]), (P.tup [(P.int 1), (P.int 3)]), (P.tup [(P.int 4), (P.int 2)]), (P.tup [(P.int 5), (P.int 0)])])), ([(P.tup [(P.str [97]), (P.str [98]), (P.str [99]), (P.str [98]), (P.str [99]), (P.str [97])]), (P.str [111, 112, 101, 110])], (P.tup [(P.tup [(P.int 0), (P.int 1)]), (P.tup [(P.int 2), (P.int 0)]), (P.tup [(P.int 3), (P.int 1)]), (P.tup [(P.int 4), (P.int 2)]), (P.tup [(P.int 5), (P.int 0)])])), ([(P.tup [(P.str [97]), (P.str [98]), (P.str [99]), (P.str [98]), (P.str [99]), (P.str [97])]), (P.str [116, 117, 114, 110, 115])], (P.tup [(P.tup [(P.int 0), (P.int 1)]), (P.tup [(P.int 2), (P.int 0)]), (P.tup [(P.int 3), (P.int 1)]), (P.tup [(P.int 4), (P.int 2)]), (P.tup [(P.int 5), (P.int 0)])])), ([(P.tup [(P.str [97]), (P.str [98]), (P.str [99]), (P.str [99]), (P.str [97]), (P.str [98])]), (P.str [115, 104, 117, 116])], (P.tup [(P.tup [(P.int 0), (P.int 1)]), (P.tup [(P.int 2), (P.int 3)]), (P.tup [(P.int 4), (P.int 0)]), (P.tup [(P.int 5), (P.int 1)])])), ([(P.tup [(P.str [97]), (P.str [98]), (P.str [99]), (P.str [99]), (P.str [97]), (P.str [98])]), (P.str [111, 112, 101, 110])], (P.tup [(P.tup [(P.int 0), (P.int 1)]), (P.tup [(P.int 2), (P.int 0)]), (P.tup [(P.int 3), (P.int 2)]), (P.tup [(P.int 4), (P.int 0)]), (P.tup [(P.int 5), (P.int 1)])])), ([(P.tup [(P.str [97]), (P.str [98]), (P.str [99]), (P.str [99]), (P.str [97]), (P.str [98])]), (P.str [116, 117, 114, 110, 115])], (P.tup [(P.tup [(P.int 0), (P.int 1)]), (P.tup [(P.int 2), (P.int 0)]), (P.tup [(P.int 3), (P.int 2)]), (P.tup [(P.int 4), (P.int 0)]), (P.tup [(P.int 5), (P.int 1)])]))]
theorem to__law_played_5 : tabOk C__law_played t__law_played_5 = true := by decide +kernel
def t__law_played_6 : List (List P × P) := [([(P.tup [(P.str [97]), (P.str [98]), (P.str [99]), (P.str [99]), (P.str [98]), (P.str [97])]), (P.str [115, 104, 117, 116])], (P.tup [(P.tup [(P.int 0), (P.int 1)]), (P.tup [(P.int 2), (P.int 3)]), (P.tup [(P.int 4), (P.int 1)]), (P.tup [(P.int 5), (P.int 0)])])), ([(P.tup [(P.str [97]), (P.str [98]), (P.str [99]), (P.str [99]), (P.str [98]), (P.str [97])]), (P.str [111, 112, 101, 110])], (P.tup [(P.tup [(P.int 0), (P.int 1)]), (P.tup [(P.int 2), (P.int 0)]), (P.tup [(P.int 3), (P.int 2)]), (P.tup [(P.int 4), (P.int 1)]), (P.tup [(P.int 5), (P.int 0)])])), ([(P.tup [(P.str [97]), (P.str [98]), (P.str [99]), (P.str [99]), (P.str [98]), (P.str [97])]), (P.str [116, 117, 114, 110, 115])], (P.tup [(P.tup [(P.int 0), (P.int 1)]), (P.tup [(P.int 2), (P.int 0)]), (P.tup [(P.int 3), (P.int 2)]), (P.tup [(P.int 4), (P.int 1)]), (P.tup [(P.int 5), (P.int 0)])])), ([(P.tup [(P.str [97]), (P.str [99]), (P.str [97]), (P.str [98]), (P.str [98]), (P.str [99])]), (P.str [115, 104, 117, 116])], (P.tup [(P.tup [(P.int 0), (P.int 1)]), (P.tup [(P.int 2), (P.int 0)]), (P.tup [(P.int 3), (P.int 4)]), (P.tup [(P.int 5), (P.int 1)])])), ([(P.tup [(P.str [97]), (P.str [99]), (P.str [97]), (P.str [98]), (P.str [98]), (P.str [99])]), (P.str [111, 112, 101, 110])], (P.tup [(P.tup [(P.int 0), (P.int 1)]), (P.tup [(P.int 2), (P.int 0)]), (P.tup [(P.int 3), (P.int 1)]), (P.tup [(P.int 4), (P.int 3)]), (P.tup [(P.int 5), (P.int 1)])])), ([(P.tup [(P.str [97]), (P.str [99]), (P.str [97]), (P.str [98]), (P.str [98]), (P.str [99])]), (P.str [116, 117, 114, 110, 115])], (P.tup [(P.tup [(P.int 0), (P.int 1)]), (P.tup [(P.int 2), (P.int 0)]), (P.tup [(P.int 3), (P.int 4)]), (P.tup [(P.int 5), (P.int 1)])])), ([(P.tup [(P.str [97]), (P.str [99]), (P.str [97]), (P.str [98]), (P.str [99]), (P.str [98])]), (P.str [115, 104, 117, 116])], (P.tup [(P.tup [(P.int 0), (P.int 1)]), (P.tup [(P.int 2), (P.int 0)]), (P.tup [(P.int 3), (P.int 4)]), (P.tup [(P.int 1), (P.int 4)]), (P.tup [(P.int 5), (P.int 3)])])), ([(P.tup [(P.str [97]), (P.str [99]), (P.str [97]), (P.str [98]), (P.str [99]), (P.str [98])]), (P.str [111, 112, 101, 110])], (P.tup [(P.tup [(P.int 0), (P.int 1)]), (P.tup [(P.int 2), (P.int 0)]), (P.tup [(P.int 3), (P.int 1)]), (P.tup [(P.int 4), (P.int 1)]), (P.tup [(P.int 5), (P.int 3)])])), ([(P.tup [(P.str [97]), (P.str [99]), (P.str [97]), (P.str [98]), (P.str [99]), (P.str [98])]), (P.str [116, 117, 114, 110, 115])], (P.tup [(P.tup [(P.int 0), (P.int 1)]), (P.tup [(P.int 2), (P.int 0)]), (P.tup [(P.int 3), (P.int 4)]), (P.tup [(P.int 1), (P.int 4)]), (P.tup [(P.int 5), (P.int 3)])])), ([(P.tup [(P.str [97]), (P.str [99]), (P.str [97]), (P.str [99]), (P.str [98]), (P.str [98])]), (P.str [115, 104, 117, 116])], (P.tup [(P.tup [(P.int 0), (P.int 1)]), (P.tup [(P.int 2), (P.int 0)]), (P.tup [(P.int 3), (P.int 1)]), (P.tup [(P.int 4), (P.int 5)])])), ([(P.tup [(P.str [97]), (P.str [99]), (P.str [97]), (P.str [99]), (P.str [98]), (P.str [98])]), (P.str [111, 112, 101, 110])], (P.tup [(P.tup [(P.int 0), (P.int 1)]), (P.tup [(P.int 2), (P.int 0)]), (P.tup [(P.int 3), (P.int 1)]), (P.tup [(P.int 4), (P.int 5)])])), ([(P.tup [(P.str [97]), (P.str [99]), (P.str [97]), (P.str [99]), (P.str [98]), (P.str [98])]), (P.str [116, 117, 114, 110, 115])], (P.tup [(P.tup [(P.int 0), (P.int 1)]), (P.tup [(P.int 2), (P.int 0)]), (P.tup [(P.int 3), (P.int 1)]), (P.tup [(P.int 4), (P.int 5)])]))]
theorem to__law_played_6 : tabOk C__law_played t__law_played_6 = true := by decide +kernel
def t__law_played_7 : List (List P × P) := [([(P.tup [(P.str [97]), (P.str [99]), (P.str [98]), (P.str [97]), (P.str [98]), (P.str [99])]), (P.str [115, 104, 117, 116])], (P.tup [(P.tup [(P.int 0), (P.int 1)]), (P.tup [(P.int 2), (P.int 3)]), (P.tup [(P.int 0), (P.int 3)]), (P.tup [(P.int 4), (P.int 2)]), (P.tup [(P.int 5), (P.int 1)])])), ([(P.tup [(P.str [97]), (P.str [99]), (P.str [98]), (P.str [97]), (P.str [98]), (P.str [99])]), (P.str [111, 112, 101, 110])], (P.tup [(P.tup [(P.int 0), (P.int 1)]), (P.tup [(P.int 2), (P.int 0)]), (P.tup [(P.int 3), (P.int 0)]), (P.tup [(P.int 4), (P.int 2)]), (P.tup [(P.int 5), (P.int 1)])])), ([(P.tup [(P.str [97]), (P.str [99]), (P.str [98]), (P.str [97]), (P.str [98]), (P.str [99])]), (P.str [116, 117, 114, 110, 115])], (P.tup [(P.tup [(P.int 0), (P.int 1)]), (P.tup [(P.int 2), (P.int 0)]), (P.tup [(P.int 3), (P.int 0)]), (P.tup [(P.int 4), (P.int 2)]), (P.tup [(P.int 5), (P.int 1)])])), ([(P.tup [(P.str [97]), (P.str [99]), (P.str [98]), (P.str [97]), (P.str [99]), (P.str [98])]), (P.str [115, 104, 117, 116])], (P.tup [(P.tup [(P.int 0), (P.int 1)]), (P.tup [(P.int 2), (P.int 3)]), (P.tup [(P.int 0), (P.int 3)]), (P.tup [(P.int 4), (P.int 1)]), (P.tup [(P.int 5), (P.int 2)])])), ([(P.tup [(P.str [97]), (P.str [99]), (P.str [98]), (P.str [97]), (P.str [99]), (P.str [98])]), (P.str [111, 112, 101, 110])], (P.tup [(P.tup [(P.int 0), (P.int 1)]), (P.tup [(P.int 2), (P.int 0)]), (P.tup [(P.int 3), (P.int 0)]), (P.tup [(P.int 4), (P.int 1)]), (P.tup [(P.int 5), (P.int 2)])])), ([(P.tup [(P.str [97]), (P.str [99]), (P.str [98]), (P.str [97]), (P.str [99]), (P.str [98])]), (P.str [116, 117, 114, 110, 115])], (P.tup [(P.tup [(P.int 0), (P.int 1)]), (P.tup [(P.int 2), (P.int 0)]), (P.tup [(P.int 3), (P.int 0)]), (P.tup [(P.int 4), (P.int 1)]), (P.tup [(P.int 5), (P.int 2)])])), ([(P.tup [(P.str [97]), (P.str [99]), (P.str [98]), (P.str [98]), (P.str [97]), (P.str [99])]), (P.str [115, 104, 117, 116])], (P.tup [(P.tup [(P.int 0), (P.int 1)]), (P.tup [(P.int 2), (P.int 3)]), (P.tup [(P.int 4), (P.int 0)]), (P.tup [(P.int 5), (P.int 1)])])), ([(P.tup [(P.str [97]), (P.str [99]), (P.str [98]), (P.str [98]), (P.str [97]), (P.str [99])]), (P.str [111, 112, 101, 110])], (P.tup [(P.tup [(P.int 0), (P.int 1)]), (P.tup [(P.int 2), (P.int 0)]), (P.tup [(P.int 3), (P.int 2)]), (P.tup [(P.int 4), (P.int 0)]), (P.tup [(P.int 5), (P.int 1)])])), ([(P.tup [(P.str [97]), (P.str [99]), (P.str [98]), (P.str [98]), (P.str [97]), (P.str [99])]), (P.str [116, 117, 114, 110, 115])], (P.tup [(P.tup [(P.int 0), (P.int 1)]), (P.tup [(P.int 2), (P.int 0)]), (P.tup [(P.int 3), (P.int 2)]), (P.tup [(P.int 4), (P.int 0)]), (P.tup [(P.int 5), (P.int 1)])])), ([(P.tup [(P.str [97]), (P.str [99]), (P.str [98]), (P.str [98]), (P.str [99]), (P.str [97])]), (P.str [115, 104, 117, 116])], (P.tup [(P.tup [(P.int 0), (P.int 1)]), (P.tup [(P.int 2), (P.int 3)]), (P.tup [(P.int 4), (P.int 1)]), (P.tup [(P.int 5), (P.int 0)])])), ([(P.tup [(P.str [97]), (P.str [99]), (P.str [98]), (P.str [98]), (P.str [99]), (P.str [97])]), (P.str [111, 112, 101, 110])], (P.tup [(P.tup [(P.int 0), (P.int 1)]), (P.tup [(P.int 2), (P.int 0)]), (P.tup [(P.int 3), (P.int 2)]), (P.tup [(P.int 4), (P.int 1)]), (P.tup [(P.int 5), (P.int 0)])])), ([(P.tup [(P.str [97]), (P.str [99]), (P.str [98]), (P.str [98]), (P.str [99]), (P.str [97])]), (P.str [116, 117, 114, 110, 115])], (P.tup [(P.tup [(P.int 0), (P.int 1)]), (P.tup [(P.int 2), (P.int 0)]), (P.tup [(P.int 3), (P.int 2)]), (P.tup [(P.int 4), (P.int 1)]), (P.tup [(P.int 5), (P.int 0)])]))]
theorem to__law_played_7 : tabOk C__law_played t__law_played_7 = true := by decide +kernel
def t__law_played_8 : List (List P × P) := [([(P.tup [(P.str [97]), (P.str [99]), (P.str [98]), (P.str [99]), (P.str [97]), (P.str [98])]), (P.str [115, 104, 117, 116])], (P.tup [(P.tup [(P.int 0), (P.int 1)]), (P.tup [(P.int 2), (P.int 3)]), (P.tup [(P.int 1), (P.int 3)]), (P.tup [(P.int 4), (P.int 0)]), (P.tup [(P.int 5), (P.int 2)])])), ([(P.tup [(P.str [97]), (P.str [99]), (P.str [98]), (P.str [99]), (P.str [97]), (P.str [98])]), (P.str [111, 112, 101, 110])], (P.tup [(P.tup [(P.int 0), (P.int 1)]), (P.tup [(P.int 2), (P.int 0)]), (P.tup [(P.int 3), (P.int 1)]), (P.tup [(P.int 4), (P.int 0)]), (P.tup [(P.int 5), (P.int 2)])])), ([(P.tup [(P.str [97]), (P.str [99]), (P.str [98]), (P.str [99]), (P.str [97]), (P.str [98])]), (P.str [116, 117, 114, 110, 115])], (P.tup [(P.tup [(P.int 0), (P.int 1)]), (P.tup [(P.int 2), (P.int 0)]), (P.tup [(P.int 3), (P.int 1)]), (P.tup [(P.int 4), (P.int 0)]), (P.tup [(P.int 5), (P.int 2)])])), ([(P.tup [(P.str [97]), (P.str [99]), (P.str [98]), (P.str [99]), (P.str [98]), (P.str [97])]), (P.str [115, 104, 117, 116])], (P.tup [(P.tup [(P.int 0), (P.int 1)]), (P.tup [(P.int 2), (P.int 3)]), (P.tup [(P.int 1), (P.int 3)]), (P.tup [(P.int 4), (P.int 2)]), (P.tup [(P.int 5), (P.int 0)])])), ([(P.tup [(P.str [97]), (P.str [99]), (P.str [98]), (P.str [99]), (P.str [98]), (P.str [97])]), (P.str [111, 112, 101, 110])], (P.tup [(P.tup [(P.int 0), (P.int 1)]), (P.tup [(P.int 2), (P.int 0)]), (P.tup [(P.int 3), (P.int 1)]), (P.tup [(P.int 4), (P.int 2)]), (P.tup [(P.int 5), (P.int 0)])])), ([(P.tup [(P.str [97]), (P.str [99]), (P.str [98]), (P.str [99]), (P.str [98]), (P.str [97])]), (P.str [116, 117, 114, 110, 115])], (P.tup [(P.tup [(P.int 0), (P.int 1)]), (P.tup [(P.int 2), (P.int 0)]), (P.tup [(P.int 3), (P.int 1)]), (P.tup [(P.int 4), (P.int 2)]), (P.tup [(P.int 5), (P.int 0)])])), ([(P.tup [(P.str [97]), (P.str [99]), (P.str [99]), (P.str [97]), (P.str [98]), (P.str [98])]), (P.str [115, 104, 117, 116])], (P.tup [(P.tup [(P.int 0), (P.int 1)]), (P.tup [(P.int 2), (P.int 1)]), (P.tup [(P.int 3), (P.int 0)]), (P.tup [(P.int 4), (P.int 5)])])), ([(P.tup [(P.str [97]), (P.str [99]), (P.str [99]), (P.str [97]), (P.str [98]), (P.str [98])]), (P.str [111, 112, 101, 110])], (P.tup [(P.tup [(P.int 0), (P.int 1)]), (P.tup [(P.int 2), (P.int 1)]), (P.tup [(P.int 3), (P.int 0)]), (P.tup [(P.int 4), (P.int 5)])])), ([(P.tup [(P.str [97]), (P.str [99]), (P.str [99]), (P.str [97]), (P.str [98]), (P.str [98])]), (P.str [116, 117, 114, 110, 115])], (P.tup [(P.tup [(P.int 0), (P.int 1)]), (P.tup [(P.int 2), (P.int 1)]), (P.tup [(P.int 3), (P.int 0)]), (P.tup [(P.int 4), (P.int 5)])])), ([(P.tup [(P.str [97]), (P.str [99]), (P.str [99]), (P.str [98]), (P.str [97]), (P.str [98])]), (P.str [115, 104, 117, 116])], (P.tup [(P.tup [(P.int 0), (P.int 1)]), (P.tup [(P.int 2), (P.int 1)]), (P.tup [(P.int 3), (P.int 4)]), (P.tup [(P.int 0), (P.int 4)]), (P.tup [(P.int 5), (P.int 3)])])), ([(P.tup [(P.str [97]), (P.str [99]), (P.str [99]), (P.str [98]), (P.str [97]), (P.str [98])]), (P.str [111, 112, 101, 110])], (P.tup [(P.tup [(P.int 0), (P.int 1)]), (P.tup [(P.int 2), (P.int 1)]), (P.tup [(P.int 3), (P.int 0)]), (P.tup [(P.int 4), (P.int 0)]), (P.tup [(P.int 5), (P.int 3)])])), ([(P.tup [(P.str [97]), (P.str [99]), (P.str [99]), (P.str [98]), (P.str [97]), (P.str [98])]), (P.str [116, 117, 114, 110, 115])], (P.tup [(P.tup [(P.int 0), (P.int 1)]), (P.tup [(P.int 2), (P.int 1)]), (P.tup [(P.int 3), (P.int 4)]), (P.tup [(P.int 0), (P.int 4)]), (P.tup [(P.int 5), (P.int 3)])]))]
theorem to__law_played_8 : tabOk C__law_played t__law_played_8 = true := by decide +kernel
def t__law_played_9 : List (List P × P) := [([(P.tup [(P.str [97]), (P.str [99]), (P.str [99]), (P.str [98]), (P.str [98]), (P.str [97])]), (P.str [115, 104, 117, 116])], (P.tup [(P.tup [(P.int 0), (P.int 1)]), (P.tup [(P.int 2), (P.int 1)]), (P.tup [(P.int 3), (P.int 4)]), (P.tup [(P.int 5), (P.int 0)])])), ([(P.tup [(P.str [97]), (P.str [99]), (P.str [99]), (P.str [98]), (P.str [98]), (P.str [97])]), (P.str [111, 112, 101, 110])], (P.tup [(P.tup [(P.int 0), (P.int 1)]), (P.tup [(P.int 2), (P.int 1)]), (P.tup [(P.int 3), (P.int 0)]), (P.tup [(P.int 4), (P.int 3)]), (P.tup [(P.int 5), (P.int 0)])])), ([(P.tup [(P.str [97]), (P.str [99]), (P.str [99]), (P.str [98]), (P.str [98]), (P.str [97])]), (P.str [116, 117, 114, 110, 115])], (P.tup [(P.tup [(P.int 0), (P.int 1)]), (P.tup [(P.int 2), (P.int 1)]), (P.tup [(P.int 3), (P.int 4)]), (P.tup [(P.int 5), (P.int 0)])])), ([(P.tup [(P.str [98]), (P.str [97]), (P.str [97]), (P.str [98]), (P.str [99]), (P.str [99])]), (P.str [115, 104, 117, 116])], (P.tup [(P.tup [(P.int 0), (P.int 1)]), (P.tup [(P.int 2), (P.int 1)]), (P.tup [(P.int 3), (P.int 0)]), (P.tup [(P.int 4), (P.int 5)])])), ([(P.tup [(P.str [98]), (P.str [97]), (P.str [97]), (P.str [98]), (P.str [99]), (P.str [99])]), (P.str [111, 112, 101, 110])], (P.tup [(P.tup [(P.int 0), (P.int 1)]), (P.tup [(P.int 2), (P.int 1)]), (P.tup [(P.int 3), (P.int 0)]), (P.tup [(P.int 4), (P.int 5)])])), ([(P.tup [(P.str [98]), (P.str [97]), (P.str [97]), (P.str [98]), (P.str [99]), (P.str [99])]), (P.str [116, 117, 114, 110, 115])], (P.tup [(P.tup [(P.int 0), (P.int 1)]), (P.tup [(P.int 2), (P.int 1)]), (P.tup [(P.int 3), (P.int 0)]), (P.tup [(P.int 4), (P.int 5)])])), ([(P.tup [(P.str [98]), (P.str [97]), (P.str [97]), (P.str [99]), (P.str [98]), (P.str [99])]), (P.str [115, 104, 117, 116])], (P.tup [(P.tup [(P.int 0), (P.int 1)]), (P.tup [(P.int 2), (P.int 1)]), (P.tup [(P.int 3), (P.int 4)]), (P.tup [(P.int 0), (P.int 4)]), (P.tup [(P.int 5), (P.int 3)])])), ([(P.tup [(P.str [98]), (P.str [97]), (P.str [97]), (P.str [99]), (P.str [98]), (P.str [99])]), (P.str [111, 112, 101, 110])], (P.tup [(P.tup [(P.int 0), (P.int 1)]), (P.tup [(P.int 2), (P.int 1)]), (P.tup [(P.int 3), (P.int 0)]), (P.tup [(P.int 4), (P.int 0)]), (P.tup [(P.int 5), (P.int 3)])])), ([(P.tup [(P.str [98]), (P.str [97]), (P.str [97]), (P.str [99]), (P.str [98]), (P.str [99])]), (P.str [116, 117, 114, 110, 115])], (P.tup [(P.tup [(P.int 0), (P.int 1)]), (P.tup [(P.int 2), (P.int 1)]), (P.tup [(P.int 3), (P.int 4)]), (P.tup [(P.int 0), (P.int 4)]), (P.tup [(P.int 5), (P.int 3)])])), ([(P.tup [(P.str [98]), (P.str [97]), (P.str [97]), (P.str [99]), (P.str [99]), (P.str [98])]), (P.str [115, 104, 117, 116])], (P.tup [(P.tup [(P.int 0), (P.int 1)]), (P.tup [(P.int 2), (P.int 1)]), (P.tup [(P.int 3), (P.int 4)]), (P.tup [(P.int 5), (P.int 0)])])), ([(P.tup [(P.str [98]), (P.str [97]), (P.str [97]), (P.str [99]), (P.str [99]), (P.str [98])]), (P.str [111, 112, 101, 110])], (P.tup [(P.tup [(P.int 0), (P.int 1)]), (P.tup [(P.int 2), (P.int 1)]), (P.tup [(P.int 3), (P.int 0)]), (P.tup [(P.int 4), (P.int 3)]), (P.tup [(P.int 5), (P.int 0)])])), ([(P.tup [(P.str [98]), (P.str [97]), (P.str [97]), (P.str [99]), (P.str [99]), (P.str [98])]), (P.str [116, 117, 114, 110, 115])], (P.tup [(P.tup [(P.int 0), (P.int 1)]), (P.tup [(P.int 2), (P.int 1)]), (P.tup [(P.int 3), (P.int 4)]), (P.tup [(P.int 5), (P.int 0)])]))]
theorem to__law_played_9 : tabOk C__law_played t__law_played_9 = true := by decide +kernel
def t__law_played_10 : List (List P × P) := [([(P.tup [(P.str [98]), (P.str [97]), (P.str [98]), (P.str [97]), (P.str [99]), (P.str [99])]), (P.str [115, 104, 117, 116])], (P.tup [(P.tup [(P.int 0), (P.int 1)]), (P.tup [(P.int 2), (P.int 0)]), (P.tup [(P.int 3), (P.int 1)]), (P.tup [(P.int 4), (P.int 5)])])), ([(P.tup [(P.str [98]), (P.str [97]), (P.str [98]), (P.str [97]), (P.str [99]), (P.str [99])]), (P.str [111, 112, 101, 110])], (P.tup [(P.tup [(P.int 0), (P.int 1)]), (P.tup [(P.int 2), (P.int 0)]), (P.tup [(P.int 3), (P.int 1)]), (P.tup [(P.int 4), (P.int 5)])])), ([(P.tup [(P.str [98]), (P.str [97]), (P.str [98]), (P.str [97]), (P.str [99]), (P.str [99])]), (P.str [116, 117, 114, 110, 115])], (P.tup [(P.tup [(P.int 0), (P.int 1)]), (P.tup [(P.int 2), (P.int 0)]), (P.tup [(P.int 3), (P.int 1)]), (P.tup [(P.int 4), (P.int 5)])])), ([(P.tup [(P.str [98]), (P.str [97]), (P.str [98]), (P.str [99]), (P.str [97]), (P.str [99])]), (P.str [115, 104, 117, 116])], (P.tup [(P.tup [(P.int 0), (P.int 1)]), (P.tup [(P.int 2), (P.int 0)]), (P.tup [(P.int 3), (P.int 4)]), (P.tup [(P.int 1), (P.int 4)]), (P.tup [(P.int 5), (P.int 3)])])), ([(P.tup [(P.str [98]), (P.str [97]), (P.str [98]), (P.str [99]), (P.str [97]), (P.str [99])]), (P.str [111, 112, 101, 110])], (P.tup [(P.tup [(P.int 0), (P.int 1)]), (P.tup [(P.int 2), (P.int 0)]), (P.tup [(P.int 3), (P.int 1)]), (P.tup [(P.int 4), (P.int 1)]), (P.tup [(P.int 5), (P.int 3)])])), ([(P.tup [(P.str [98]), (P.str [97]), (P.str [98]), (P.str [99]), (P.str [97]), (P.str [99])]), (P.str [116, 117, 114, 110, 115])], (P.tup [(P.tup [(P.int 0), (P.int 1)]), (P.tup [(P.int 2), (P.int 0)]), (P.tup [(P.int 3), (P.int 4)]), (P.tup [(P.int 1), (P.int 4)]), (P.tup [(P.int 5), (P.int 3)])])), ([(P.tup [(P.str [98]), (P.str [97]), (P.str [98]), (P.str [99]), (P.str [99]), (P.str [97])]), (P.str [115, 104, 117, 116])], (P.tup [(P.tup [(P.int 0), (P.int 1)]), (P.tup [(P.int 2), (P.int 0)]), (P.tup [(P.int 3), (P.int 4)]), (P.tup [(P.int 5), (P.int 1)])])), ([(P.tup [(P.str [98]), (P.str [97]), (P.str [98]), (P.str [99]), (P.str [99]), (P.str [97])]), (P.str [111, 112, 101, 110])], (P.tup [(P.tup [(P.int 0), (P.int 1)]), (P.tup [(P.int 2), (P.int 0)]), (P.tup [(P.int 3), (P.int 1)]), (P.tup [(P.int 4), (P.int 3)]), (P.tup [(P.int 5), (P.int 1)])])), ([(P.tup [(P.str [98]), (P.str [97]), (P.str [98]), (P.str [99]), (P.str [99]), (P.str [97])]), (P.str [116, 117, 114, 110, 115])], (P.tup [(P.tup [(P.int 0), (P.int 1)]), (P.tup [(P.int 2), (P.int 0)]), (P.tup [(P.int 3), (P.int 4)]), (P.tup [(P.int 5), (P.int 1)])])), ([(P.tup [(P.str [98]), (P.str [97]), (P.str [99]), (P.str [97]), (P.str [98]), (P.str [99])]), (P.str [115, 104, 117, 116])], (P.tup [(P.tup [(P.int 0), (P.int 1)]), (P.tup [(P.int 2), (P.int 3)]), (P.tup [(P.int 1), (P.int 3)]), (P.tup [(P.int 4), (P.int 0)]), (P.tup [(P.int 5), (P.int 2)])])), ([(P.tup [(P.str [98]), (P.str [97]), (P.str [99]), (P.str [97]), (P.str [98]), (P.str [99])]), (P.str [111, 112, 101, 110])], (P.tup [(P.tup [(P.int 0), (P.int 1)]), (P.tup [(P.int 2), (P.int 0)]), (P.tup [(P.int 3), (P.int 1)]), (P.tup [(P.int 4), (P.int 0)]), (P.tup [(P.int 5), (P.int 2)])])), ([(P.tup [(P.str [98]), (P.str [97]), (P.str [99]), (P.str [97]), (P.str [98]), (P.str [99])]), (P.str [116, 117, 114, 110, 115])], (P.tup [(P.tup [(P.int 0), (P.int 1)]), (P.tup [(P.int 2), (P.int 0)]), (P.tup [(P.int 3), (P.int 1)]), (P.tup [(P.int 4), (P.int 0)]), (P.tup [(P.int 5), (P.int 2)])]))]
theorem to__law_played_10 : tabOk C__law_played t__law_played_10 = true := by decide +kernel
def t__law_played_11 : List (List P × P) := [([(P.tup [(P.str [98]), (P.str [97]), (P.str [99]), (P.str [97]), (P.str [99]), (P.str [98])]), (P.str [115, 104, 117, 116])], (P.tup [(P.tup [(P.int 0), (P.int 1)]), (P.tup [(P.int 2), (P.int 3)]), (P.tup [(P.int 1), (P.int 3)]), (P.tup [(P.int 4), (P.int 2)]), (P.tup [(P.int 5), (P.int 0)])])), ([(P.tup [(P.str [98]), (P.str [97]), (P.str [99]), (P.str [97]), (P.str [99]), (P.str [98])]), (P.str [111, 112, 101, 110])], (P.tup [(P.tup [(P.int 0), (P.int 1)]), (P.tup [(P.int 2), (P.int 0)]), (P.tup [(P.int 3), (P.int 1)]), (P.tup [(P.int 4), (P.int 2)]), (P.tup [(P.int 5), (P.int 0)])])), ([(P.tup [(P.str [98]), (P.str [97]), (P.str [99]), (P.str [97]), (P.str [99]), (P.str [98])]), (P.str [116, 117, 114, 110, 115])], (P.tup [(P.tup [(P.int 0), (P.int 1)]), (P.tup [(P.int 2), (P.int 0)]), (P.tup [(P.int 3), (P.int 1)]), (P.tup [(P.int 4), (P.int 2)]), (P.tup [(P.int 5), (P.int 0)])])), ([(P.tup [(P.str [98]), (P.str [97]), (P.str [99]), (P.str [98]), (P.str [97]), (P.str [99])]), (P.str [115, 104, 117, 116])], (P.tup [(P.tup [(P.int 0), (P.int 1)]), (P.tup [(P.int 2), (P.int 3)]), (P.tup [(P.int 0), (P.int 3)]), (P.tup [(P.int 4), (P.int 1)]), (P.tup [(P.int 5), (P.int 2)])])), ([(P.tup [(P.str [98]), (P.str [97]), (P.str [99]), (P.str [98]), (P.str [97]), (P.str [99])]), (P.str [111, 112, 101, 110])], (P.tup [(P.tup [(P.int 0), (P.int 1)]), (P.tup [(P.int 2), (P.int 0)]), (P.tup [(P.int 3), (P.int 0)]), (P.tup [(P.int 4), (P.int 1)]), (P.tup [(P.int 5), (P.int 2)])])), ([(P.tup [(P.str [98]), (P.str [97]), (P.str [99]), (P.str [98]), (P.str [97]), (P.str [99])]), (P.str [116, 117, 114, 110, 115])], (P.tup [(P.tup [(P.int 0), (P.int 1)]), (P.tup [(P.int 2), (P.int 0)]), (P.tup [(P.int 3), (P.int 0)]), (P.tup [(P.int 4), (P.int 1)]), (P.tup [(P.int 5), (P.int 2)])])), ([(P.tup [(P.str [98]), (P.str [97]), (P.str [99]), (P.str [98]), (P.str [99]), (P.str [97])]), (P.str [115, 104, 117, 116])], (P.tup [(P.tup [(P.int 0), (P.int 1)]), (P.tup [(P.int 2), (P.int 3)]), (P.tup [(P.int 0), (P.int 3)]), (P.tup [(P.int 4), (P.int 2)]), (P.tup [(P.int 5), (P.int 1)])])), ([(P.tup [(P.str [98]), (P.str [97]), (P.str [99]), (P.str [98]), (P.str [99]), (P.str [97])]), (P.str [111, 112, 101, 110])], (P.tup [(P.tup [(P.int 0), (P.int 1)]), (P.tup [(P.int 2), (P.int 0)]), (P.tup [(P.int 3), (P.int 0)]), (P.tup [(P.int 4), (P.int 2)]), (P.tup [(P.int 5), (P.int 1)])])), ([(P.tup [(P.str [98]), (P.str [97]), (P.str [99]), (P.str [98]), (P.str [99]), (P.str [97])]), (P.str [116, 117, 114, 110, 115])], (P.tup [(P.tup [(P.int 0), (P.int 1)]), (P.tup [(P.int 2), (P.int 0)]), (P.tup [(P.int 3), (P.int 0)]), (P.tup [(P.int 4), (P.int 2)]), (P.tup [(P.int 5), (P.int 1)])])), ([(P.tup [(P.str [98]), (P.str [97]), (P.str [99]), (P.str [99]), (P.str [97]), (P.str [98])]), (P.str [115, 104, 117, 116])], (P.tup [(P.tup [(P.int 0), (P.int 1)]), (P.tup [(P.int 2), (P.int 3)]), (P.tup [(P.int 4), (P.int 1)]), (P.tup [(P.int 5), (P.int 0)])])), ([(P.tup [(P.str [98]), (P.str [97]), (P.str [99]), (P.str [99]), (P.str [97]), (P.str [98])]), (P.str [111, 112, 101, 110])], (P.tup [(P.tup [(P.int 0), (P.int 1)]), (P.tup [(P.int 2), (P.int 0)]), (P.tup [(P.int 3), (P.int 2)]), (P.tup [(P.int 4), (P.int 1)]), (P.tup [(P.int 5), (P.int 0)])])), ([(P.tup [(P.str [98]), (P.str [97]), (P.str [99]), (P.str [99]), (P.str [97]), (P.str [98])]), (P.str [116, 117, 114, 110, 115])], (P.tup [(P.tup [(P.int 0), (P.int 1)]), (P.tup [(P.int 2), (P.int 0)]), (P.tup [(P.int 3), (P.int 2)]), (P.tup [(P.int 4), (P.int 1)]), (P.tup [(P.int 5), (P.int 0)])]))]
theorem to__law_played_11 : tabOk C__law_played t__law_played_11 = true := by decide +kernel
def t__law_played_12 : List (List P × P) := [([(P.tup [(P.str [98]), (P.str [97]), (P.str [99]), (P.str [99]), (P.str [98]), (P.str [97])]), (P.str [115, 104, 117, 116])], (P.tup [(P.tup [(P.int 0), (P.int 1)]), (P.tup [(P.int 2), (P.int 3)]), (P.tup [(P.int 4), (P.int 0)]), (P.tup [(P.int 5), (P.int 1)])])), ([(P.tup [(P.str [98]), (P.str [97]), (P.str [99]), (P.str [99]), (P.str [98]), (P.str [97])]), (P.str [111, 112, 101, 110])], (P.tup [(P.tup [(P.int 0), (P.int 1)]), (P.tup [(P.int 2), (P.int 0)]), (P.tup [(P.int 3), (P.int 2)]), (P.tup [(P.int 4), (P.int 0)]), (P.tup [(P.int 5), (P.int 1)])])), ([(P.tup [(P.str [98]), (P.str [97]), (P.str [99]), (P.str [99]), (P.str [98]), (P.str [97])]), (P.str [116, 117, 114, 110, 115])], (P.tup [(P.tup [(P.int 0), (P.int 1)]), (P.tup [(P.int 2), (P.int 0)]), (P.tup [(P.int 3), (P.int 2)]), (P.tup [(P.int 4), (P.int 0)]), (P.tup [(P.int 5), (P.int 1)])])), ([(P.tup [(P.str [98]), (P.str [98]), (P.str [97]), (P.str [97]), (P.str [99]), (P.str [99])]), (P.str [115, 104, 117, 116])], (P.tup [(P.tup [(P.int 0), (P.int 1)]), (P.tup [(P.int 2), (P.int 3)]), (P.tup [(P.int 4), (P.int 5)])])), ([(P.tup [(P.str [98]), (P.str [98]), (P.str [97]), (P.str [97]), (P.str [99]), (P.str [99])]), (P.str [111, 112, 101, 110])], (P.tup [(P.tup [(P.int 0), (P.int 1)]), (P.tup [(P.int 2), (P.int 3)]), (P.tup [(P.int 4), (P.int 5)])])), ([(P.tup [(P.str [98]), (P.str [98]), (P.str [97]), (P.str [97]), (P.str [99]), (P.str [99])]), (P.str [116, 117, 114, 110, 115])], (P.tup [(P.tup [(P.int 0), (P.int 1)]), (P.tup [(P.int 2), (P.int 3)]), (P.tup [(P.int 4), (P.int 5)])])), ([(P.tup [(P.str [98]), (P.str [98]), (P.str [97]), (P.str [99]), (P.str [97]), (P.str [99])]), (P.str [115, 104, 117, 116])], (P.tup [(P.tup [(P.int 0), (P.int 1)]), (P.tup [(P.int 2), (P.int 3)]), (P.tup [(P.int 4), (P.int 2)]), (P.tup [(P.int 5), (P.int 3)])])), ([(P.tup [(P.str [98]), (P.str [98]), (P.str [97]), (P.str [99]), (P.str [97]), (P.str [99])]), (P.str [111, 112, 101, 110])], (P.tup [(P.tup [(P.int 0), (P.int 1)]), (P.tup [(P.int 2), (P.int 3)]), (P.tup [(P.int 4), (P.int 2)]), (P.tup [(P.int 5), (P.int 3)])])), ([(P.tup [(P.str [98]), (P.str [98]), (P.str [97]), (P.str [99]), (P.str [97]), (P.str [99])]), (P.str [116, 117, 114, 110, 115])], (P.tup [(P.tup [(P.int 0), (P.int 1)]), (P.tup [(P.int 2), (P.int 3)]), (P.tup [(P.int 4), (P.int 2)]), (P.tup [(P.int 5), (P.int 3)])])), ([(P.tup [(P.str [98]), (P.str [98]), (P.str [97]), (P.str [99]), (P.str [99]), (P.str [97])]), (P.str [115, 104, 117, 116])], (P.tup [(P.tup [(P.int 0), (P.int 1)]), (P.tup [(P.int 2), (P.int 3)]), (P.tup [(P.int 4), (P.int 3)]), (P.tup [(P.int 5), (P.int 2)])])), ([(P.tup [(P.str [98]), (P.str [98]), (P.str [97]), (P.str [99]), (P.str [99]), (P.str [97])]), (P.str [111, 112, 101, 110])], (P.tup [(P.tup [(P.int 0), (P.int 1)]), (P.tup [(P.int 2), (P.int 3)]), (P.tup [(P.int 4), (P.int 3)]), (P.tup [(P.int 5), (P.int 2)])])), ([(P.tup [(P.str [98]), (P.str [98]), (P.str [97]), (P.str [99]), (P.str [99]), (P.str [97])]), (P.str [116, 117, 114, 110, 115])], (P.tup [(P.tup [(P.int 0), (P.int 1)]), (P.tup [(P.int 2), (P.int 3)]), (P.tup [(P.int 4), (P.int 3)]), (P.tup [(P.int 5), (P.int 2)])]))]
theorem to__law_played_12 : tabOk C__law_played t__law_played_12 = true := by decide +kernel
def t__law_played_13 : List (List P × P) := [([(P.tup [(P.str [98]), (P.str [98]), (P.str [99]), (P.str [97]), (P.str [97]), (P.str [99])]), (P.str [115, 104, 117, 116])], (P.tup [(P.tup [(P.int 0), (P.int 1)]), (P.tup [(P.int 2), (P.int 3)]), (P.tup [(P.int 4), (P.int 3)]), (P.tup [(P.int 5), (P.int 2)])])), ([(P.tup [(P.str [98]), (P.str [98]), (P.str [99]), (P.str [97]), (P.str [97]), (P.str [99])]), (P.str [111, 112, 101, 110])], (P.tup [(P.tup [(P.int 0), (P.int 1)]), (P.tup [(P.int 2), (P.int 3)]), (P.tup [(P.int 4), (P.int 3)]), (P.tup [(P.int 5), (P.int 2)])])), ([(P.tup [(P.str [98]), (P.str [98]), (P.str [99]), (P.str [97]), (P.str [97]), (P.str [99])]), (P.str [116, 117, 114, 110, 115])], (P.tup [(P.tup [(P.int 0), (P.int 1)]), (P.tup [(P.int 2), (P.int 3)]), (P.tup [(P.int 4), (P.int 3)]), (P.tup [(P.int 5), (P.int 2)])])), ([(P.tup [(P.str [98]), (P.str [98]), (P.str [99]), (P.str [97]), (P.str [99]), (P.str [97])]), (P.str [115, 104, 117, 116])], (P.tup [(P.tup [(P.int 0), (P.int 1)]), (P.tup [(P.int 2), (P.int 3)]), (P.tup [(P.int 4), (P.int 2)]), (P.tup [(P.int 5), (P.int 3)])])), ([(P.tup [(P.str [98]), (P.str [98]), (P.str [99]), (P.str [97]), (P.str [99]), (P.str [97])]), (P.str [111, 112, 101, 110])], (P.tup [(P.tup [(P.int 0), (P.int 1)]), (P.tup [(P.int 2), (P.int 3)]), (P.tup [(P.int 4), (P.int 2)]), (P.tup [(P.int 5), (P.int 3)])])), ([(P.tup [(P.str [98]), (P.str [98]), (P.str [99]), (P.str [97]), (P.str [99]), (P.str [97])]), (P.str [116, 117, 114, 110, 115])], (P.tup [(P.tup [(P.int 0), (P.int 1)]), (P.tup [(P.int 2), (P.int 3)]), (P.tup [(P.int 4), (P.int 2)]), (P.tup [(P.int 5), (P.int 3)])])), ([(P.tup [(P.str [98]), (P.str [98]), (P.str [99]), (P.str [99]), (P.str [97]), (P.str [97])]), (P.str [115, 104, 117, 116])], (P.tup [(P.tup [(P.int 0), (P.int 1)]), (P.tup [(P.int 2), (P.int 3)]), (P.tup [(P.int 4), (P.int 5)])])), ([(P.tup [(P.str [98]), (P.str [98]), (P.str [99]), (P.str [99]), (P.str [97]), (P.str [97])]), (P.str [111, 112, 101, 110])], (P.tup [(P.tup [(P.int 0), (P.int 1)]), (P.tup [(P.int 2), (P.int 3)]), (P.tup [(P.int 4), (P.int 5)])])), ([(P.tup [(P.str [98]), (P.str [98]), (P.str [99]), (P.str [99]), (P.str [97]), (P.str [97])]), (P.str [116, 117, 114, 110, 115])], (P.tup [(P.tup [(P.int 0), (P.int 1)]), (P.tup [(P.int 2), (P.int 3)]), (P.tup [(P.int 4), (P.int 5)])])), ([(P.tup [(P.str [98]), (P.str [99]), (P.str [97]), (P.str [97]), (P.str [98]), (P.str [99])]), (P.str [115, 104, 117, 116])], (P.tup [(P.tup [(P.int 0), (P.int 1)]), (P.tup [(P.int 2), (P.int 3)]), (P.tup [(P.int 4), (P.int 0)]), (P.tup [(P.int 5), (P.int 1)])])), ([(P.tup [(P.str [98]), (P.str [99]), (P.str [97]), (P.str [97]), (P.str [98]), (P.str [99])]), (P.str [111, 112, 101, 110])], (P.tup [(P.tup [(P.int 0), (P.int 1)]), (P.tup [(P.int 2), (P.int 0)]), (P.tup [(P.int 3), (P.int 2)]), (P.tup [(P.int 4), (P.int 0)]), (P.tup [(P.int 5), (P.int 1)])])), ([(P.tup [(P.str [98]), (P.str [99]), (P.str [97]), (P.str [97]), (P.str [98]), (P.str [99])]), (P.str [116, 117, 114, 110, 115])], (P.tup [(P.tup [(P.int 0), (P.int 1)]), (P.tup [(P.int 2), (P.int 0)]), (P.tup [(P.int 3), (P.int 2)]), (P.tup [(P.int 4), (P.int 0)]), (P.tup [(P.int 5), (P.int 1)])]))]
theorem to__law_played_13 : tabOk C__law_played t__law_played_13 = true := by decide +kernel
def t__law_played_14 : List (List P × P) := [([(P.tup [(P.str [98]), (P.str [99]), (P.str [97]), (P.str [97]), (P.str [99]), (P.str [98])]), (P.str [115, 104, 117, 116])], (P.tup [(P.tup [(P.int 0), (P.int 1)]), (P.tup [(P.int 2), (P.int 3)]), (P.tup [(P.int 4), (P.int 1)]), (P.tup [(P.int 5), (P.int 0)])])), ([(P.tup [(P.str [98]), (P.str [99]), (P.str [97]), (P.str [97]), (P.str [99]), (P.str [98])]), (P.str [111, 112, 101, 110])], (P.tup [(P.tup [(P.int 0), (P.int 1)]), (P.tup [(P.int 2), (P.int 0)]), (P.tup [(P.int 3), (P.int 2)]), (P.tup [(P.int 4), (P.int 1)]), (P.tup [(P.int 5), (P.int 0)])])), ([(P.tup [(P.str [98]), (P.str [99]), (P.str [97]), (P.str [97]), (P.str [99]), (P.str [98])]), (P.str [116, 117, 114, 110, 115])], (P.tup [(P.tup [(P.int 0), (P.int 1)]), (P.tup [(P.int 2), (P.int 0)]), (P.tup [(P.int 3), (P.int 2)]), (P.tup [(P.int 4), (P.int 1)]), (P.tup [(P.int 5), (P.int 0)])])), ([(P.tup [(P.str [98]), (P.str [99]), (P.str [97]), (P.str [98]), (P.str [97]), (P.str [99])]), (P.str [115, 104, 117, 116])], (P.tup [(P.tup [(P.int 0), (P.int 1)]), (P.tup [(P.int 2), (P.int 3)]), (P.tup [(P.int 0), (P.int 3)]), (P.tup [(P.int 4), (P.int 2)]), (P.tup [(P.int 5), (P.int 1)])])), ([(P.tup [(P.str [98]), (P.str [99]), (P.str [97]), (P.str [98]), (P.str [97]), (P.str [99])]), (P.str [111, 112, 101, 110])], (P.tup [(P.tup [(P.int 0), (P.int 1)]), (P.tup [(P.int 2), (P.int 0)]), (P.tup [(P.int 3), (P.int 0)]), (P.tup [(P.int 4), (P.int 2)]), (P.tup [(P.int 5), (P.int 1)])])), ([(P.tup [(P.str [98]), (P.str [99]), (P.str [97]), (P.str [98]), (P.str [97]), (P.str [99])]), (P.str [116, 117, 114, 110, 115])], (P.tup [(P.tup [(P.int 0), (P.int 1)]), (P.tup [(P.int 2), (P.int 0)]), (P.tup [(P.int 3), (P.int 0)]), (P.tup [(P.int 4), (P.int 2)]), (P.tup [(P.int 5), (P.int 1)])])), ([(P.tup [(P.str [98]), (P.str [99]), (P.str [97]), (P.str [98]), (P.str [99]), (P.str [97])]), (P.str [115, 104, 117, 116])], (P.tup [(P.tup [(P.int 0), (P.int 1)]), (P.tup [(P.int 2), (P.int 3)]), (P.tup [(P.int 0), (P.int 3)]), (P.tup [(P.int 4), (P.int 1)]), (P.tup [(P.int 5), (P.int 2)])])), ([(P.tup [(P.str [98]), (P.str [99]), (P.str [97]), (P.str [98]), (P.str [99]), (P.str [97])]), (P.str [111, 112, 101, 110])], (P.tup [(P.tup [(P.int 0), (P.int 1)]), (P.tup [(P.int 2), (P.int 0)]), (P.tup [(P.int 3), (P.int 0)]), (P.tup [(P.int 4), (P.int 1)]), (P.tup [(P.int 5), (P.int 2)])])), ([(P.tup [(P.str [98]), (P.str [99]), (P.str [97]), (P.str [98]), (P.str [99]), (P.str [97])]), (P.str [116, 117, 114, 110, 115])], (P.tup [(P.tup [(P.int 0), (P.int 1)]), (P.tup [(P.int 2), (P.int 0)]), (P.tup [(P.int 3), (P.int 0)]), (P.tup [(P.int 4), (P.int 1)]), (P.tup [(P.int 5), (P.int 2)])])), ([(P.tup [(P.str [98]), (P.str [99]), (P.str [97]), (P.str [99]), (P.str [97]), (P.str [98])]), (P.str [115, 104, 117, 116])], (P.tup [(P.tup [(P.int 0), (P.int 1)]), (P.tup [(P.int 2), (P.int 3)]), (P.tup [(P.int 1), (P.int 3)]), (P.tup [(P.int 4), (P.int 2)]), (P.tup [(P.int 5), (P.int 0)])])), ([(P.tup [(P.str [98]), (P.str [99]), (P.str [97]), (P.str [99]), (P.str [97]), (P.str [98])]), (P.str [111, 112, 101, 110])], (P.tup [(P.tup [(P.int 0), (P.int 1)]), (P.tup [(P.int 2), (P.int 0)]), (P.tup [(P.int 3), (P.int 1)]), (P.tup [(P.int 4), (P.int 2)]), (P.tup [(P.int 5), (P.int 0)])])), ([(P.tup [(P.str [98]), (P.str [99]), (P.str [97]), (P.str [99]), (P.str [97]), (P.str [98])]), (P.str [116, 117, 114, 110, 115])], (P.tup [(P.tup [(P.int 0), (P.int 1)]), (P.tup [(P.int 2), (P.int 0)]), (P.tup [(P.int 3), (P.int 1)]), (P.tup [(P.int 4), (P.int 2)]), (P.tup [(P.int 5), (P.int 0)])]))]
theorem to__law_played_14 : tabOk C__law_played t__law_played_14 = true := by decide +kernel
def t__law_played_15 : List (List P × P) := [([(P.tup [(P.str [98]), (P.str [99]), (P.str [97]), (P.str [99]), (P.str [98]), (P.str [97])]), (P.str [115, 104, 117, 116])], (P.tup [(P.tup [(P.int 0), (P.int 1)]), (P.tup [(P.int 2), (P.int 3)]), (P.tup [(P.int 1), (P.int 3)]), (P.tup [(P.int 4), (P.int 0)]), (P.tup [(P.int 5), (P.int 2)])])), ([(P.tup [(P.str [98]), (P.str [99]), (P.str [97]), (P.str [99]), (P.str [98]), (P.str [97])]), (P.str [111, 112, 101, 110])], (P.tup [(P.tup [(P.int 0), (P.int 1)]), (P.tup [(P.int 2), (P.int 0)]), (P.tup [(P.int 3), (P.int 1)]), (P.tup [(P.int 4), (P.int 0)]), (P.tup [(P.int 5), (P.int 2)])])), ([(P.tup [(P.str [98]), (P.str [99]), (P.str [97]), (P.str [99]), (P.str [98]), (P.str [97])]), (P.str [116, 117, 114, 110, 115])], (P.tup [(P.tup [(P.int 0), (P.int 1)]), (P.tup [(P.int 2), (P.int 0)]), (P.tup [(P.int 3), (P.int 1)]), (P.tup [(P.int 4), (P.int 0)]), (P.tup [(P.int 5), (P.int 2)])])), ([(P.tup [(P.str [98]), (P.str [99]), (P.str [98]), (P.str [97]), (P.str [97]), (P.str [99])]), (P.str [115, 104, 117, 116])], (P.tup [(P.tup [(P.int 0), (P.int 1)]), (P.tup [(P.int 2), (P.int 0)]), (P.tup [(P.int 3), (P.int 4)]), (P.tup [(P.int 5), (P.int 1)])])), ([(P.tup [(P.str [98]), (P.str [99]), (P.str [98]), (P.str [97]), (P.str [97]), (P.str [99])]), (P.str [111, 112, 101, 110])], (P.tup [(P.tup [(P.int 0), (P.int 1)]), (P.tup [(P.int 2), (P.int 0)]), (P.tup [(P.int 3), (P.int 1)]), (P.tup [(P.int 4), (P.int 3)]), (P.tup [(P.int 5), (P.int 1)])])), ([(P.tup [(P.str [98]), (P.str [99]), (P.str [98]), (P.str [97]), (P.str [97]), (P.str [99])]), (P.str [116, 117, 114, 110, 115])], (P.tup [(P.tup [(P.int 0), (P.int 1)]), (P.tup [(P.int 2), (P.int 0)]), (P.tup [(P.int 3), (P.int 4)]), (P.tup [(P.int 5), (P.int 1)])])), ([(P.tup [(P.str [98]), (P.str [99]), (P.str [98]), (P.str [97]), (P.str [99]), (P.str [97])]), (P.str [115, 104, 117, 116])], (P.tup [(P.tup [(P.int 0), (P.int 1)]), (P.tup [(P.int 2), (P.int 0)]), (P.tup [(P.int 3), (P.int 4)]), (P.tup [(P.int 1), (P.int 4)]), (P.tup [(P.int 5), (P.int 3)])])), ([(P.tup [(P.str [98]), (P.str [99]), (P.str [98]), (P.str [97]), (P.str [99]), (P.str [97])]), (P.str [111, 112, 101, 110])], (P.tup [(P.tup [(P.int 0), (P.int 1)]), (P.tup [(P.int 2), (P.int 0)]), (P.tup [(P.int 3), (P.int 1)]), (P.tup [(P.int 4), (P.int 1)]), (P.tup [(P.int 5), (P.int 3)])])), ([(P.tup [(P.str [98]), (P.str [99]), (P.str [98]), (P.str [97]), (P.str [99]), (P.str [97])]), (P.str [116, 117, 114, 110, 115])], (P.tup [(P.tup [(P.int 0), (P.int 1)]), (P.tup [(P.int 2), (P.int 0)]), (P.tup [(P.int 3), (P.int 4)]), (P.tup [(P.int 1), (P.int 4)]), (P.tup [(P.int 5), (P.int 3)])])), ([(P.tup [(P.str [98]), (P.str [99]), (P.str [98]), (P.str [99]), (P.str [97]), (P.str [97])]), (P.str [115, 104, 117, 116])], (P.tup [(P.tup [(P.int 0), (P.int 1)]), (P.tup [(P.int 2), (P.int 0)]), (P.tup [(P.int 3), (P.int 1)]), (P.tup [(P.int 4), (P.int 5)])])), ([(P.tup [(P.str [98]), (P.str [99]), (P.str [98]), (P.str [99]), (P.str [97]), (P.str [97])]), (P.str [111, 112, 101, 110])], (P.tup [(P.tup [(P.int 0), (P.int 1)]), (P.tup [(P.int 2), (P.int 0)]), (P.tup [(P.int 3), (P.int 1)]), (P.tup [(P.int 4), (P.int 5)])])), ([(P.tup [(P.str [98]), (P.str [99]), (P.str [98]), (P.str [99]), (P.str [97]), (P.str [97])]), (P.str [116, 117, 114, 110, 115])], (P.tup [(P.tup [(P.int 0), (P.int 1)]), (P.tup [(P.int 2), (P.int 0)]), (P.tup [(P.int 3), (P.int 1)]), (P.tup [(P.int 4), (P.int 5)])]))]
theorem to__law_played_15 : tabOk C__law_played t__law_played_15 = true := by decide +kernel
def t__law_played_16 : List (List P × P) := [([(P.tup [(P.str [98]), (P.str [99]), (P.str [99]), (P.str [97]), (P.str [97]), (P.str [98])]), (P.str [115, 104, 117, 116])], (P.tup [(P.tup [(P.int 0), (P.int 1)]), (P.tup [(P.int 2), (P.int 1)]), (P.tup [(P.int 3), (P.int 4)]), (P.tup [(P.int 5), (P.int 0)])])), ([(P.tup [(P.str [98]), (P.str [99]), (P.str [99]), (P.str [97]), (P.str [97]), (P.str [98])]), (P.str [111, 112, 101, 110])], (P.tup [(P.tup [(P.int 0), (P.int 1)]), (P.tup [(P.int 2), (P.int 1)]), (P.tup [(P.int 3), (P.int 0)]), (P.tup [(P.int 4), (P.int 3)]), (P.tup [(P.int 5), (P.int 0)])])), ([(P.tup [(P.str [98]), (P.str [99]), (P.str [99]), (P.str [97]), (P.str [97]), (P.str [98])]), (P.str [116, 117, 114, 110, 115])], (P.tup [(P.tup [(P.int 0), (P.int 1)]), (P.tup [(P.int 2), (P.int 1)]), (P.tup [(P.int 3), (P.int 4)]), (P.tup [(P.int 5), (P.int 0)])])), ([(P.tup [(P.str [98]), (P.str [99]), (P.str [99]), (P.str [97]), (P.str [98]), (P.str [97])]), (P.str [115, 104, 117, 116])], (P.tup [(P.tup [(P.int 0), (P.int 1)]), (P.tup [(P.int 2), (P.int 1)]), (P.tup [(P.int 3), (P.int 4)]), (P.tup [(P.int 0), (P.int 4)]), (P.tup [(P.int 5), (P.int 3)])])), ([(P.tup [(P.str [98]), (P.str [99]), (P.str [99]), (P.str [97]), (P.str [98]), (P.str [97])]), (P.str [111, 112, 101, 110])], (P.tup [(P.tup [(P.int 0), (P.int 1)]), (P.tup [(P.int 2), (P.int 1)]), (P.tup [(P.int 3), (P.int 0)]), (P.tup [(P.int 4), (P.int 0)]), (P.tup [(P.int 5), (P.int 3)])])), ([(P.tup [(P.str [98]), (P.str [99]), (P.str [99]), (P.str [97]), (P.str [98]), (P.str [97])]), (P.str [116, 117, 114, 110, 115])], (P.tup [(P.tup [(P.int 0), (P.int 1)]), (P.tup [(P.int 2), (P.int 1)]), (P.tup [(P.int 3), (P.int 4)]), (P.tup [(P.int 0), (P.int 4)]), (P.tup [(P.int 5), (P.int 3)])])), ([(P.tup [(P.str [98]), (P.str [99]), (P.str [99]), (P.str [98]), (P.str [97]), (P.str [97])]), (P.str [115, 104, 117, 116])], (P.tup [(P.tup [(P.int 0), (P.int 1)]), (P.tup [(P.int 2), (P.int 1)]), (P.tup [(P.int 3), (P.int 0)]), (P.tup [(P.int 4), (P.int 5)])])), ([(P.tup [(P.str [98]), (P.str [99]), (P.str [99]), (P.str [98]), (P.str [97]), (P.str [97])]), (P.str [111, 112, 101, 110])], (P.tup [(P.tup [(P.int 0), (P.int 1)]), (P.tup [(P.int 2), (P.int 1)]), (P.tup [(P.int 3), (P.int 0)]), (P.tup [(P.int 4), (P.int 5)])])), ([(P.tup [(P.str [98]), (P.str [99]), (P.str [99]), (P.str [98]), (P.str [97]), (P.str [97])]), (P.str [116, 117, 114, 110, 115])], (P.tup [(P.tup [(P.int 0), (P.int 1)]), (P.tup [(P.int 2), (P.int 1)]), (P.tup [(P.int 3), (P.int 0)]), (P.tup [(P.int 4), (P.int 5)])])), ([(P.tup [(P.str [99]), (P.str [97]), (P.str [97]), (P.str [98]), (P.str [98]), (P.str [99])]), (P.str [115, 104, 117, 116])], (P.tup [(P.tup [(P.int 0), (P.int 1)]), (P.tup [(P.int 2), (P.int 1)]), (P.tup [(P.int 3), (P.int 4)]), (P.tup [(P.int 5), (P.int 0)])])), ([(P.tup [(P.str [99]), (P.str [97]), (P.str [97]), (P.str [98]), (P.str [98]), (P.str [99])]), (P.str [111, 112, 101, 110])], (P.tup [(P.tup [(P.int 0), (P.int 1)]), (P.tup [(P.int 2), (P.int 1)]), (P.tup [(P.int 3), (P.int 0)]), (P.tup [(P.int 4), (P.int 3)]), (P.tup [(P.int 5), (P.int 0)])])), ([(P.tup [(P.str [99]), (P.str [97]), (P.str [97]), (P.str [98]), (P.str [98]), (P.str [99])]), (P.str [116, 117, 114, 110, 115])], (P.tup [(P.tup [(P.int 0), (P.int 1)]), (P.tup [(P.int 2), (P.int 1)]), (P.tup [(P.int 3), (P.int 4)]), (P.tup [(P.int 5), (P.int 0)])]))]
theorem to__law_played_16 : tabOk C__law_played t__law_played_16 = true := by decide +kernel
def t__law_played_17 : List (List P × P) := [([(P.tup [(P.str [99]), (P.str [97]), (P.str [97]), (P.str [98]), (P.str [99]), (P.str [98])]), (P.str [115, 104, 117, 116])], (P.tup [(P.tup [(P.int 0), (P.int 1)]), (P.tup [(P.int 2), (P.int 1)]), (P.tup [(P.int 3), (P.int 4)]), (P.tup [(P.int 0), (P.int 4)]), (P.tup [(P.int 5), (P.int 3)])])), ([(P.tup [(P.str [99]), (P.str [97]), (P.str [97]), (P.str [98]), (P.str [99]), (P.str [98])]), (P.str [111, 112, 101, 110])], (P.tup [(P.tup [(P.int 0), (P.int 1)]), (P.tup [(P.int 2), (P.int 1)]), (P.tup [(P.int 3), (P.int 0)]), (P.tup [(P.int 4), (P.int 0)]), (P.tup [(P.int 5), (P.int 3)])])), ([(P.tup [(P.str [99]), (P.str [97]), (P.str [97]), (P.str [98]), (P.str [99]), (P.str [98])]), (P.str [116, 117, 114, 110, 115])], (P.tup [(P.tup [(P.int 0), (P.int 1)]), (P.tup [(P.int 2), (P.int 1)]), (P.tup [(P.int 3), (P.int 4)]), (P.tup [(P.int 0), (P.int 4)]), (P.tup [(P.int 5), (P.int 3)])])), ([(P.tup [(P.str [99]), (P.str [97]), (P.str [97]), (P.str [99]), (P.str [98]), (P.str [98])]), (P.str [115, 104, 117, 116])], (P.tup [(P.tup [(P.int 0), (P.int 1)]), (P.tup [(P.int 2), (P.int 1)]), (P.tup [(P.int 3), (P.int 0)]), (P.tup [(P.int 4), (P.int 5)])])), ([(P.tup [(P.str [99]), (P.str [97]), (P.str [97]), (P.str [99]), (P.str [98]), (P.str [98])]), (P.str [111, 112, 101, 110])], (P.tup [(P.tup [(P.int 0), (P.int 1)]), (P.tup [(P.int 2), (P.int 1)]), (P.tup [(P.int 3), (P.int 0)]), (P.tup [(P.int 4), (P.int 5)])])), ([(P.tup [(P.str [99]), (P.str [97]), (P.str [97]), (P.str [99]), (P.str [98]), (P.str [98])]), (P.str [116, 117, 114, 110, 115])], (P.tup [(P.tup [(P.int 0), (P.int 1)]), (P.tup [(P.int 2), (P.int 1)]), (P.tup [(P.int 3), (P.int 0)]), (P.tup [(P.int 4), (P.int 5)])])), ([(P.tup [(P.str [99]), (P.str [97]), (P.str [98]), (P.str [97]), (P.str [98]), (P.str [99])]), (P.str [115, 104, 117, 116])], (P.tup [(P.tup [(P.int 0), (P.int 1)]), (P.tup [(P.int 2), (P.int 3)]), (P.tup [(P.int 1), (P.int 3)]), (P.tup [(P.int 4), (P.int 2)]), (P.tup [(P.int 5), (P.int 0)])])), ([(P.tup [(P.str [99]), (P.str [97]), (P.str [98]), (P.str [97]), (P.str [98]), (P.str [99])]), (P.str [111, 112, 101, 110])], (P.tup [(P.tup [(P.int 0), (P.int 1)]), (P.tup [(P.int 2), (P.int 0)]), (P.tup [(P.int 3), (P.int 1)]), (P.tup [(P.int 4), (P.int 2)]), (P.tup [(P.int 5), (P.int 0)])])), ([(P.tup [(P.str [99]), (P.str [97]), (P.str [98]), (P.str [97]), (P.str [98]), (P.str [99])]), (P.str [116, 117, 114, 110, 115])], (P.tup [(P.tup [(P.int 0), (P.int 1)]), (P.tup [(P.int 2), (P.int 0)]), (P.tup [(P.int 3), (P.int 1)]), (P.tup [(P.int 4), (P.int 2)]), (P.tup [(P.int 5), (P.int 0)])])), ([(P.tup [(P.str [99]), (P.str [97]), (P.str [98]), (P.str [97]), (P.str [99]), (P.str [98])]), (P.str [115, 104, 117, 116])], (P.tup [(P.tup [(P.int 0), (P.int 1)]), (P.tup [(P.int 2), (P.int 3)]), (P.tup [(P.int 1), (P.int 3)]), (P.tup [(P.int 4), (P.int 0)]), (P.tup [(P.int 5), (P.int 2)])])), ([(P.tup [(P.str [99]), (P.str [97]), (P.str [98]), (P.str [97]), (P.str [99]), (P.str [98])]), (P.str [111, 112, 101, 110])], (P.tup [(P.tup [(P.int 0), (P.int 1)]), (P.tup [(P.int 2), (P.int 0)]), (P.tup [(P.int 3), (P.int 1)]), (P.tup [(P.int 4), (P.int 0)]), (P.tup [(P.int 5), (P.int 2)])])), ([(P.tup [(P.str [99]), (P.str [97]), (P.str [98]), (P.str [97]), (P.str [99]), (P.str [98])]), (P.str [116, 117, 114, 110, 115])], (P.tup [(P.tup [(P.int 0), (P.int 1)]), (P.tup [(P.int 2), (P.int 0)]), (P.tup [(P.int 3), (P.int 1)]), (P.tup [(P.int 4), (P.int 0)]), (P.tup [(P.int 5), (P.int 2)])]))]
theorem to__law_played_17 : tabOk C__law_played t__law_played_17 = true := by decide +kernel
def t__law_played_18 : List (List P × P) := [([(P.tup [(P.str [99]), (P.str [97]), (P.str [98]), (P.str [98]), (P.str [97]), (P.str [99])]), (P.str [115, 104, 117, 116])], (P.tup [(P.tup [(P.int 0), (P.int 1)]), (P.tup [(P.int 2), (P.int 3)]), (P.tup [(P.int 4), (P.int 1)]), (P.tup [(P.int 5), (P.int 0)])])), ([(P.tup [(P.str [99]), (P.str [97]), (P.str [98]), (P.str [98]), (P.str [97]), (P.str [99])]), (P.str [111, 112, 101, 110])], (P.tup [(P.tup [(P.int 0), (P.int 1)]), (P.tup [(P.int 2), (P.int 0)]), (P.tup [(P.int 3), (P.int 2)]), (P.tup [(P.int 4), (P.int 1)]), (P.tup [(P.int 5), (P.int 0)])])), ([(P.tup [(P.str [99]), (P.str [97]), (P.str [98]), (P.str [98]), (P.str [97]), (P.str [99])]), (P.str [116, 117, 114, 110, 115])], (P.tup [(P.tup [(P.int 0), (P.int 1)]), (P.tup [(P.int 2), (P.int 0)]), (P.tup [(P.int 3), (P.int 2)]), (P.tup [(P.int 4), (P.int 1)]), (P.tup [(P.int 5), (P.int 0)])])), ([(P.tup [(P.str [99]), (P.str [97]), (P.str [98]), (P.str [98]), (P.str [99]), (P.str [97])]), (P.str [115, 104, 117, 116])], (P.tup [(P.tup [(P.int 0), (P.int 1)]), (P.tup [(P.int 2), (P.int 3)]), (P.tup [(P.int 4), (P.int 0)]), (P.tup [(P.int 5), (P.int 1)])])), ([(P.tup [(P.str [99]), (P.str [97]), (P.str [98]), (P.str [98]), (P.str [99]), (P.str [97])]), (P.str [111, 112, 101, 110])], (P.tup [(P.tup [(P.int 0), (P.int 1)]), (P.tup [(P.int 2), (P.int 0)]), (P.tup [(P.int 3), (P.int 2)]), (P.tup [(P.int 4), (P.int 0)]), (P.tup [(P.int 5), (P.int 1)])])), ([(P.tup [(P.str [99]), (P.str [97]), (P.str [98]), (P.str [98]), (P.str [99]), (P.str [97])]), (P.str [116, 117, 114, 110, 115])], (P.tup [(P.tup [(P.int 0), (P.int 1)]), (P.tup [(P.int 2), (P.int 0)]), (P.tup [(P.int 3), (P.int 2)]), (P.tup [(P.int 4), (P.int 0)]), (P.tup [(P.int 5), (P.int 1)])])), ([(P.tup [(P.str [99]), (P.str [97]), (P.str [98]), (P.str [99]), (P.str [97]), (P.str [98])]), (P.str [115, 104, 117, 116])], (P.tup [(P.tup [(P.int 0), (P.int 1)]), (P.tup [(P.int 2), (P.int 3)]), (P.tup [(P.int 0), (P.int 3)]), (P.tup [(P.int 4), (P.int 1)]), (P.tup [(P.int 5), (P.int 2)])])), ([(P.tup [(P.str [99]), (P.str [97]), (P.str [98]), (P.str [99]), (P.str [97]), (P.str [98])]), (P.str [111, 112, 101, 110])], (P.tup [(P.tup [(P.int 0), (P.int 1)]), (P.tup [(P.int 2), (P.int 0)]), (P.tup [(P.int 3), (P.int 0)]), (P.tup [(P.int 4), (P.int 1)]), (P.tup [(P.int 5), (P.int 2)])])), ([(P.tup [(P.str [99]), (P.str [97]), (P.str [98]), (P.str [99]), (P.str [97]), (P.str [98])]), (P.str [116, 117, 114, 110, 115])], (P.tup [(P.tup [(P.int 0), (P.int 1)]), (P.tup [(P.int 2), (P.int 0)]), (P.tup [(P.int 3), (P.int 0)]), (P.tup [(P.int 4), (P.int 1)]), (P.tup [(P.int 5), (P.int 2)])])), ([(P.tup [(P.str [99]), (P.str [97]), (P.str [98]), (P.str [99]), (P.str [98]), (P.str [97])]), (P.str [115, 104, 117, 116])], (P.tup [(P.tup [(P.int 0), (P.int 1)]), (P.tup [(P.int 2), (P.int 3)]), (P.tup [(P.int 0), (P.int 3)]), (P.tup [(P.int 4), (P.int 2)]), (P.tup [(P.int 5), (P.int 1)])])), ([(P.tup [(P.str [99]), (P.str [97]), (P.str [98]), (P.str [99]), (P.str [98]), (P.str [97])]), (P.str [111, 112, 101, 110])], (P.tup [(P.tup [(P.int 0), (P.int 1)]), (P.tup [(P.int 2), (P.int 0)]), (P.tup [(P.int 3), (P.int 0)]), (P.tup [(P.int 4), (P.int 2)]), (P.tup [(P.int 5), (P.int 1)])])), ([(P.tup [(P.str [99]), (P.str [97]), (P.str [98]), (P.str [99]), (P.str [98]), (P.str [97])]), (P.str [116, 117, 114, 110, 115])], (P.tup [(P.tup [(P.int 0), (P.int 1)]), (P.tup [(P.int 2), (P.int 0)]), (P.tup [(P.int 3), (P.int 0)]), (P.tup [(P.int 4), (P.int 2)]), (P.tup [(P.int 5), (P.int 1)])]))]
theorem to__law_played_18 : tabOk C__law_played t__law_played_18 = true := by decide +kernel
def t__law_played_19 : List (List P × P) := [([(P.tup [(P.str [99]), (P.str [97]), (P.str [99]), (P.str [97]), (P.str [98]), (P.str [98])]), (P.str [115, 104, 117, 116])], (P.tup [(P.tup [(P.int 0), (P.int 1)]), (P.tup [(P.int 2), (P.int 0)]), (P.tup [(P.int 3), (P.int 1)]), (P.tup [(P.int 4), (P.int 5)])])), ([(P.tup [(P.str [99]), (P.str [97]), (P.str [99]), (P.str [97]), (P.str [98]), (P.str [98])]), (P.str [111, 112, 101, 110])], (P.tup [(P.tup [(P.int 0), (P.int 1)]), (P.tup [(P.int 2), (P.int 0)]), (P.tup [(P.int 3), (P.int 1)]), (P.tup [(P.int 4), (P.int 5)])])), ([(P.tup [(P.str [99]), (P.str [97]), (P.str [99]), (P.str [97]), (P.str [98]), (P.str [98])]), (P.str [116, 117, 114, 110, 115])], (P.tup [(P.tup [(P.int 0), (P.int 1)]), (P.tup [(P.int 2), (P.int 0)]), (P.tup [(P.int 3), (P.int 1)]), (P.tup [(P.int 4), (P.int 5)])])), ([(P.tup [(P.str [99]), (P.str [97]), (P.str [99]), (P.str [98]), (P.str [97]), (P.str [98])]), (P.str [115, 104, 117, 116])], (P.tup [(P.tup [(P.int 0), (P.int 1)]), (P.tup [(P.int 2), (P.int 0)]), (P.tup [(P.int 3), (P.int 4)]), (P.tup [(P.int 1), (P.int 4)]), (P.tup [(P.int 5), (P.int 3)])])), ([(P.tup [(P.str [99]), (P.str [97]), (P.str [99]), (P.str [98]), (P.str [97]), (P.str [98])]), (P.str [111, 112, 101, 110])], (P.tup [(P.tup [(P.int 0), (P.int 1)]), (P.tup [(P.int 2), (P.int 0)]), (P.tup [(P.int 3), (P.int 1)]), (P.tup [(P.int 4), (P.int 1)]), (P.tup [(P.int 5), (P.int 3)])])), ([(P.tup [(P.str [99]), (P.str [97]), (P.str [99]), (P.str [98]), (P.str [97]), (P.str [98])]), (P.str [116, 117, 114, 110, 115])], (P.tup [(P.tup [(P.int 0), (P.int 1)]), (P.tup [(P.int 2), (P.int 0)]), (P.tup [(P.int 3), (P.int 4)]), (P.tup [(P.int 1), (P.int 4)]), (P.tup [(P.int 5), (P.int 3)])])), ([(P.tup [(P.str [99]), (P.str [97]), (P.str [99]), (P.str [98]), (P.str [98]), (P.str [97])]), (P.str [115, 104, 117, 116])], (P.tup [(P.tup [(P.int 0), (P.int 1)]), (P.tup [(P.int 2), (P.int 0)]), (P.tup [(P.int 3), (P.int 4)]), (P.tup [(P.int 5), (P.int 1)])])), ([(P.tup [(P.str [99]), (P.str [97]), (P.str [99]), (P.str [98]), (P.str [98]), (P.str [97])]), (P.str [111, 112, 101, 110])], (P.tup [(P.tup [(P.int 0), (P.int 1)]), (P.tup [(P.int 2), (P.int 0)]), (P.tup [(P.int 3), (P.int 1)]), (P.tup [(P.int 4), (P.int 3)]), (P.tup [(P.int 5), (P.int 1)])])), ([(P.tup [(P.str [99]), (P.str [97]), (P.str [99]), (P.str [98]), (P.str [98]), (P.str [97])]), (P.str [116, 117, 114, 110, 115])], (P.tup [(P.tup [(P.int 0), (P.int 1)]), (P.tup [(P.int 2), (P.int 0)]), (P.tup [(P.int 3), (P.int 4)]), (P.tup [(P.int 5), (P.int 1)])])), ([(P.tup [(P.str [99]), (P.str [98]), (P.str [97]), (P.str [97]), (P.str [98]), (P.str [99])]), (P.str [115, 104, 117, 116])], (P.tup [(P.tup [(P.int 0), (P.int 1)]), (P.tup [(P.int 2), (P.int 3)]), (P.tup [(P.int 4), (P.int 1)]), (P.tup [(P.int 5), (P.int 0)])])), ([(P.tup [(P.str [99]), (P.str [98]), (P.str [97]), (P.str [97]), (P.str [98]), (P.str [99])]), (P.str [111, 112, 101, 110])], (P.tup [(P.tup [(P.int 0), (P.int 1)]), (P.tup [(P.int 2), (P.int 0)]), (P.tup [(P.int 3), (P.int 2)]), (P.tup [(P.int 4), (P.int 1)]), (P.tup [(P.int 5), (P.int 0)])])), ([(P.tup [(P.str [99]), (P.str [98]), (P.str [97]), (P.str [97]), (P.str [98]), (P.str [99])]), (P.str [116, 117, 114, 110, 115])], (P.tup [(P.tup [(P.int 0), (P.int 1)]), (P.tup [(P.int 2), (P.int 0)]), (P.tup [(P.int 3), (P.int 2)]), (P.tup [(P.int 4), (P.int 1)]), (P.tup [(P.int 5), (P.int 0)])]))]
theorem to__law_played_19 : tabOk C__law_played t__law_played_19 = true := by decide +kernel
def t__law_played_20 : List (List P × P) := [([(P.tup [(P.str [99]), (P.str [98]), (P.str [97]), (P.str [97]), (P.str [99]), (P.str [98])]), (P.str [115, 104, 117, 116])], (P.tup [(P.tup [(P.int 0), (P.int 1)]), (P.tup [(P.int 2), (P.int 3)]), (P.tup [(P.int 4), (P.int 0)]), (P.tup [(P.int 5), (P.int 1)])])), ([(P.tup [(P.str [99]), (P.str [98]), (P.str [97]), (P.str [97]), (P.str [99]), (P.str [98])]), (P.str [111, 112, 101, 110])], (P.tup [(P.tup [(P.int 0), (P.int 1)]), (P.tup [(P.int 2), (P.int 0)]), (P.tup [(P.int 3), (P.int 2)]), (P.tup [(P.int 4), (P.int 0)]), (P.tup [(P.int 5), (P.int 1)])])), ([(P.tup [(P.str [99]), (P.str [98]), (P.str [97]), (P.str [97]), (P.str [99]), (P.str [98])]), (P.str [116, 117, 114, 110, 115])], (P.tup [(P.tup [(P.int 0), (P.int 1)]), (P.tup [(P.int 2), (P.int 0)]), (P.tup [(P.int 3), (P.int 2)]), (P.tup [(P.int 4), (P.int 0)]), (P.tup [(P.int 5), (P.int 1)])])), ([(P.tup [(P.str [99]), (P.str [98]), (P.str [97]), (P.str [98]), (P.str [97]), (P.str [99])]), (P.str [115, 104, 117, 116])], (P.tup [(P.tup [(P.int 0), (P.int 1)]), (P.tup [(P.int 2), (P.int 3)]), (P.tup [(P.int 1), (P.int 3)]), (P.tup [(P.int 4), (P.int 2)]), (P.tup [(P.int 5), (P.int 0)])])), ([(P.tup [(P.str [99]), (P.str [98]), (P.str [97]), (P.str [98]), (P.str [97]), (P.str [99])]), (P.str [111, 112, 101, 110])], (P.tup [(P.tup [(P.int 0), (P.int 1)]), (P.tup [(P.int 2), (P.int 0)]), (P.tup [(P.int 3), (P.int 1)]), (P.tup [(P.int 4), (P.int 2)]), (P.tup [(P.int 5), (P.int 0)])])), ([(P.tup [(P.str [99]), (P.str [98]), (P.str [97]), (P.str [98]), (P.str [97]), (P.str [99])]), (P.str [116, 117, 114, 110, 115])], (P.tup [(P.tup [(P.int 0), (P.int 1)]), (P.tup [(P.int 2), (P.int 0)]), (P.tup [(P.int 3), (P.int 1)]), (P.tup [(P.int 4), (P.int 2)]), (P.tup [(P.int 5), (P.int 0)])])), ([(P.tup [(P.str [99]), (P.str [98]), (P.str [97]), (P.str [98]), (P.str [99]), (P.str [97])]), (P.str [115, 104, 117, 116])], (P.tup [(P.tup [(P.int 0), (P.int 1)]), (P.tup [(P.int 2), (P.int 3)]), (P.tup [(P.int 1), (P.int 3)]), (P.tup [(P.int 4), (P.int 0)]), (P.tup [(P.int 5), (P.int 2)])])), ([(P.tup [(P.str [99]), (P.str [98]), (P.str [97]), (P.str [98]), (P.str [99]), (P.str [97])]), (P.str [111, 112, 101, 110])], (P.tup [(P.tup [(P.int 0), (P.int 1)]), (P.tup [(P.int 2), (P.int 0)]), (P.tup [(P.int 3), (P.int 1)]), (P.tup [(P.int 4), (P.int 0)]), (P.tup [(P.int 5), (P.int 2)])])), ([(P.tup [(P.str [99]), (P.str [98]), (P.str [97]), (P.str [98]), (P.str [99]), (P.str [97])]), (P.str [116, 117, 114, 110, 115])], (P.tup [(P.tup [(P.int 0), (P.int 1)]), (P.tup [(P.int 2), (P.int 0)]), (P.tup [(P.int 3), (P.int 1)]), (P.tup [(P.int 4), (P.int 0)]), (P.tup [(P.int 5), (P.int 2)])])), ([(P.tup [(P.str [99]), (P.str [98]), (P.str [97]), (P.str [99]), (P.str [97]), (P.str [98])]), (P.str [115, 104, 117, 116])], (P.tup [(P.tup [(P.int 0), (P.int 1)]), (P.tup [(P.int 2), (P.int 3)]), (P.tup [(P.int 0), (P.int 3)]), (P.tup [(P.int 4), (P.int 2)]), (P.tup [(P.int 5), (P.int 1)])])), ([(P.tup [(P.str [99]), (P.str [98]), (P.str [97]), (P.str [99]), (P.str [97]), (P.str [98])]), (P.str [111, 112, 101, 110])], (P.tup [(P.tup [(P.int 0), (P.int 1)]), (P.tup [(P.int 2), (P.int 0)]), (P.tup [(P.int 3), (P.int 0)]), (P.tup [(P.int 4), (P.int 2)]), (P.tup [(P.int 5), (P.int 1)])])), ([(P.tup [(P.str [99]), (P.str [98]), (P.str [97]), (P.str [99]), (P.str [97]), (P.str [98])]), (P.str [116, 117, 114, 110, 115])], (P.tup [(P.tup [(P.int 0), (P.int 1)]), (P.tup [(P.int 2), (P.int 0)]), (P.tup [(P.int 3), (P.int 0)]), (P.tup [(P.int 4), (P.int 2)]), (P.tup [(P.int 5), (P.int 1)])]))]
theorem to__law_played_20 : tabOk C__law_played t__law_played_20 = true := by decide +kernel
def t__law_played_21 : List (List P × P) := [([(P.tup [(P.str [99]), (P.str [98]), (P.str [97]), (P.str [99]), (P.str [98]), (P.str [97])]), (P.str [115, 104, 117, 116])], (P.tup [(P.tup [(P.int 0), (P.int 1)]), (P.tup [(P.int 2), (P.int 3)]), (P.tup [(P.int 0), (P.int 3)]), (P.tup [(P.int 4), (P.int 1)]), (P.tup [(P.int 5), (P.int 2)])])), ([(P.tup [(P.str [99]), (P.str [98]), (P.str [97]), (P.str [99]), (P.str [98]), (P.str [97])]), (P.str [111, 112, 101, 110])], (P.tup [(P.tup [(P.int 0), (P.int 1)]), (P.tup [(P.int 2), (P.int 0)]), (P.tup [(P.int 3), (P.int 0)]), (P.tup [(P.int 4), (P.int 1)]), (P.tup [(P.int 5), (P.int 2)])])), ([(P.tup [(P.str [99]), (P.str [98]), (P.str [97]), (P.str [99]), (P.str [98]), (P.str [97])]), (P.str [116, 117, 114, 110, 115])], (P.tup [(P.tup [(P.int 0), (P.int 1)]), (P.tup [(P.int 2), (P.int 0)]), (P.tup [(P.int 3), (P.int 0)]), (P.tup [(P.int 4), (P.int 1)]), (P.tup [(P.int 5), (P.int 2)])])), ([(P.tup [(P.str [99]), (P.str [98]), (P.str [98]), (P.str [97]), (P.str [97]), (P.str [99])]), (P.str [115, 104, 117, 116])], (P.tup [(P.tup [(P.int 0), (P.int 1)]), (P.tup [(P.int 2), (P.int 1)]), (P.tup [(P.int 3), (P.int 4)]), (P.tup [(P.int 5), (P.int 0)])])), ([(P.tup [(P.str [99]), (P.str [98]), (P.str [98]), (P.str [97]), (P.str [97]), (P.str [99])]), (P.str [111, 112, 101, 110])], (P.tup [(P.tup [(P.int 0), (P.int 1)]), (P.tup [(P.int 2), (P.int 1)]), (P.tup [(P.int 3), (P.int 0)]), (P.tup [(P.int 4), (P.int 3)]), (P.tup [(P.int 5), (P.int 0)])])), ([(P.tup [(P.str [99]), (P.str [98]), (P.str [98]), (P.str [97]), (P.str [97]), (P.str [99])]), (P.str [116, 117, 114, 110, 115])], (P.tup [(P.tup [(P.int 0), (P.int 1)]), (P.tup [(P.int 2), (P.int 1)]), (P.tup [(P.int 3), (P.int 4)]), (P.tup [(P.int 5), (P.int 0)])])), ([(P.tup [(P.str [99]), (P.str [98]), (P.str [98]), (P.str [97]), (P.str [99]), (P.str [97])]), (P.str [115, 104, 117, 116])], (P.tup [(P.tup [(P.int 0), (P.int 1)]), (P.tup [(P.int 2), (P.int 1)]), (P.tup [(P.int 3), (P.int 4)]), (P.tup [(P.int 0), (P.int 4)]), (P.tup [(P.int 5), (P.int 3)])])), ([(P.tup [(P.str [99]), (P.str [98]), (P.str [98]), (P.str [97]), (P.str [99]), (P.str [97])]), (P.str [111, 112, 101, 110])], (P.tup [(P.tup [(P.int 0), (P.int 1)]), (P.tup [(P.int 2), (P.int 1)]), (P.tup [(P.int 3), (P.int 0)]), (P.tup [(P.int 4), (P.int 0)]), (P.tup [(P.int 5), (P.int 3)])])), ([(P.tup [(P.str [99]), (P.str [98]), (P.str [98]), (P.str [97]), (P.str [99]), (P.str [97])]), (P.str [116, 117, 114, 110, 115])], (P.tup [(P.tup [(P.int 0), (P.int 1)]), (P.tup [(P.int 2), (P.int 1)]), (P.tup [(P.int 3), (P.int 4)]), (P.tup [(P.int 0), (P.int 4)]), (P.tup [(P.int 5), (P.int 3)])])), ([(P.tup [(P.str [99]), (P.str [98]), (P.str [98]), (P.str [99]), (P.str [97]), (P.str [97])]), (P.str [115, 104, 117, 116])], (P.tup [(P.tup [(P.int 0), (P.int 1)]), (P.tup [(P.int 2), (P.int 1)]), (P.tup [(P.int 3), (P.int 0)]), (P.tup [(P.int 4), (P.int 5)])])), ([(P.tup [(P.str [99]), (P.str [98]), (P.str [98]), (P.str [99]), (P.str [97]), (P.str [97])]), (P.str [111, 112, 101, 110])], (P.tup [(P.tup [(P.int 0), (P.int 1)]), (P.tup [(P.int 2), (P.int 1)]), (P.tup [(P.int 3), (P.int 0)]), (P.tup [(P.int 4), (P.int 5)])])), ([(P.tup [(P.str [99]), (P.str [98]), (P.str [98]), (P.str [99]), (P.str [97]), (P.str [97])]), (P.str [116, 117, 114, 110, 115])], (P.tup [(P.tup [(P.int 0), (P.int 1)]), (P.tup [(P.int 2), (P.int 1)]), (P.tup [(P.int 3), (P.int 0)]), (P.tup [(P.int 4), (P.int 5)])]))]
theorem to__law_played_21 : tabOk C__law_played t__law_played_21 = true := by decide +kernel
def t__law_played_22 : List (List P × P) := [([(P.tup [(P.str [99]), (P.str [98]), (P.str [99]), (P.str [97]), (P.str [97]), (P.str [98])]), (P.str [115, 104, 117, 116])], (P.tup [(P.tup [(P.int 0), (P.int 1)]), (P.tup [(P.int 2), (P.int 0)]), (P.tup [(P.int 3), (P.int 4)]), (P.tup [(P.int 5), (P.int 1)])])), ([(P.tup [(P.str [99]), (P.str [98]), (P.str [99]), (P.str [97]), (P.str [97]), (P.str [98])]), (P.str [111, 112, 101, 110])], (P.tup [(P.tup [(P.int 0), (P.int 1)]), (P.tup [(P.int 2), (P.int 0)]), (P.tup [(P.int 3), (P.int 1)]), (P.tup [(P.int 4), (P.int 3)]), (P.tup [(P.int 5), (P.int 1)])])), ([(P.tup [(P.str [99]), (P.str [98]), (P.str [99]), (P.str [97]), (P.str [97]), (P.str [98])]), (P.str [116, 117, 114, 110, 115])], (P.tup [(P.tup [(P.int 0), (P.int 1)]), (P.tup [(P.int 2), (P.int 0)]), (P.tup [(P.int 3), (P.int 4)]), (P.tup [(P.int 5), (P.int 1)])])), ([(P.tup [(P.str [99]), (P.str [98]), (P.str [99]), (P.str [97]), (P.str [98]), (P.str [97])]), (P.str [115, 104, 117, 116])], (P.tup [(P.tup [(P.int 0), (P.int 1)]), (P.tup [(P.int 2), (P.int 0)]), (P.tup [(P.int 3), (P.int 4)]), (P.tup [(P.int 1), (P.int 4)]), (P.tup [(P.int 5), (P.int 3)])])), ([(P.tup [(P.str [99]), (P.str [98]), (P.str [99]), (P.str [97]), (P.str [98]), (P.str [97])]), (P.str [111, 112, 101, 110])], (P.tup [(P.tup [(P.int 0), (P.int 1)]), (P.tup [(P.int 2), (P.int 0)]), (P.tup [(P.int 3), (P.int 1)]), (P.tup [(P.int 4), (P.int 1)]), (P.tup [(P.int 5), (P.int 3)])])), ([(P.tup [(P.str [99]), (P.str [98]), (P.str [99]), (P.str [97]), (P.str [98]), (P.str [97])]), (P.str [116, 117, 114, 110, 115])], (P.tup [(P.tup [(P.int 0), (P.int 1)]), (P.tup [(P.int 2), (P.int 0)]), (P.tup [(P.int 3), (P.int 4)]), (P.tup [(P.int 1), (P.int 4)]), (P.tup [(P.int 5), (P.int 3)])])), ([(P.tup [(P.str [99]), (P.str [98]), (P.str [99]), (P.str [98]), (P.str [97]), (P.str [97])]), (P.str [115, 104, 117, 116])], (P.tup [(P.tup [(P.int 0), (P.int 1)]), (P.tup [(P.int 2), (P.int 0)]), (P.tup [(P.int 3), (P.int 1)]), (P.tup [(P.int 4), (P.int 5)])])), ([(P.tup [(P.str [99]), (P.str [98]), (P.str [99]), (P.str [98]), (P.str [97]), (P.str [97])]), (P.str [111, 112, 101, 110])], (P.tup [(P.tup [(P.int 0), (P.int 1)]), (P.tup [(P.int 2), (P.int 0)]), (P.tup [(P.int 3), (P.int 1)]), (P.tup [(P.int 4), (P.int 5)])])), ([(P.tup [(P.str [99]), (P.str [98]), (P.str [99]), (P.str [98]), (P.str [97]), (P.str [97])]), (P.str [116, 117, 114, 110, 115])], (P.tup [(P.tup [(P.int 0), (P.int 1)]), (P.tup [(P.int 2), (P.int 0)]), (P.tup [(P.int 3), (P.int 1)]), (P.tup [(P.int 4), (P.int 5)])])), ([(P.tup [(P.str [99]), (P.str [99]), (P.str [97]), (P.str [97]), (P.str [98]), (P.str [98])]), (P.str [115, 104, 117, 116])], (P.tup [(P.tup [(P.int 0), (P.int 1)]), (P.tup [(P.int 2), (P.int 3)]), (P.tup [(P.int 4), (P.int 5)])])), ([(P.tup [(P.str [99]), (P.str [99]), (P.str [97]), (P.str [97]), (P.str [98]), (P.str [98])]), (P.str [111, 112, 101, 110])], (P.tup [(P.tup [(P.int 0), (P.int 1)]), (P.tup [(P.int 2), (P.int 3)]), (P.tup [(P.int 4), (P.int 5)])])), ([(P.tup [(P.str [99]), (P.str [99]), (P.str [97]), (P.str [97]), (P.str [98]), (P.str [98])]), (P.str [116, 117, 114, 110, 115])], (P.tup [(P.tup [(P.int 0), (P.int 1)]), (P.tup [(P.int 2), (P.int 3)]), (P.tup [(P.int 4), (P.int 5)])]))]
theorem to__law_played_22 : tabOk C__law_played t__law_played_22 = true := by decide +kernel
def t__law_played_23 : List (List P × P) := [([(P.tup [(P.str [99]), (P.str [99]), (P.str [97]), (P.str [98]), (P.str [97]), (P.str [98])]), (P.str [115, 104, 117, 116])], (P.tup [(P.tup [(P.int 0), (P.int 1)]), (P.tup [(P.int 2), (P.int 3)]), (P.tup [(P.int 4), (P.int 2)]), (P.tup [(P.int 5), (P.int 3)])])), ([(P.tup [(P.str [99]), (P.str [99]), (P.str [97]), (P.str [98]), (P.str [97]), (P.str [98])]), (P.str [111, 112, 101, 110])], (P.tup [(P.tup [(P.int 0), (P.int 1)]), (P.tup [(P.int 2), (P.int 3)]), (P.tup [(P.int 4), (P.int 2)]), (P.tup [(P.int 5), (P.int 3)])])), ([(P.tup [(P.str [99]), (P.str [99]), (P.str [97]), (P.str [98]), (P.str [97]), (P.str [98])]), (P.str [116, 117, 114, 110, 115])], (P.tup [(P.tup [(P.int 0), (P.int 1)]), (P.tup [(P.int 2), (P.int 3)]), (P.tup [(P.int 4), (P.int 2)]), (P.tup [(P.int 5), (P.int 3)])])), ([(P.tup [(P.str [99]), (P.str [99]), (P.str [97]), (P.str [98]), (P.str [98]), (P.str [97])]), (P.str [115, 104, 117, 116])], (P.tup [(P.tup [(P.int 0), (P.int 1)]), (P.tup [(P.int 2), (P.int 3)]), (P.tup [(P.int 4), (P.int 3)]), (P.tup [(P.int 5), (P.int 2)])])), ([(P.tup [(P.str [99]), (P.str [99]), (P.str [97]), (P.str [98]), (P.str [98]), (P.str [97])]), (P.str [111, 112, 101, 110])], (P.tup [(P.tup [(P.int 0), (P.int 1)]), (P.tup [(P.int 2), (P.int 3)]), (P.tup [(P.int 4), (P.int 3)]), (P.tup [(P.int 5), (P.int 2)])])), ([(P.tup [(P.str [99]), (P.str [99]), (P.str [97]), (P.str [98]), (P.str [98]), (P.str [97])]), (P.str [116, 117, 114, 110, 115])], (P.tup [(P.tup [(P.int 0), (P.int 1)]), (P.tup [(P.int 2), (P.int 3)]), (P.tup [(P.int 4), (P.int 3)]), (P.tup [(P.int 5), (P.int 2)])])), ([(P.tup [(P.str [99]), (P.str [99]), (P.str [98]), (P.str [97]), (P.str [97]), (P.str [98])]), (P.str [115, 104, 117, 116])], (P.tup [(P.tup [(P.int 0), (P.int 1)]), (P.tup [(P.int 2), (P.int 3)]), (P.tup [(P.int 4), (P.int 3)]), (P.tup [(P.int 5), (P.int 2)])])), ([(P.tup [(P.str [99]), (P.str [99]), (P.str [98]), (P.str [97]), (P.str [97]), (P.str [98])]), (P.str [111, 112, 101, 110])], (P.tup [(P.tup [(P.int 0), (P.int 1)]), (P.tup [(P.int 2), (P.int 3)]), (P.tup [(P.int 4), (P.int 3)]), (P.tup [(P.int 5), (P.int 2)])])), ([(P.tup [(P.str [99]), (P.str [99]), (P.str [98]), (P.str [97]), (P.str [97]), (P.str [98])]), (P.str [116, 117, 114, 110, 115])], (P.tup [(P.tup [(P.int 0), (P.int 1)]), (P.tup [(P.int 2), (P.int 3)]), (P.tup [(P.int 4), (P.int 3)]), (P.tup [(P.int 5), (P.int 2)])])), ([(P.tup [(P.str [99]), (P.str [99]), (P.str [98]), (P.str [97]), (P.str [98]), (P.str [97])]), (P.str [115, 104, 117, 116])], (P.tup [(P.tup [(P.int 0), (P.int 1)]), (P.tup [(P.int 2), (P.int 3)]), (P.tup [(P.int 4), (P.int 2)]), (P.tup [(P.int 5), (P.int 3)])])), ([(P.tup [(P.str [99]), (P.str [99]), (P.str [98]), (P.str [97]), (P.str [98]), (P.str [97])]), (P.str [111, 112, 101, 110])], (P.tup [(P.tup [(P.int 0), (P.int 1)]), (P.tup [(P.int 2), (P.int 3)]), (P.tup [(P.int 4), (P.int 2)]), (P.tup [(P.int 5), (P.int 3)])])), ([(P.tup [(P.str [99]), (P.str [99]), (P.str [98]), (P.str [97]), (P.str [98]), (P.str [97])]), (P.str [116, 117, 114, 110, 115])], (P.tup [(P.tup [(P.int 0), (P.int 1)]), (P.tup [(P.int 2), (P.int 3)]), (P.tup [(P.int 4), (P.int 2)]), (P.tup [(P.int 5), (P.int 3)])]))]
theorem to__law_played_23 : tabOk C__law_played t__law_played_23 = true := by decide +kernel
def t__law_played_24 : List (List P × P) := [([(P.tup [(P.str [99]), (P.str [99]), (P.str [98]), (P.str [98]), (P.str [97]), (P.str [97])]), (P.str [115, 104, 117, 116])], (P.tup [(P.tup [(P.int 0), (P.int 1)]), (P.tup [(P.int 2), (P.int 3)]), (P.tup [(P.int 4), (P.int 5)])])), ([(P.tup [(P.str [99]), (P.str [99]), (P.str [98]), (P.str [98]), (P.str [97]), (P.str [97])]), (P.str [111, 112, 101, 110])], (P.tup [(P.tup [(P.int 0), (P.int 1)]), (P.tup [(P.int 2), (P.int 3)]), (P.tup [(P.int 4), (P.int 5)])])), ([(P.tup [(P.str [99]), (P.str [99]), (P.str [98]), (P.str [98]), (P.str [97]), (P.str [97])]), (P.str [116, 117, 114, 110, 115])], (P.tup [(P.tup [(P.int 0), (P.int 1)]), (P.tup [(P.int 2), (P.int 3)]), (P.tup [(P.int 4), (P.int 5)])]))]
theorem to__law_played_24 : tabOk C__law_played t__law_played_24 = true := by decide +kernel
def t__law_played : List (List P × P) := t__law_played_0 ++ (t__law_played_1 ++ (t__law_played_2 ++ (t__law_played_3 ++ (t__law_played_4 ++ (t__law_played_5 ++ (t__law_played_6 ++ (t__law_played_7 ++ (t__law_played_8 ++ (t__law_played_9 ++ (t__law_played_10 ++ (t__law_played_11 ++ (t__law_played_12 ++ (t__law_played_13 ++ (t__law_played_14 ++ (t__law_played_15 ++ (t__law_played_16 ++ (t__law_played_17 ++ (t__law_played_18 ++ (t__law_played_19 ++ (t__law_played_20 ++ (t__law_played_21 ++ (t__law_played_22 ++ (t__law_played_23 ++ (t__law_played_24))))))))))))))))))))))))
theorem to__law_played : tabOk C__law_played t__law_played = true := tabOk_app to__law_played_0 (tabOk_app to__law_played_1 (tabOk_app to__law_played_2 (tabOk_app to__law_played_3 (tabOk_app to__law_played_4 (tabOk_app to__law_played_5 (tabOk_app to__law_played_6 (tabOk_app to__law_played_7 (tabOk_app to__law_played_8 (tabOk_app to__law_played_9 (tabOk_app to__law_played_10 (tabOk_app to__law_played_11 (tabOk_app to__law_played_12 (tabOk_app to__law_played_13 (tabOk_app to__law_played_14 (tabOk_app to__law_played_15 (tabOk_app to__law_played_16 (tabOk_app to__law_played_17 (tabOk_app to__law_played_18 (tabOk_app to__law_played_19 (tabOk_app to__law_played_20 (tabOk_app to__law_played_21 (tabOk_app to__law_played_22 (tabOk_app to__law_played_23 (to__law_played_24))))))))))))))))))))))))
def T__law_played : CC := tabC 2 t__law_played
abbrev s__law_same : Stmt := topS 39
abbrev n__law_same : List Str := ["told", "due", "k"]
theorem sc__law_same : FnScope n__law_same ["told", "due"] (defScope s__law_same) := ⟨rfl, rfl, rfl, by decide +kernel, rfl, by decide +kernel, by decide +kernel⟩
def g__law_same (C : CC) : List (Str × GE) := [("isinstance", GE.blt), ("tuple", GE.blt), ("len", GE.blt), ("all", GE.blt), ("range", GE.blt), ("_law_same", GE.fn ["told", "due"] [] C), ("bool", GE.blt), ("int", GE.blt), ("str", GE.blt)]
def B__law_same (C : CC) : CS := (sSeq (sIf (cTest (c1 false (pIsi "tuple") (cVar 1))) (sSeq (sIf (kOr (kNot (cTest (c1 false (pIsi "tuple") (cVar 0)))) (cTest (c2 false (pEq true) (c1 false pLen (cVar 0)) (c1 false pLen (cVar 1))))) (sSeq (sRet (cP (P.bl false)))
  sNil) sNil)
  (sSeq (sRet (c1 false pAll (cLc false [2] (iR1 (c1 false pLen (cVar 1))) (Tg.n 2) kYes (cCall C (aCons (c2 false pIx (cVar 0) (cVar 2)) (aCons (c2 false pIx (cVar 1) (cVar 2)) aNil))))))
  sNil)) sNil)
  (sSeq (sIf (cTest (c2 false (pIsN false) (cVar 1) (cP P.non))) (sSeq (sRet (c2 false (pIsN false) (cVar 0) (cP P.non)))
  sNil) sNil)
  (sSeq (sIf (cTest (c1 false (pIsi "bool") (cVar 1))) (sSeq (sRet (cAndV (c1 false (pIsi "bool") (cVar 0)) (c2 false (pEq false) (cVar 0) (cVar 1))))
  sNil) sNil)
  (sSeq (sIf (cTest (c1 false (pIsi "int") (cVar 1))) (sSeq (sRet (cAndV (c1 false (pIsi "int") (cVar 0)) (cAndV (cNotV (c1 false (pIsi "bool") (cVar 0))) (c2 false (pEq false) (cVar 0) (cVar 1)))))
  sNil) sNil)
  (sSeq (sIf (cTest (c1 false (pIsi "str") (cVar 1))) (sSeq (sRet (cAndV (c1 false (pIsi "str") (cVar 0)) (c2 false (pEq false) (cVar 0) (cVar 1))))
  sNil) sNil)
  (sSeq (sRet (c2 false (pEq false) (cVar 0) (cVar 1)))
  sNil))))))
def C__law_same_r : Nat → CC
  | 0 => fun _ _ _ => false
  | i + 1 => callOf 2 3 (B__law_same (C__law_same_r i))
def C__law_same : CC := C__law_same_r 5
theorem len__law_same : ∀ (i : Nat) (ds : List D) (m : Mem) (Q : KD), C__law_same_r i ds m Q = true → ds.length = 2
  | 0, _, _, _, h => nomatch h
  | _ + 1, ds, m, Q, h => callOf_len ds m Q h
theorem b__law_same (C : CC) : body 60 ⟨n__law_same, defScope s__law_same, none, g__law_same C, [], []⟩ (defBody s__law_same) = some (B__law_same C) := by kernel_rfl
abbrev s_is_whole : Stmt := topS 1
abbrev n_is_whole : List Str := ["value"]
theorem sc_is_whole : FnScope n_is_whole ["value"] (defScope s_is_whole) := ⟨rfl, rfl, rfl, by decide +kernel, rfl, by decide +kernel, by decide +kernel⟩
def g_is_whole : List (Str × GE) := [("isinstance", GE.blt), ("int", GE.blt), ("bool", GE.blt)]
def B_is_whole : CS := (sSeq (sRet (cAndV (c1 false (pIsi "int") (cVar 0)) (cNotV (c1 false (pIsi "bool") (cVar 0)))))
  sNil)
def C_is_whole : CC := callOf 1 1 B_is_whole
theorem b_is_whole : body 60 ⟨n_is_whole, defScope s_is_whole, none, g_is_whole, [], []⟩ (defBody s_is_whole) = some B_is_whole := by kernel_rfl
abbrev s_is_between : Stmt := topS 2
abbrev n_is_between : List Str := ["value", "least", "most"]
theorem sc_is_between : FnScope n_is_between ["value", "least", "most"] (defScope s_is_between) := ⟨rfl, rfl, rfl, by decide +kernel, rfl, by decide +kernel, by decide +kernel⟩
def g_is_between : List (Str × GE) := [("is_whole", GE.fn ["value"] [] C_is_whole)]
def B_is_between : CS := (sSeq (sRet (cAndV (cCall C_is_whole (aCons (cVar 0) aNil)) (cChain pLe pLe (cVar 1) (cVar 0) (cVar 2))))
  sNil)
def C_is_between : CC := callOf 3 3 B_is_between
theorem b_is_between : body 60 ⟨n_is_between, defScope s_is_between, none, g_is_between, [], []⟩ (defBody s_is_between) = some B_is_between := by kernel_rfl
abbrev s_check_number : Stmt := topS 29
abbrev n_check_number : List Str := ["number", "least", "most"]
theorem sc_check_number : FnScope n_check_number ["number", "least", "most"] (defScope s_check_number) := ⟨rfl, rfl, rfl, by decide +kernel, rfl, by decide +kernel, by decide +kernel⟩
def g_check_number : List (Str × GE) := [("is_between", GE.fn ["value", "least", "most"] [] C_is_between)]
def B_check_number : CS := (sSeq (sIf (kNot (cTest (cCall C_is_between (aCons (cVar 0) (aCons (cVar 1) (aCons (cVar 2) aNil)))))) (sSeq sNo
  sNil) sNil)
  sNil)
def C_check_number : CC := callOf 3 3 B_check_number
theorem b_check_number : body 60 ⟨n_check_number, defScope s_check_number, none, g_check_number, [], []⟩ (defBody s_check_number) = some B_check_number := by kernel_rfl
abbrev s_check_few : Stmt := topS 32
abbrev n_check_few : List Str := ["number"]
theorem sc_check_few : FnScope n_check_few ["number"] (defScope s_check_few) := ⟨rfl, rfl, rfl, by decide +kernel, rfl, by decide +kernel, by decide +kernel⟩
def g_check_few : List (Str × GE) := [("check_number", GE.fn ["number", "least", "most"] [] C_check_number), ("MOST_KINDS", GE.cst (P.int 8)), ("MOST_DEALT", GE.cst (P.int 3))]
def B_check_few : CS := (sSeq (sExpr (cCall C_check_number (aCons (cVar 0) (aCons (cP (P.int 1)) (aCons (cP (P.int 8)) aNil)))))
  (sSeq (sIf (cTest (c2 false pGt (cVar 0) (cP (P.int 3)))) (sSeq sNo
  sNil) sNil)
  sNil))
def C_check_few : CC := callOf 1 1 B_check_few
theorem b_check_few : body 60 ⟨n_check_few, defScope s_check_few, none, g_check_few, [], []⟩ (defBody s_check_few) = some B_check_few := by kernel_rfl
abbrev s_is_one_of : Stmt := topS 3
abbrev n_is_one_of : List Str := ["value", "words"]
theorem sc_is_one_of : FnScope n_is_one_of ["value", "words"] (defScope s_is_one_of) := ⟨rfl, rfl, rfl, by decide +kernel, rfl, by decide +kernel, by decide +kernel⟩
def g_is_one_of : List (Str × GE) := [("isinstance", GE.blt), ("str", GE.blt)]
def B_is_one_of : CS := (sSeq (sRet (cAndV (c1 false (pIsi "str") (cVar 0)) (c2 false (pIn false) (cVar 0) (cVar 1))))
  sNil)
def C_is_one_of : CC := callOf 2 2 B_is_one_of
theorem b_is_one_of : body 60 ⟨n_is_one_of, defScope s_is_one_of, none, g_is_one_of, [], []⟩ (defBody s_is_one_of) = some B_is_one_of := by kernel_rfl
abbrev s_check_habit : Stmt := topS 28
abbrev n_check_habit : List Str := ["habit"]
theorem sc_check_habit : FnScope n_check_habit ["habit"] (defScope s_check_habit) := ⟨rfl, rfl, rfl, by decide +kernel, rfl, by decide +kernel, by decide +kernel⟩
def g_check_habit : List (Str × GE) := [("is_one_of", GE.fn ["value", "words"] [] C_is_one_of), ("HABITS", GE.cst (P.tup [(P.str [115, 104, 117, 116]), (P.str [111, 112, 101, 110]), (P.str [116, 117, 114, 110, 115])]))]
def B_check_habit : CS := (sSeq (sIf (kNot (cTest (cCall C_is_one_of (aCons (cVar 0) (aCons (cP (P.tup [(P.str [115, 104, 117, 116]), (P.str [111, 112, 101, 110]), (P.str [116, 117, 114, 110, 115])])) aNil))))) (sSeq sNo
  sNil) sNil)
  sNil)
def C_check_habit : CC := callOf 1 1 B_check_habit
theorem b_check_habit : body 60 ⟨n_check_habit, defScope s_check_habit, none, g_check_habit, [], []⟩ (defBody s_check_habit) = some B_check_habit := by kernel_rfl
abbrev s_deals_of : Stmt := topS 12
abbrev n_deals_of : List Str := ["number", "line", "_", "ahead", "kind"]
theorem sc_deals_of : FnScope n_deals_of ["number"] (defScope s_deals_of) := ⟨rfl, rfl, rfl, by decide +kernel, rfl, by decide +kernel, by decide +kernel⟩
def g_deals_of : List (Str × GE) := [("range", GE.blt), ("KINDS", GE.cst (P.tup [(P.str [97]), (P.str [98]), (P.str [99]), (P.str [100]), (P.str [101]), (P.str [102]), (P.str [103]), (P.str [104])]))]
def B_deals_of : CS := (sSeq (sAsgG (gNm 1) (cLst false (aCons (cTup aNil) aNil)))
  (sSeq (sFor (iR1 (c2 false pMul (cP (P.int 2)) (cVar 0))) (Tg.n 2) (sSeq (sAsgG (gNm 1) (cLc2 false [3, 4] [4] (iV (cVar 1)) (Tg.n 3) kYes (iV (cCut false (cP (P.tup [(P.str [97]), (P.str [98]), (P.str [99]), (P.str [100]), (P.str [101]), (P.str [102]), (P.str [103]), (P.str [104])])) oNo (oSome (cVar 0)))) (Tg.n 4) (cTest (c2 false pLt (cCnt (cVar 3) (cVar 4)) (cP (P.int 2)))) (cTup (aStar (cVar 3) (aCons (cVar 4) aNil)))))
  sNil))
  (sSeq (sRet (cVar 1))
  sNil)))
def C_deals_of : CC := callOf 1 5 B_deals_of
theorem b_deals_of : body 60 ⟨n_deals_of, defScope s_deals_of, none, g_deals_of, [], []⟩ (defBody s_deals_of) = some B_deals_of := by kernel_rfl
abbrev s_fellow_of : Stmt := topS 13
abbrev n_fellow_of : List Str := ["deal", "place", "at", "kind"]
theorem sc_fellow_of : FnScope n_fellow_of ["deal", "place"] (defScope s_fellow_of) := ⟨rfl, rfl, rfl, by decide +kernel, rfl, by decide +kernel, by decide +kernel⟩
def g_fellow_of : List (Str × GE) := [("enumerate", GE.blt)]
def B_fellow_of : CS := (sSeq (sRet (c2 false pIx (cLc false [2, 3] (iEn (cVar 0)) (Tg.t [2, 3]) (kAnd (cTest (c2 false (pEq false) (cVar 3) (c2 false pIx (cVar 0) (cVar 1)))) (cTest (c2 false (pEq true) (cVar 2) (cVar 1)))) (cVar 2)) (cP (P.int 0))))
  sNil)
def C_fellow_of : CC := callOf 2 4 B_fellow_of
theorem b_fellow_of : body 60 ⟨n_fellow_of, defScope s_fellow_of, none, g_fellow_of, [], []⟩ (defBody s_fellow_of) = some B_fellow_of := by kernel_rfl
abbrev s_ready_in : Stmt := topS 14
abbrev n_ready_in : List Str := ["deal", "seen", "place"]
theorem sc_ready_in : FnScope n_ready_in ["deal", "seen"] (defScope s_ready_in) := ⟨rfl, rfl, rfl, by decide +kernel, rfl, by decide +kernel, by decide +kernel⟩
def g_ready_in : List (Str × GE) := [("fellow_of", GE.fn ["deal", "place"] [] C_fellow_of)]
def B_ready_in : CS := (sSeq (sRet (cLc false [2] (iV (cVar 1)) (Tg.n 2) (kAnd (cTest (c2 false (pIn false) (cCall C_fellow_of (aCons (cVar 0) (aCons (cVar 2) aNil))) (cVar 1))) (cTest (c2 false pLt (cVar 2) (cCall C_fellow_of (aCons (cVar 0) (aCons (cVar 2) aNil)))))) (cTup (aCons (cVar 2) (aCons (cCall C_fellow_of (aCons (cVar 0) (aCons (cVar 2) aNil))) aNil)))))
  sNil)
def C_ready_in : CC := callOf 2 3 B_ready_in
theorem b_ready_in : body 60 ⟨n_ready_in, defScope s_ready_in, none, g_ready_in, [], []⟩ (defBody s_ready_in) = some B_ready_in := by kernel_rfl
abbrev s_shut_of : Stmt := topS 16
abbrev n_shut_of : List Str := ["deal", "seen", "gone", "place"]
theorem sc_shut_of : FnScope n_shut_of ["deal", "seen", "gone"] (defScope s_shut_of) := ⟨rfl, rfl, rfl, by decide +kernel, rfl, by decide +kernel, by decide +kernel⟩
def g_shut_of : List (Str × GE) := [("range", GE.blt), ("len", GE.blt)]
def B_shut_of : CS := (sSeq (sRet (cLc false [3] (iR1 (c1 false pLen (cVar 0))) (Tg.n 3) (kAnd (cTest (c2 false (pIn true) (cVar 3) (cVar 1))) (cTest (c2 false (pIn true) (cVar 3) (cVar 2)))) (cVar 3)))
  sNil)
def C_shut_of : CC := callOf 3 4 B_shut_of
theorem b_shut_of : body 60 ⟨n_shut_of, defScope s_shut_of, none, g_shut_of, [], []⟩ (defBody s_shut_of) = some B_shut_of := by kernel_rfl
abbrev s_second_of : Stmt := topS 17
abbrev n_second_of : List Str := ["shut", "singles", "habit", "is_open"]
theorem sc_second_of : FnScope n_second_of ["shut", "singles", "habit"] (defScope s_second_of) := ⟨rfl, rfl, rfl, by decide +kernel, rfl, by decide +kernel, by decide +kernel⟩
def g_second_of : List (Str × GE) := [("OPEN", GE.cst (P.str [111, 112, 101, 110])), ("TURNS", GE.cst (P.str [116, 117, 114, 110, 115])), ("len", GE.blt)]
def B_second_of : CS := (sSeq (sAsgG (gNm 3) (cOrV (c2 false (pEq false) (cVar 2) (cP (P.str [111, 112, 101, 110]))) (cAndV (c2 false (pEq false) (cVar 2) (cP (P.str [116, 117, 114, 110, 115]))) (c2 false (pEq false) (c2 false pMod (c1 false pLen (cVar 0)) (cP (P.int 2))) (cP (P.int 1))))))
  (sSeq (sRet (cIf (kAnd (cTest (cVar 3)) (cTest (c2 false (pEq true) (cVar 1) (cLst false aNil)))) (c2 false pIx (cVar 1) (cP (P.int 0))) (c2 false pIx (cVar 0) (cP (P.int 0)))))
  sNil))
def C_second_of : CC := callOf 3 4 B_second_of
theorem b_second_of : body 60 ⟨n_second_of, defScope s_second_of, none, g_second_of, [], []⟩ (defBody s_second_of) = some B_second_of := by kernel_rfl
abbrev s_singles_in : Stmt := topS 15
abbrev n_singles_in : List Str := ["deal", "seen", "place"]
theorem sc_singles_in : FnScope n_singles_in ["deal", "seen"] (defScope s_singles_in) := ⟨rfl, rfl, rfl, by decide +kernel, rfl, by decide +kernel, by decide +kernel⟩
def g_singles_in : List (Str × GE) := [("fellow_of", GE.fn ["deal", "place"] [] C_fellow_of)]
def B_singles_in : CS := (sSeq (sRet (cLc false [2] (iV (cVar 1)) (Tg.n 2) (cTest (c2 false (pIn true) (cCall C_fellow_of (aCons (cVar 0) (aCons (cVar 2) aNil))) (cVar 1))) (cVar 2)))
  sNil)
def C_singles_in : CC := callOf 2 3 B_singles_in
theorem b_singles_in : body 60 ⟨n_singles_in, defScope s_singles_in, none, g_singles_in, [], []⟩ (defBody s_singles_in) = some B_singles_in := by kernel_rfl
abbrev s_next_by : Stmt := topS 18
abbrev n_next_by : List Str := ["deal", "seen", "gone", "habit", "ready", "shut", "fellow"]
theorem sc_next_by : FnScope n_next_by ["deal", "seen", "gone", "habit"] (defScope s_next_by) := ⟨rfl, rfl, rfl, by decide +kernel, rfl, by decide +kernel, by decide +kernel⟩
def g_next_by : List (Str × GE) := [("ready_in", GE.fn ["deal", "seen"] [] C_ready_in), ("shut_of", GE.fn ["deal", "seen", "gone"] [] C_shut_of), ("fellow_of", GE.fn ["deal", "place"] [] C_fellow_of), ("second_of", GE.fn ["shut", "singles", "habit"] [] C_second_of), ("singles_in", GE.fn ["deal", "seen"] [] C_singles_in)]
def B_next_by : CS := (sSeq (sPar [4, 5] (aCons (cCall C_ready_in (aCons (cVar 0) (aCons (cVar 1) aNil))) (aCons (cCall C_shut_of (aCons (cVar 0) (aCons (cVar 1) (aCons (cVar 2) aNil)))) aNil)))
  (sSeq (sIf (cTest (c2 false (pEq true) (cVar 4) (cLst false aNil))) (sSeq (sRet (cCut false (cVar 4) oNo (oSome (cP (P.int 1)))))
  sNil) sNil)
  (sSeq (sIf (cTest (c2 false (pEq false) (cVar 5) (cLst false aNil))) (sSeq (sRet (cLst false aNil))
  sNil) sNil)
  (sSeq (sAsgG (gNm 6) (cCall C_fellow_of (aCons (cVar 0) (aCons (c2 false pIx (cVar 5) (cP (P.int 0))) aNil))))
  (sSeq (sIf (cTest (c2 false (pIn false) (cVar 6) (cVar 1))) (sSeq (sRet (cLst false (aCons (cTup (aCons (c2 false pIx (cVar 5) (cP (P.int 0))) (aCons (cVar 6) aNil))) aNil)))
  sNil) sNil)
  (sSeq (sRet (cLst false (aCons (cTup (aCons (c2 false pIx (cVar 5) (cP (P.int 0))) (aCons (cCall C_second_of (aCons (cCut false (cVar 5) (oSome (cP (P.int 1))) oNo) (aCons (cCall C_singles_in (aCons (cVar 0) (aCons (cVar 1) aNil))) (aCons (cVar 3) aNil)))) aNil))) aNil)))
  sNil))))))
def C_next_by : CC := callOf 4 7 B_next_by
theorem b_next_by : body 60 ⟨n_next_by, defScope s_next_by, none, g_next_by, [], []⟩ (defBody s_next_by) = some B_next_by := by kernel_rfl
abbrev s_behind_turn : Stmt := topS 19
abbrev n_behind_turn : List Str := ["deal", "seen", "gone", "pair", "place"]
theorem sc_behind_turn : FnScope n_behind_turn ["deal", "seen", "gone", "pair"] (defScope s_behind_turn) := ⟨rfl, rfl, rfl, by decide +kernel, rfl, by decide +kernel, by decide +kernel⟩
def g_behind_turn : List (Str × GE) := [("tuple", GE.blt), ("sorted", GE.blt)]
def B_behind_turn : CS := (sSeq (sIf (cTest (c2 false (pEq false) (c2 false pIx (cVar 0) (c2 false pIx (cVar 3) (cP (P.int 0)))) (c2 false pIx (cVar 0) (c2 false pIx (cVar 3) (cP (P.int 1)))))) (sSeq (sRet (cTup (aCons (c1 false pTup (cLc false [4] (iV (cVar 1)) (Tg.n 4) (cTest (c2 false (pIn true) (cVar 4) (cVar 3))) (cVar 4))) (aCons (c1 false pTup (c1 false pSrt (cLst false (aStar (cVar 2) (aStar (cVar 3) aNil))))) aNil))))
  sNil) sNil)
  (sSeq (sRet (cTup (aCons (c1 false pTup (c1 false pSrt (cLst false (aStar (cVar 3) (aStar (cLc false [4] (iV (cVar 1)) (Tg.n 4) (cTest (c2 false (pIn true) (cVar 4) (cVar 3))) (cVar 4)) aNil))))) (aCons (cVar 2) aNil))))
  sNil))
def C_behind_turn : CC := callOf 4 5 B_behind_turn
theorem b_behind_turn : body 60 ⟨n_behind_turn, defScope s_behind_turn, none, g_behind_turn, [], []⟩ (defBody s_behind_turn) = some B_behind_turn := by kernel_rfl
abbrev s_played_by : Stmt := topS 20
abbrev n_played_by : List Str := ["deal", "habit", "found", "seen", "gone", "turn"]
theorem sc_played_by : FnScope n_played_by ["deal", "habit"] (defScope s_played_by) := ⟨rfl, rfl, rfl, by decide +kernel, rfl, by decide +kernel, by decide +kernel⟩
def g_played_by : List (Str × GE) := [("next_by", GE.fn ["deal", "seen", "gone", "habit"] [] C_next_by), ("behind_turn", GE.fn ["deal", "seen", "gone", "pair"] [] C_behind_turn)]
def B_played_by : CS := (sSeq (sPar [2, 3, 4] (aCons (cLst true aNil) (aCons (cTup aNil) (aCons (cTup aNil) aNil))))
  (sSeq (sAsgG (gNm 5) (cCall C_next_by (aCons (cVar 0) (aCons (cVar 3) (aCons (cVar 4) (aCons (cVar 1) aNil))))))
  (sSeq (sWhile 100000 (cTest (c2 false (pEq true) (cVar 5) (cLst false aNil))) (sSeq (sExpr (cApp (cVar 2) (c2 false pIx (cVar 5) (cP (P.int 0)))))
  (sSeq (sAsgG (gTpl 2 (gsCons (gNm 3) (gsCons (gNm 4) gsNil))) (cCall C_behind_turn (aCons (cVar 0) (aCons (cVar 3) (aCons (cVar 4) (aCons (c2 false pIx (cVar 5) (cP (P.int 0))) aNil))))))
  (sSeq (sAsgG (gNm 5) (cCall C_next_by (aCons (cVar 0) (aCons (cVar 3) (aCons (cVar 4) (aCons (cVar 1) aNil))))))
  sNil))))
  (sSeq (sRet (cVar 2))
  sNil))))
def C_played_by : CC := callOf 2 6 B_played_by
theorem b_played_by : body 60 ⟨n_played_by, defScope s_played_by, none, g_played_by, ["found"], []⟩ (defBody s_played_by) = some B_played_by := by kernel_rfl
def t_played_by_0 : List (List P × P) := [([(P.tup [(P.str [97]), (P.str [97])]), (P.str [115, 104, 117, 116])], (P.lst [(P.tup [(P.int 0), (P.int 1)])])), ([(P.tup [(P.str [97]), (P.str [97])]), (P.str [111, 112, 101, 110])], (P.lst [(P.tup [(P.int 0), (P.int 1)])])), ([(P.tup [(P.str [97]), (P.str [97])]), (P.str [116, 117, 114, 110, 115])], (P.lst [(P.tup [(P.int 0), (P.int 1)])])), ([(P.tup [(P.str [97]), (P.str [97]), (P.str [98]), (P.str [98])]), (P.str [115, 104, 117, 116])], (P.lst [(P.tup [(P.int 0), (P.int 1)]), (P.tup [(P.int 2), (P.int 3)])])), ([(P.tup [(P.str [97]), (P.str [97]), (P.str [98]), (P.str [98])]), (P.str [111, 112, 101, 110])], (P.lst [(P.tup [(P.int 0), (P.int 1)]), (P.tup [(P.int 2), (P.int 3)])])), ([(P.tup [(P.str [97]), (P.str [97]), (P.str [98]), (P.str [98])]), (P.str [116, 117, 114, 110, 115])], (P.lst [(P.tup [(P.int 0), (P.int 1)]), (P.tup [(P.int 2), (P.int 3)])])), ([(P.tup [(P.str [97]), (P.str [98]), (P.str [97]), (P.str [98])]), (P.str [115, 104, 117, 116])], (P.lst [(P.tup [(P.int 0), (P.int 1)]), (P.tup [(P.int 2), (P.int 0)]), (P.tup [(P.int 3), (P.int 1)])])), ([(P.tup [(P.str [97]), (P.str [98]), (P.str [97]), (P.str [98])]), (P.str [111, 112, 101, 110])], (P.lst [(P.tup [(P.int 0), (P.int 1)]), (P.tup [(P.int 2), (P.int 0)]), (P.tup [(P.int 3), (P.int 1)])])), ([(P.tup [(P.str [97]), (P.str [98]), (P.str [97]), (P.str [98])]), (P.str [116, 117, 114, 110, 115])], (P.lst [(P.tup [(P.int 0), (P.int 1)]), (P.tup [(P.int 2), (P.int 0)]), (P.tup [(P.int 3), (P.int 1)])])), ([(P.tup [(P.str [97]), (P.str [98]), (P.str [98]), (P.str [97])]), (P.str [115, 104, 117, 116])], (P.lst [(P.tup [(P.int 0), (P.int 1)]), (P.tup [(P.int 2), (P.int 1)]), (P.tup [(P.int 3), (P.int 0)])])), ([(P.tup [(P.str [97]), (P.str [98]), (P.str [98]), (P.str [97])]), (P.str [111, 112, 101, 110])], (P.lst [(P.tup [(P.int 0), (P.int 1)]), (P.tup [(P.int 2), (P.int 1)]), (P.tup [(P.int 3), (P.int 0)])])), ([(P.tup [(P.str [97]), (P.str [98]), (P.str [98]), (P.str [97])]), (P.str [116, 117, 114, 110, 115])], (P.lst [(P.tup [(P.int 0), (P.int 1)]), (P.tup [(P.int 2), (P.int 1)]), (P.tup [(P.int 3), (P.int 0)])]))]
theorem to_played_by_0 : tabOk C_played_by t_played_by_0 = true := by decide +kernel
def t_played_by_1 : List (List P × P) := [([(P.tup [(P.str [98]), (P.str [97]), (P.str [97]), (P.str [98])]), (P.str [115, 104, 117, 116])], (P.lst [(P.tup [(P.int 0), (P.int 1)]), (P.tup [(P.int 2), (P.int 1)]), (P.tup [(P.int 3), (P.int 0)])])), ([(P.tup [(P.str [98]), (P.str [97]), (P.str [97]), (P.str [98])]), (P.str [111, 112, 101, 110])], (P.lst [(P.tup [(P.int 0), (P.int 1)]), (P.tup [(P.int 2), (P.int 1)]), (P.tup [(P.int 3), (P.int 0)])])), ([(P.tup [(P.str [98]), (P.str [97]), (P.str [97]), (P.str [98])]), (P.str [116, 117, 114, 110, 115])], (P.lst [(P.tup [(P.int 0), (P.int 1)]), (P.tup [(P.int 2), (P.int 1)]), (P.tup [(P.int 3), (P.int 0)])])), ([(P.tup [(P.str [98]), (P.str [97]), (P.str [98]), (P.str [97])]), (P.str [115, 104, 117, 116])], (P.lst [(P.tup [(P.int 0), (P.int 1)]), (P.tup [(P.int 2), (P.int 0)]), (P.tup [(P.int 3), (P.int 1)])])), ([(P.tup [(P.str [98]), (P.str [97]), (P.str [98]), (P.str [97])]), (P.str [111, 112, 101, 110])], (P.lst [(P.tup [(P.int 0), (P.int 1)]), (P.tup [(P.int 2), (P.int 0)]), (P.tup [(P.int 3), (P.int 1)])])), ([(P.tup [(P.str [98]), (P.str [97]), (P.str [98]), (P.str [97])]), (P.str [116, 117, 114, 110, 115])], (P.lst [(P.tup [(P.int 0), (P.int 1)]), (P.tup [(P.int 2), (P.int 0)]), (P.tup [(P.int 3), (P.int 1)])])), ([(P.tup [(P.str [98]), (P.str [98]), (P.str [97]), (P.str [97])]), (P.str [115, 104, 117, 116])], (P.lst [(P.tup [(P.int 0), (P.int 1)]), (P.tup [(P.int 2), (P.int 3)])])), ([(P.tup [(P.str [98]), (P.str [98]), (P.str [97]), (P.str [97])]), (P.str [111, 112, 101, 110])], (P.lst [(P.tup [(P.int 0), (P.int 1)]), (P.tup [(P.int 2), (P.int 3)])])), ([(P.tup [(P.str [98]), (P.str [98]), (P.str [97]), (P.str [97])]), (P.str [116, 117, 114, 110, 115])], (P.lst [(P.tup [(P.int 0), (P.int 1)]), (P.tup [(P.int 2), (P.int 3)])])), ([(P.tup [(P.str [97]), (P.str [97]), (P.str [98]), (P.str [98]), (P.str [99]), (P.str [99])]), (P.str [115, 104, 117, 116])], (P.lst [(P.tup [(P.int 0), (P.int 1)]), (P.tup [(P.int 2), (P.int 3)]), (P.tup [(P.int 4), (P.int 5)])])), ([(P.tup [(P.str [97]), (P.str [97]), (P.str [98]), (P.str [98]), (P.str [99]), (P.str [99])]), (P.str [111, 112, 101, 110])], (P.lst [(P.tup [(P.int 0), (P.int 1)]), (P.tup [(P.int 2), (P.int 3)]), (P.tup [(P.int 4), (P.int 5)])])), ([(P.tup [(P.str [97]), (P.str [97]), (P.str [98]), (P.str [98]), (P.str [99]), (P.str [99])]), (P.str [116, 117, 114, 110, 115])], (P.lst [(P.tup [(P.int 0), (P.int 1)]), (P.tup [(P.int 2), (P.int 3)]), (P.tup [(P.int 4), (P.int 5)])]))]
theorem to_played_by_1 : tabOk C_played_by t_played_by_1 = true := by decide +kernel
def t_played_by_2 : List (List P × P) := [([(P.tup [(P.str [97]), (P.str [97]), (P.str [98]), (P.str [99]), (P.str [98]), (P.str [99])]), (P.str [115, 104, 117, 116])], (P.lst [(P.tup [(P.int 0), (P.int 1)]), (P.tup [(P.int 2), (P.int 3)]), (P.tup [(P.int 4), (P.int 2)]), (P.tup [(P.int 5), (P.int 3)])])), ([(P.tup [(P.str [97]), (P.str [97]), (P.str [98]), (P.str [99]), (P.str [98]), (P.str [99])]), (P.str [111, 112, 101, 110])], (P.lst [(P.tup [(P.int 0), (P.int 1)]), (P.tup [(P.int 2), (P.int 3)]), (P.tup [(P.int 4), (P.int 2)]), (P.tup [(P.int 5), (P.int 3)])])), ([(P.tup [(P.str [97]), (P.str [97]), (P.str [98]), (P.str [99]), (P.str [98]), (P.str [99])]), (P.str [116, 117, 114, 110, 115])], (P.lst [(P.tup [(P.int 0), (P.int 1)]), (P.tup [(P.int 2), (P.int 3)]), (P.tup [(P.int 4), (P.int 2)]), (P.tup [(P.int 5), (P.int 3)])])), ([(P.tup [(P.str [97]), (P.str [97]), (P.str [98]), (P.str [99]), (P.str [99]), (P.str [98])]), (P.str [115, 104, 117, 116])], (P.lst [(P.tup [(P.int 0), (P.int 1)]), (P.tup [(P.int 2), (P.int 3)]), (P.tup [(P.int 4), (P.int 3)]), (P.tup [(P.int 5), (P.int 2)])])), ([(P.tup [(P.str [97]), (P.str [97]), (P.str [98]), (P.str [99]), (P.str [99]), (P.str [98])]), (P.str [111, 112, 101, 110])], (P.lst [(P.tup [(P.int 0), (P.int 1)]), (P.tup [(P.int 2), (P.int 3)]), (P.tup [(P.int 4), (P.int 3)]), (P.tup [(P.int 5), (P.int 2)])])), ([(P.tup [(P.str [97]), (P.str [97]), (P.str [98]), (P.str [99]), (P.str [99]), (P.str [98])]), (P.str [116, 117, 114, 110, 115])], (P.lst [(P.tup [(P.int 0), (P.int 1)]), (P.tup [(P.int 2), (P.int 3)]), (P.tup [(P.int 4), (P.int 3)]), (P.tup [(P.int 5), (P.int 2)])])), ([(P.tup [(P.str [97]), (P.str [97]), (P.str [99]), (P.str [98]), (P.str [98]), (P.str [99])]), (P.str [115, 104, 117, 116])], (P.lst [(P.tup [(P.int 0), (P.int 1)]), (P.tup [(P.int 2), (P.int 3)]), (P.tup [(P.int 4), (P.int 3)]), (P.tup [(P.int 5), (P.int 2)])])), ([(P.tup [(P.str [97]), (P.str [97]), (P.str [99]), (P.str [98]), (P.str [98]), (P.str [99])]), (P.str [111, 112, 101, 110])], (P.lst [(P.tup [(P.int 0), (P.int 1)]), (P.tup [(P.int 2), (P.int 3)]), (P.tup [(P.int 4), (P.int 3)]), (P.tup [(P.int 5), (P.int 2)])])), ([(P.tup [(P.str [97]), (P.str [97]), (P.str [99]), (P.str [98]), (P.str [98]), (P.str [99])]), (P.str [116, 117, 114, 110, 115])], (P.lst [(P.tup [(P.int 0), (P.int 1)]), (P.tup [(P.int 2), (P.int 3)]), (P.tup [(P.int 4), (P.int 3)]), (P.tup [(P.int 5), (P.int 2)])])), ([(P.tup [(P.str [97]), (P.str [97]), (P.str [99]), (P.str [98]), (P.str [99]), (P.str [98])]), (P.str [115, 104, 117, 116])], (P.lst [(P.tup [(P.int 0), (P.int 1)]), (P.tup [(P.int 2), (P.int 3)]), (P.tup [(P.int 4), (P.int 2)]), (P.tup [(P.int 5), (P.int 3)])])), ([(P.tup [(P.str [97]), (P.str [97]), (P.str [99]), (P.str [98]), (P.str [99]), (P.str [98])]), (P.str [111, 112, 101, 110])], (P.lst [(P.tup [(P.int 0), (P.int 1)]), (P.tup [(P.int 2), (P.int 3)]), (P.tup [(P.int 4), (P.int 2)]), (P.tup [(P.int 5), (P.int 3)])])), ([(P.tup [(P.str [97]), (P.str [97]), (P.str [99]), (P.str [98]), (P.str [99]), (P.str [98])]), (P.str [116, 117, 114, 110, 115])], (P.lst [(P.tup [(P.int 0), (P.int 1)]), (P.tup [(P.int 2), (P.int 3)]), (P.tup [(P.int 4), (P.int 2)]), (P.tup [(P.int 5), (P.int 3)])]))]
theorem to_played_by_2 : tabOk C_played_by t_played_by_2 = true := by decide +kernel
def t_played_by_3 : List (List P × P) := [([(P.tup [(P.str [97]), (P.str [97]), (P.str [99]), (P.str [99]), (P.str [98]), (P.str [98])]), (P.str [115, 104, 117, 116])], (P.lst [(P.tup [(P.int 0), (P.int 1)]), (P.tup [(P.int 2), (P.int 3)]), (P.tup [(P.int 4), (P.int 5)])])), ([(P.tup [(P.str [97]), (P.str [97]), (P.str [99]), (P.str [99]), (P.str [98]), (P.str [98])]), (P.str [111, 112, 101, 110])], (P.lst [(P.tup [(P.int 0), (P.int 1)]), (P.tup [(P.int 2), (P.int 3)]), (P.tup [(P.int 4), (P.int 5)])])), ([(P.tup [(P.str [97]), (P.str [97]), (P.str [99]), (P.str [99]), (P.str [98]), (P.str [98])]), (P.str [116, 117, 114, 110, 115])], (P.lst [(P.tup [(P.int 0), (P.int 1)]), (P.tup [(P.int 2), (P.int 3)]), (P.tup [(P.int 4), (P.int 5)])])), ([(P.tup [(P.str [97]), (P.str [98]), (P.str [97]), (P.str [98]), (P.str [99]), (P.str [99])]), (P.str [115, 104, 117, 116])], (P.lst [(P.tup [(P.int 0), (P.int 1)]), (P.tup [(P.int 2), (P.int 0)]), (P.tup [(P.int 3), (P.int 1)]), (P.tup [(P.int 4), (P.int 5)])])), ([(P.tup [(P.str [97]), (P.str [98]), (P.str [97]), (P.str [98]), (P.str [99]), (P.str [99])]), (P.str [111, 112, 101, 110])], (P.lst [(P.tup [(P.int 0), (P.int 1)]), (P.tup [(P.int 2), (P.int 0)]), (P.tup [(P.int 3), (P.int 1)]), (P.tup [(P.int 4), (P.int 5)])])), ([(P.tup [(P.str [97]), (P.str [98]), (P.str [97]), (P.str [98]), (P.str [99]), (P.str [99])]), (P.str [116, 117, 114, 110, 115])], (P.lst [(P.tup [(P.int 0), (P.int 1)]), (P.tup [(P.int 2), (P.int 0)]), (P.tup [(P.int 3), (P.int 1)]), (P.tup [(P.int 4), (P.int 5)])])), ([(P.tup [(P.str [97]), (P.str [98]), (P.str [97]), (P.str [99]), (P.str [98]), (P.str [99])]), (P.str [115, 104, 117, 116])], (P.lst [(P.tup [(P.int 0), (P.int 1)]), (P.tup [(P.int 2), (P.int 0)]), (P.tup [(P.int 3), (P.int 4)]), (P.tup [(P.int 1), (P.int 4)]), (P.tup [(P.int 5), (P.int 3)])])), ([(P.tup [(P.str [97]), (P.str [98]), (P.str [97]), (P.str [99]), (P.str [98]), (P.str [99])]), (P.str [111, 112, 101, 110])], (P.lst [(P.tup [(P.int 0), (P.int 1)]), (P.tup [(P.int 2), (P.int 0)]), (P.tup [(P.int 3), (P.int 1)]), (P.tup [(P.int 4), (P.int 1)]), (P.tup [(P.int 5), (P.int 3)])])), ([(P.tup [(P.str [97]), (P.str [98]), (P.str [97]), (P.str [99]), (P.str [98]), (P.str [99])]), (P.str [116, 117, 114, 110, 115])], (P.lst [(P.tup [(P.int 0), (P.int 1)]), (P.tup [(P.int 2), (P.int 0)]), (P.tup [(P.int 3), (P.int 4)]), (P.tup [(P.int 1), (P.int 4)]), (P.tup [(P.int 5), (P.int 3)])])), ([(P.tup [(P.str [97]), (P.str [98]), (P.str [97]), (P.str [99]), (P.str [99]), (P.str [98])]), (P.str [115, 104, 117, 116])], (P.lst [(P.tup [(P.int 0), (P.int 1)]), (P.tup [(P.int 2), (P.int 0)]), (P.tup [(P.int 3), (P.int 4)]), (P.tup [(P.int 5), (P.int 1)])])), ([(P.tup [(P.str [97]), (P.str [98]), (P.str [97]), (P.str [99]), (P.str [99]), (P.str [98])]), (P.str [111, 112, 101, 110])], (P.lst [(P.tup [(P.int 0), (P.int 1)]), (P.tup [(P.int 2), (P.int 0)]), (P.tup [(P.int 3), (P.int 1)]), (P.tup [(P.int 4), (P.int 3)]), (P.tup [(P.int 5), (P.int 1)])])), ([(P.tup [(P.str [97]), (P.str [98]), (P.str [97]), (P.str [99]), (P.str [99]), (P.str [98])]), (P.str [116, 117, 114, 110, 115])], (P.lst [(P.tup [(P.int 0), (P.int 1)]), (P.tup [(P.int 2), (P.int 0)]), (P.tup [(P.int 3), (P.int 4)]), (P.tup [(P.int 5), (P.int 1)])]))]
theorem to_played_by_3 : tabOk C_played_by t_played_by_3 = true := by decide +kernel
def t_played_by_4 : List (List P × P) := [([(P.tup [(P.str [97]), (P.str [98]), (P.str [98]), (P.str [97]), (P.str [99]), (P.str [99])]), (P.str [115, 104, 117, 116])], (P.lst [(P.tup [(P.int 0), (P.int 1)]), (P.tup [(P.int 2), (P.int 1)]), (P.tup [(P.int 3), (P.int 0)]), (P.tup [(P.int 4), (P.int 5)])])), ([(P.tup [(P.str [97]), (P.str [98]), (P.str [98]), (P.str [97]), (P.str [99]), (P.str [99])]), (P.str [111, 112, 101, 110])], (P.lst [(P.tup [(P.int 0), (P.int 1)]), (P.tup [(P.int 2), (P.int 1)]), (P.tup [(P.int 3), (P.int 0)]), (P.tup [(P.int 4), (P.int 5)])])), ([(P.tup [(P.str [97]), (P.str [98]), (P.str [98]), (P.str [97]), (P.str [99]), (P.str [99])]), (P.str [116, 117, 114, 110, 115])], (P.lst [(P.tup [(P.int 0), (P.int 1)]), (P.tup [(P.int 2), (P.int 1)]), (P.tup [(P.int 3), (P.int 0)]), (P.tup [(P.int 4), (P.int 5)])])), ([(P.tup [(P.str [97]), (P.str [98]), (P.str [98]), (P.str [99]), (P.str [97]), (P.str [99])]), (P.str [115, 104, 117, 116])], (P.lst [(P.tup [(P.int 0), (P.int 1)]), (P.tup [(P.int 2), (P.int 1)]), (P.tup [(P.int 3), (P.int 4)]), (P.tup [(P.int 0), (P.int 4)]), (P.tup [(P.int 5), (P.int 3)])])), ([(P.tup [(P.str [97]), (P.str [98]), (P.str [98]), (P.str [99]), (P.str [97]), (P.str [99])]), (P.str [111, 112, 101, 110])], (P.lst [(P.tup [(P.int 0), (P.int 1)]), (P.tup [(P.int 2), (P.int 1)]), (P.tup [(P.int 3), (P.int 0)]), (P.tup [(P.int 4), (P.int 0)]), (P.tup [(P.int 5), (P.int 3)])])), ([(P.tup [(P.str [97]), (P.str [98]), (P.str [98]), (P.str [99]), (P.str [97]), (P.str [99])]), (P.str [116, 117, 114, 110, 115])], (P.lst [(P.tup [(P.int 0), (P.int 1)]), (P.tup [(P.int 2), (P.int 1)]), (P.tup [(P.int 3), (P.int 4)]), (P.tup [(P.int 0), (P.int 4)]), (P.tup [(P.int 5), (P.int 3)])])), ([(P.tup [(P.str [97]), (P.str [98]), (P.str [98]), (P.str [99]), (P.str [99]), (P.str [97])]), (P.str [115, 104, 117, 116])], (P.lst [(P.tup [(P.int 0), (P.int 1)]), (P.tup [(P.int 2), (P.int 1)]), (P.tup [(P.int 3), (P.int 4)]), (P.tup [(P.int 5), (P.int 0)])])), ([(P.tup [(P.str [97]), (P.str [98]), (P.str [98]), (P.str [99]), (P.str [99]), (P.str [97])]), (P.str [111, 112, 101, 110])], (P.lst [(P.tup [(P.int 0), (P.int 1)]), (P.tup [(P.int 2), (P.int 1)]), (P.tup [(P.int 3), (P.int 0)]), (P.tup [(P.int 4), (P.int 3)]), (P.tup [(P.int 5), (P.int 0)])])), ([(P.tup [(P.str [97]), (P.str [98]), (P.str [98]), (P.str [99]), (P.str [99]), (P.str [97])]), (P.str [116, 117, 114, 110, 115])], (P.lst [(P.tup [(P.int 0), (P.int 1)]), (P.tup [(P.int 2), (P.int 1)]), (P.tup [(P.int 3), (P.int 4)]), (P.tup [(P.int 5), (P.int 0)])])), ([(P.tup [(P.str [97]), (P.str [98]), (P.str [99]), (P.str [97]), (P.str [98]), (P.str [99])]), (P.str [115, 104, 117, 116])], (P.lst [(P.tup [(P.int 0), (P.int 1)]), (P.tup [(P.int 2), (P.int 3)]), (P.tup [(P.int 0), (P.int 3)]), (P.tup [(P.int 4), (P.int 1)]), (P.tup [(P.int 5), (P.int 2)])])), ([(P.tup [(P.str [97]), (P.str [98]), (P.str [99]), (P.str [97]), (P.str [98]), (P.str [99])]), (P.str [111, 112, 101, 110])], (P.lst [(P.tup [(P.int 0), (P.int 1)]), (P.tup [(P.int 2), (P.int 0)]), (P.tup [(P.int 3), (P.int 0)]), (P.tup [(P.int 4), (P.int 1)]), (P.tup [(P.int 5), (P.int 2)])])), ([(P.tup [(P.str [97]), (P.str [98]), (P.str [99]), (P.str [97]), (P.str [98]), (P.str [99])]), (P.str [116, 117, 114, 110, 115])], (P.lst [(P.tup [(P.int 0), (P.int 1)]), (P.tup [(P.int 2), (P.int 0)]), (P.tup [(P.int 3), (P.int 0)]), (P.tup [(P.int 4), (P.int 1)]), (P.tup [(P.int 5), (P.int 2)])]))]
theorem to_played_by_4 : tabOk C_played_by t_played_by_4 = true := by decide +kernel
def t_played_by_5 : List (List P × P) := [([(P.tup [(P.str [97]), (P.str [98]), (P.str [99]), (P.str [97]), (P.str [99]), (P.str [98])]), (P.str [115, 104, 117, 116])], (P.lst [(P.tup [(P.int 0), (P.int 1)]), (P.tup [(P.int 2), (P.int 3)]), (P.tup [(P.int 0), (P.int 3)]), (P.tup [(P.int 4), (P.int 2)]), (P.tup [(P.int 5), (P.int 1)])])), ([(P.tup [(P.str [97]), (P.str [98]), (P.str [99]), (P.str [97]), (P.str [99]), (P.str [98])]), (P.str [111, 112, 101, 110])], (P.lst [(P.tup [(P.int 0), (P.int 1)]), (P.tup [(P.int 2), (P.int 0)]), (P.tup [(P.int 3), (P.int 0)]), (P.tup [(P.int 4), (P.int 2)]), (P.tup [(P.int 5), (P.int 1)])])), ([(P.tup [(P.str [97]), (P.str [98]), (P.str [99]), (P.str [97]), (P.str [99]), (P.str [98])]), (P.str [116, 117, 114, 110, 115])], (P.lst [(P.tup [(P.int 0), (P.int 1)]), (P.tup [(P.int 2), (P.int 0)]), (P.tup [(P.int 3), (P.int 0)]), (P.tup [(P.int 4), (P.int 2)]), (P.tup [(P.int 5), (P.int 1)])])), ([(P.tup [(P.str [97]), (P.str [98]), (P.str [99]), (P.str [98]), (P.str [97]), (P.str [99])]), (P.str [115, 104, 117, 116])], (P.lst [(P.tup [(P.int 0), (P.int 1)]), (P.tup [(P.int 2), (P.int 3)]), (P.tup [(P.int 1), (P.int 3)]), (P.tup [(P.int 4), (P.int 0)]), (P.tup [(P.int 5), (P.int 2)])])), ([(P.tup [(P.str [97]), (P.str [98]), (P.str [99]), (P.str [98]), (P.str [97]), (P.str [99])]), (P.str [111, 112, 101, 110])], (P.lst [(P.tup [(P.int 0), (P.int 1)]), (P.tup [(P.int 2), (P.int 0)]), (P.tup [(P.int 3), (P.int 1)]), (P.tup [(P.int 4), (P.int 0)]), (P.tup [(P.int 5), (P.int 2)])])), ([(P.tup [(P.str [97]), (P.str [98]), (P.str [99]), (P.str [98]), (P.str [97]), (P.str [99])]), (P.str [116, 117, 114, 110, 115])], (P.lst [(P.tup [(P.int 0), (P.int 1)]), (P.tup [(P.int 2), (P.int 0)]), (P.tup [(P.int 3), (P.int 1)]), (P.tup [(P.int 4), (P.int 0)]), (P.tup [(P.int 5), (P.int 2)])])), ([(P.tup [(P.str [97]), (P.str [98]), (P.str [99]), (P.str [98]), (P.str [99]), (P.str [97])]), (P.str [115, 104, 117, 116])], (P.lst [(P.tup [(P.int 0), (P.int 1)]), (P.tup [(P.int 2), (P.int 3)]), (P.tup [(P.int 1), (P.int 3)]), (P.tup [(P.int 4), (P.int 2)]), (P.tup [(P.int 5), (P.int 0)])])), ([(P.tup [(P.str [97]), (P.str [98]), (P.str [99]), (P.str [98]), (P.str [99]), (P.str [97])]), (P.str [111, 112, 101, 110])], (P.lst [(P.tup [(P.int 0), (P.int 1)]), (P.tup [(P.int 2), (P.int 0)]), (P.tup [(P.int 3), (P.int 1)]), (P.tup [(P.int 4), (P.int 2)]), (P.tup [(P.int 5), (P.int 0)])])), ([(P.tup [(P.str [97]), (P.str [98]), (P.str [99]), (P.str [98]), (P.str [99]), (P.str [97])]), (P.str [116, 117, 114, 110, 115])], (P.lst [(P.tup [(P.int 0), (P.int 1)]), (P.tup [(P.int 2), (P.int 0)]), (P.tup [(P.int 3), (P.int 1)]), (P.tup [(P.int 4), (P.int 2)]), (P.tup [(P.int 5), (P.int 0)])])), ([(P.tup [(P.str [97]), (P.str [98]), (P.str [99]), (P.str [99]), (P.str [97]), (P.str [98])]), (P.str [115, 104, 117, 116])], (P.lst [(P.tup [(P.int 0), (P.int 1)]), (P.tup [(P.int 2), (P.int 3)]), (P.tup [(P.int 4), (P.int 0)]), (P.tup [(P.int 5), (P.int 1)])])), ([(P.tup [(P.str [97]), (P.str [98]), (P.str [99]), (P.str [99]), (P.str [97]), (P.str [98])]), (P.str [111, 112, 101, 110])], (P.lst [(P.tup [(P.int 0), (P.int 1)]), (P.tup [(P.int 2), (P.int 0)]), (P.tup [(P.int 3), (P.int 2)]), (P.tup [(P.int 4), (P.int 0)]), (P.tup [(P.int 5), (P.int 1)])])), ([(P.tup [(P.str [97]), (P.str [98]), (P.str [99]), (P.str [99]), (P.str [97]), (P.str [98])]), (P.str [116, 117, 114, 110, 115])], (P.lst [(P.tup [(P.int 0), (P.int 1)]), (P.tup [(P.int 2), (P.int 0)]), (P.tup [(P.int 3), (P.int 2)]), (P.tup [(P.int 4), (P.int 0)]), (P.tup [(P.int 5), (P.int 1)])]))]
theorem to_played_by_5 : tabOk C_played_by t_played_by_5 = true := by decide +kernel
def t_played_by_6 : List (List P × P) := [([(P.tup [(P.str [97]), (P.str [98]), (P.str [99]), (P.str [99]), (P.str [98]), (P.str [97])]), (P.str [115, 104, 117, 116])], (P.lst [(P.tup [(P.int 0), (P.int 1)]), (P.tup [(P.int 2), (P.int 3)]), (P.tup [(P.int 4), (P.int 1)]), (P.tup [(P.int 5), (P.int 0)])])), ([(P.tup [(P.str [97]), (P.str [98]), (P.str [99]), (P.str [99]), (P.str [98]), (P.str [97])]), (P.str [111, 112, 101, 110])], (P.lst [(P.tup [(P.int 0), (P.int 1)]), (P.tup [(P.int 2), (P.int 0)]), (P.tup [(P.int 3), (P.int 2)]), (P.tup [(P.int 4), (P.int 1)]), (P.tup [(P.int 5), (P.int 0)])])), ([(P.tup [(P.str [97]), (P.str [98]), (P.str [99]), (P.str [99]), (P.str [98]), (P.str [97])]), (P.str [116, 117, 114, 110, 115])], (P.lst [(P.tup [(P.int 0), (P.int 1)]), (P.tup [(P.int 2), (P.int 0)]), (P.tup [(P.int 3), (P.int 2)]), (P.tup [(P.int 4), (P.int 1)]), (P.tup [(P.int 5), (P.int 0)])])), ([(P.tup [(P.str [97]), (P.str [99]), (P.str [97]), (P.str [98]), (P.str [98]), (P.str [99])]), (P.str [115, 104, 117, 116])], (P.lst [(P.tup [(P.int 0), (P.int 1)]), (P.tup [(P.int 2), (P.int 0)]), (P.tup [(P.int 3), (P.int 4)]), (P.tup [(P.int 5), (P.int 1)])])), ([(P.tup [(P.str [97]), (P.str [99]), (P.str [97]), (P.str [98]), (P.str [98]), (P.str [99])]), (P.str [111, 112, 101, 110])], (P.lst [(P.tup [(P.int 0), (P.int 1)]), (P.tup [(P.int 2), (P.int 0)]), (P.tup [(P.int 3), (P.int 1)]), (P.tup [(P.int 4), (P.int 3)]), (P.tup [(P.int 5), (P.int 1)])])), ([(P.tup [(P.str [97]), (P.str [99]), (P.str [97]), (P.str [98]), (P.str [98]), (P.str [99])]), (P.str [116, 117, 114, 110, 115])], (P.lst [(P.tup [(P.int 0), (P.int 1)]), (P.tup [(P.int 2), (P.int 0)]), (P.tup [(P.int 3), (P.int 4)]), (P.tup [(P.int 5), (P.int 1)])])), ([(P.tup [(P.str [97]), (P.str [99]), (P.str [97]), (P.str [98]), (P.str [99]), (P.str [98])]), (P.str [115, 104, 117, 116])], (P.lst [(P.tup [(P.int 0), (P.int 1)]), (P.tup [(P.int 2), (P.int 0)]), (P.tup [(P.int 3), (P.int 4)]), (P.tup [(P.int 1), (P.int 4)]), (P.tup [(P.int 5), (P.int 3)])])), ([(P.tup [(P.str [97]), (P.str [99]), (P.str [97]), (P.str [98]), (P.str [99]), (P.str [98])]), (P.str [111, 112, 101, 110])], (P.lst [(P.tup [(P.int 0), (P.int 1)]), (P.tup [(P.int 2), (P.int 0)]), (P.tup [(P.int 3), (P.int 1)]), (P.tup [(P.int 4), (P.int 1)]), (P.tup [(P.int 5), (P.int 3)])])), ([(P.tup [(P.str [97]), (P.str [99]), (P.str [97]), (P.str [98]), (P.str [99]), (P.str [98])]), (P.str [116, 117, 114, 110, 115])], (P.lst [(P.tup [(P.int 0), (P.int 1)]), (P.tup [(P.int 2), (P.int 0)]), (P.tup [(P.int 3), (P.int 4)]), (P.tup [(P.int 1), (P.int 4)]), (P.tup [(P.int 5), (P.int 3)])])), ([(P.tup [(P.str [97]), (P.str [99]), (P.str [97]), (P.str [99]), (P.str [98]), (P.str [98])]), (P.str [115, 104, 117, 116])], (P.lst [(P.tup [(P.int 0), (P.int 1)]), (P.tup [(P.int 2), (P.int 0)]), (P.tup [(P.int 3), (P.int 1)]), (P.tup [(P.int 4), (P.int 5)])])), ([(P.tup [(P.str [97]), (P.str [99]), (P.str [97]), (P.str [99]), (P.str [98]), (P.str [98])]), (P.str [111, 112, 101, 110])], (P.lst [(P.tup [(P.int 0), (P.int 1)]), (P.tup [(P.int 2), (P.int 0)]), (P.tup [(P.int 3), (P.int 1)]), (P.tup [(P.int 4), (P.int 5)])])), ([(P.tup [(P.str [97]), (P.str [99]), (P.str [97]), (P.str [99]), (P.str [98]), (P.str [98])]), (P.str [116, 117, 114, 110, 115])], (P.lst [(P.tup [(P.int 0), (P.int 1)]), (P.tup [(P.int 2), (P.int 0)]), (P.tup [(P.int 3), (P.int 1)]), (P.tup [(P.int 4), (P.int 5)])]))]
theorem to_played_by_6 : tabOk C_played_by t_played_by_6 = true := by decide +kernel
def t_played_by_7 : List (List P × P) := [([(P.tup [(P.str [97]), (P.str [99]), (P.str [98]), (P.str [97]), (P.str [98]), (P.str [99])]), (P.str [115, 104, 117, 116])], (P.lst [(P.tup [(P.int 0), (P.int 1)]), (P.tup [(P.int 2), (P.int 3)]), (P.tup [(P.int 0), (P.int 3)]), (P.tup [(P.int 4), (P.int 2)]), (P.tup [(P.int 5), (P.int 1)])])), ([(P.tup [(P.str [97]), (P.str [99]), (P.str [98]), (P.str [97]), (P.str [98]), (P.str [99])]), (P.str [111, 112, 101, 110])], (P.lst [(P.tup [(P.int 0), (P.int 1)]), (P.tup [(P.int 2), (P.int 0)]), (P.tup [(P.int 3), (P.int 0)]), (P.tup [(P.int 4), (P.int 2)]), (P.tup [(P.int 5), (P.int 1)])])), ([(P.tup [(P.str [97]), (P.str [99]), (P.str [98]), (P.str [97]), (P.str [98]), (P.str [99])]), (P.str [116, 117, 114, 110, 115])], (P.lst [(P.tup [(P.int 0), (P.int 1)]), (P.tup [(P.int 2), (P.int 0)]), (P.tup [(P.int 3), (P.int 0)]), (P.tup [(P.int 4), (P.int 2)]), (P.tup [(P.int 5), (P.int 1)])])), ([(P.tup [(P.str [97]), (P.str [99]), (P.str [98]), (P.str [97]), (P.str [99]), (P.str [98])]), (P.str [115, 104, 117, 116])], (P.lst [(P.tup [(P.int 0), (P.int 1)]), (P.tup [(P.int 2), (P.int 3)]), (P.tup [(P.int 0), (P.int 3)]), (P.tup [(P.int 4), (P.int 1)]), (P.tup [(P.int 5), (P.int 2)])])), ([(P.tup [(P.str [97]), (P.str [99]), (P.str [98]), (P.str [97]), (P.str [99]), (P.str [98])]), (P.str [111, 112, 101, 110])], (P.lst [(P.tup [(P.int 0), (P.int 1)]), (P.tup [(P.int 2), (P.int 0)]), (P.tup [(P.int 3), (P.int 0)]), (P.tup [(P.int 4), (P.int 1)]), (P.tup [(P.int 5), (P.int 2)])])), ([(P.tup [(P.str [97]), (P.str [99]), (P.str [98]), (P.str [97]), (P.str [99]), (P.str [98])]), (P.str [116, 117, 114, 110, 115])], (P.lst [(P.tup [(P.int 0), (P.int 1)]), (P.tup [(P.int 2), (P.int 0)]), (P.tup [(P.int 3), (P.int 0)]), (P.tup [(P.int 4), (P.int 1)]), (P.tup [(P.int 5), (P.int 2)])])), ([(P.tup [(P.str [97]), (P.str [99]), (P.str [98]), (P.str [98]), (P.str [97]), (P.str [99])]), (P.str [115, 104, 117, 116])], (P.lst [(P.tup [(P.int 0), (P.int 1)]), (P.tup [(P.int 2), (P.int 3)]), (P.tup [(P.int 4), (P.int 0)]), (P.tup [(P.int 5), (P.int 1)])])), ([(P.tup [(P.str [97]), (P.str [99]), (P.str [98]), (P.str [98]), (P.str [97]), (P.str [99])]), (P.str [111, 112, 101, 110])], (P.lst [(P.tup [(P.int 0), (P.int 1)]), (P.tup [(P.int 2), (P.int 0)]), (P.tup [(P.int 3), (P.int 2)]), (P.tup [(P.int 4), (P.int 0)]), (P.tup [(P.int 5), (P.int 1)])])), ([(P.tup [(P.str [97]), (P.str [99]), (P.str [98]), (P.str [98]), (P.str [97]), (P.str [99])]), (P.str [116, 117, 114, 110, 115])], (P.lst [(P.tup [(P.int 0), (P.int 1)]), (P.tup [(P.int 2), (P.int 0)]), (P.tup [(P.int 3), (P.int 2)]), (P.tup [(P.int 4), (P.int 0)]), (P.tup [(P.int 5), (P.int 1)])])), ([(P.tup [(P.str [97]), (P.str [99]), (P.str [98]), (P.str [98]), (P.str [99]), (P.str [97])]), (P.str [115, 104, 117, 116])], (P.lst [(P.tup [(P.int 0), (P.int 1)]), (P.tup [(P.int 2), (P.int 3)]), (P.tup [(P.int 4), (P.int 1)]), (P.tup [(P.int 5), (P.int 0)])])), ([(P.tup [(P.str [97]), (P.str [99]), (P.str [98]), (P.str [98]), (P.str [99]), (P.str [97])]), (P.str [111, 112, 101, 110])], (P.lst [(P.tup [(P.int 0), (P.int 1)]), (P.tup [(P.int 2), (P.int 0)]), (P.tup [(P.int 3), (P.int 2)]), (P.tup [(P.int 4), (P.int 1)]), (P.tup [(P.int 5), (P.int 0)])])), ([(P.tup [(P.str [97]), (P.str [99]), (P.str [98]), (P.str [98]), (P.str [99]), (P.str [97])]), (P.str [116, 117, 114, 110, 115])], (P.lst [(P.tup [(P.int 0), (P.int 1)]), (P.tup [(P.int 2), (P.int 0)]), (P.tup [(P.int 3), (P.int 2)]), (P.tup [(P.int 4), (P.int 1)]), (P.tup [(P.int 5), (P.int 0)])]))]
theorem to_played_by_7 : tabOk C_played_by t_played_by_7 = true := by decide +kernel
def t_played_by_8 : List (List P × P) := [([(P.tup [(P.str [97]), (P.str [99]), (P.str [98]), (P.str [99]), (P.str [97]), (P.str [98])]), (P.str [115, 104, 117, 116])], (P.lst [(P.tup [(P.int 0), (P.int 1)]), (P.tup [(P.int 2), (P.int 3)]), (P.tup [(P.int 1), (P.int 3)]), (P.tup [(P.int 4), (P.int 0)]), (P.tup [(P.int 5), (P.int 2)])])), ([(P.tup [(P.str [97]), (P.str [99]), (P.str [98]), (P.str [99]), (P.str [97]), (P.str [98])]), (P.str [111, 112, 101, 110])], (P.lst [(P.tup [(P.int 0), (P.int 1)]), (P.tup [(P.int 2), (P.int 0)]), (P.tup [(P.int 3), (P.int 1)]), (P.tup [(P.int 4), (P.int 0)]), (P.tup [(P.int 5), (P.int 2)])])), ([(P.tup [(P.str [97]), (P.str [99]), (P.str [98]), (P.str [99]), (P.str [97]), (P.str [98])]), (P.str [116, 117, 114, 110, 115])], (P.lst [(P.tup [(P.int 0), (P.int 1)]), (P.tup [(P.int 2), (P.int 0)]), (P.tup [(P.int 3), (P.int 1)]), (P.tup [(P.int 4), (P.int 0)]), (P.tup [(P.int 5), (P.int 2)])])), ([(P.tup [(P.str [97]), (P.str [99]), (P.str [98]), (P.str [99]), (P.str [98]), (P.str [97])]), (P.str [115, 104, 117, 116])], (P.lst [(P.tup [(P.int 0), (P.int 1)]), (P.tup [(P.int 2), (P.int 3)]), (P.tup [(P.int 1), (P.int 3)]), (P.tup [(P.int 4), (P.int 2)]), (P.tup [(P.int 5), (P.int 0)])])), ([(P.tup [(P.str [97]), (P.str [99]), (P.str [98]), (P.str [99]), (P.str [98]), (P.str [97])]), (P.str [111, 112, 101, 110])], (P.lst [(P.tup [(P.int 0), (P.int 1)]), (P.tup [(P.int 2), (P.int 0)]), (P.tup [(P.int 3), (P.int 1)]), (P.tup [(P.int 4), (P.int 2)]), (P.tup [(P.int 5), (P.int 0)])])), ([(P.tup [(P.str [97]), (P.str [99]), (P.str [98]), (P.str [99]), (P.str [98]), (P.str [97])]), (P.str [116, 117, 114, 110, 115])], (P.lst [(P.tup [(P.int 0), (P.int 1)]), (P.tup [(P.int 2), (P.int 0)]), (P.tup [(P.int 3), (P.int 1)]), (P.tup [(P.int 4), (P.int 2)]), (P.tup [(P.int 5), (P.int 0)])])), ([(P.tup [(P.str [97]), (P.str [99]), (P.str [99]), (P.str [97]), (P.str [98]), (P.str [98])]), (P.str [115, 104, 117, 116])], (P.lst [(P.tup [(P.int 0), (P.int 1)]), (P.tup [(P.int 2), (P.int 1)]), (P.tup [(P.int 3), (P.int 0)]), (P.tup [(P.int 4), (P.int 5)])])), ([(P.tup [(P.str [97]), (P.str [99]), (P.str [99]), (P.str [97]), (P.str [98]), (P.str [98])]), (P.str [111, 112, 101, 110])], (P.lst [(P.tup [(P.int 0), (P.int 1)]), (P.tup [(P.int 2), (P.int 1)]), (P.tup [(P.int 3), (P.int 0)]), (P.tup [(P.int 4), (P.int 5)])])), ([(P.tup [(P.str [97]), (P.str [99]), (P.str [99]), (P.str [97]), (P.str [98]), (P.str [98])]), (P.str [116, 117, 114, 110, 115])], (P.lst [(P.tup [(P.int 0), (P.int 1)]), (P.tup [(P.int 2), (P.int 1)]), (P.tup [(P.int 3), (P.int 0)]), (P.tup [(P.int 4), (P.int 5)])])), ([(P.tup [(P.str [97]), (P.str [99]), (P.str [99]), (P.str [98]), (P.str [97]), (P.str [98])]), (P.str [115, 104, 117, 116])], (P.lst [(P.tup [(P.int 0), (P.int 1)]), (P.tup [(P.int 2), (P.int 1)]), (P.tup [(P.int 3), (P.int 4)]), (P.tup [(P.int 0), (P.int 4)]), (P.tup [(P.int 5), (P.int 3)])])), ([(P.tup [(P.str [97]), (P.str [99]), (P.str [99]), (P.str [98]), (P.str [97]), (P.str [98])]), (P.str [111, 112, 101, 110])], (P.lst [(P.tup [(P.int 0), (P.int 1)]), (P.tup [(P.int 2), (P.int 1)]), (P.tup [(P.int 3), (P.int 0)]), (P.tup [(P.int 4), (P.int 0)]), (P.tup [(P.int 5), (P.int 3)])])), ([(P.tup [(P.str [97]), (P.str [99]), (P.str [99]), (P.str [98]), (P.str [97]), (P.str [98])]), (P.str [116, 117, 114, 110, 115])], (P.lst [(P.tup [(P.int 0), (P.int 1)]), (P.tup [(P.int 2), (P.int 1)]), (P.tup [(P.int 3), (P.int 4)]), (P.tup [(P.int 0), (P.int 4)]), (P.tup [(P.int 5), (P.int 3)])]))]
theorem to_played_by_8 : tabOk C_played_by t_played_by_8 = true := by decide +kernel
def t_played_by_9 : List (List P × P) := [([(P.tup [(P.str [97]), (P.str [99]), (P.str [99]), (P.str [98]), (P.str [98]), (P.str [97])]), (P.str [115, 104, 117, 116])], (P.lst [(P.tup [(P.int 0), (P.int 1)]), (P.tup [(P.int 2), (P.int 1)]), (P.tup [(P.int 3), (P.int 4)]), (P.tup [(P.int 5), (P.int 0)])])), ([(P.tup [(P.str [97]), (P.str [99]), (P.str [99]), (P.str [98]), (P.str [98]), (P.str [97])]), (P.str [111, 112, 101, 110])], (P.lst [(P.tup [(P.int 0), (P.int 1)]), (P.tup [(P.int 2), (P.int 1)]), (P.tup [(P.int 3), (P.int 0)]), (P.tup [(P.int 4), (P.int 3)]), (P.tup [(P.int 5), (P.int 0)])])), ([(P.tup [(P.str [97]), (P.str [99]), (P.str [99]), (P.str [98]), (P.str [98]), (P.str [97])]), (P.str [116, 117, 114, 110, 115])], (P.lst [(P.tup [(P.int 0), (P.int 1)]), (P.tup [(P.int 2), (P.int 1)]), (P.tup [(P.int 3), (P.int 4)]), (P.tup [(P.int 5), (P.int 0)])])), ([(P.tup [(P.str [98]), (P.str [97]), (P.str [97]), (P.str [98]), (P.str [99]), (P.str [99])]), (P.str [115, 104, 117, 116])], (P.lst [(P.tup [(P.int 0), (P.int 1)]), (P.tup [(P.int 2), (P.int 1)]), (P.tup [(P.int 3), (P.int 0)]), (P.tup [(P.int 4), (P.int 5)])])), ([(P.tup [(P.str [98]), (P.str [97]), (P.str [97]), (P.str [98]), (P.str [99]), (P.str [99])]), (P.str [111, 112, 101, 110])], (P.lst [(P.tup [(P.int 0), (P.int 1)]), (P.tup [(P.int 2), (P.int 1)]), (P.tup [(P.int 3), (P.int 0)]), (P.tup [(P.int 4), (P.int 5)])])), ([(P.tup [(P.str [98]), (P.str [97]), (P.str [97]), (P.str [98]), (P.str [99]), (P.str [99])]), (P.str [116, 117, 114, 110, 115])], (P.lst [(P.tup [(P.int 0), (P.int 1)]), (P.tup [(P.int 2), (P.int 1)]), (P.tup [(P.int 3), (P.int 0)]), (P.tup [(P.int 4), (P.int 5)])])), ([(P.tup [(P.str [98]), (P.str [97]), (P.str [97]), (P.str [99]), (P.str [98]), (P.str [99])]), (P.str [115, 104, 117, 116])], (P.lst [(P.tup [(P.int 0), (P.int 1)]), (P.tup [(P.int 2), (P.int 1)]), (P.tup [(P.int 3), (P.int 4)]), (P.tup [(P.int 0), (P.int 4)]), (P.tup [(P.int 5), (P.int 3)])])), ([(P.tup [(P.str [98]), (P.str [97]), (P.str [97]), (P.str [99]), (P.str [98]), (P.str [99])]), (P.str [111, 112, 101, 110])], (P.lst [(P.tup [(P.int 0), (P.int 1)]), (P.tup [(P.int 2), (P.int 1)]), (P.tup [(P.int 3), (P.int 0)]), (P.tup [(P.int 4), (P.int 0)]), (P.tup [(P.int 5), (P.int 3)])])), ([(P.tup [(P.str [98]), (P.str [97]), (P.str [97]), (P.str [99]), (P.str [98]), (P.str [99])]), (P.str [116, 117, 114, 110, 115])], (P.lst [(P.tup [(P.int 0), (P.int 1)]), (P.tup [(P.int 2), (P.int 1)]), (P.tup [(P.int 3), (P.int 4)]), (P.tup [(P.int 0), (P.int 4)]), (P.tup [(P.int 5), (P.int 3)])])), ([(P.tup [(P.str [98]), (P.str [97]), (P.str [97]), (P.str [99]), (P.str [99]), (P.str [98])]), (P.str [115, 104, 117, 116])], (P.lst [(P.tup [(P.int 0), (P.int 1)]), (P.tup [(P.int 2), (P.int 1)]), (P.tup [(P.int 3), (P.int 4)]), (P.tup [(P.int 5), (P.int 0)])])), ([(P.tup [(P.str [98]), (P.str [97]), (P.str [97]), (P.str [99]), (P.str [99]), (P.str [98])]), (P.str [111, 112, 101, 110])], (P.lst [(P.tup [(P.int 0), (P.int 1)]), (P.tup [(P.int 2), (P.int 1)]), (P.tup [(P.int 3), (P.int 0)]), (P.tup [(P.int 4), (P.int 3)]), (P.tup [(P.int 5), (P.int 0)])])), ([(P.tup [(P.str [98]), (P.str [97]), (P.str [97]), (P.str [99]), (P.str [99]), (P.str [98])]), (P.str [116, 117, 114, 110, 115])], (P.lst [(P.tup [(P.int 0), (P.int 1)]), (P.tup [(P.int 2), (P.int 1)]), (P.tup [(P.int 3), (P.int 4)]), (P.tup [(P.int 5), (P.int 0)])]))]
theorem to_played_by_9 : tabOk C_played_by t_played_by_9 = true := by decide +kernel
def t_played_by_10 : List (List P × P) := [([(P.tup [(P.str [98]), (P.str [97]), (P.str [98]), (P.str [97]), (P.str [99]), (P.str [99])]), (P.str [115, 104, 117, 116])], (P.lst [(P.tup [(P.int 0), (P.int 1)]), (P.tup [(P.int 2), (P.int 0)]), (P.tup [(P.int 3), (P.int 1)]), (P.tup [(P.int 4), (P.int 5)])])), ([(P.tup [(P.str [98]), (P.str [97]), (P.str [98]), (P.str [97]), (P.str [99]), (P.str [99])]), (P.str [111, 112, 101, 110])], (P.lst [(P.tup [(P.int 0), (P.int 1)]), (P.tup [(P.int 2), (P.int 0)]), (P.tup [(P.int 3), (P.int 1)]), (P.tup [(P.int 4), (P.int 5)])])), ([(P.tup [(P.str [98]), (P.str [97]), (P.str [98]), (P.str [97]), (P.str [99]), (P.str [99])]), (P.str [116, 117, 114, 110, 115])], (P.lst [(P.tup [(P.int 0), (P.int 1)]), (P.tup [(P.int 2), (P.int 0)]), (P.tup [(P.int 3), (P.int 1)]), (P.tup [(P.int 4), (P.int 5)])])), ([(P.tup [(P.str [98]), (P.str [97]), (P.str [98]), (P.str [99]), (P.str [97]), (P.str [99])]), (P.str [115, 104, 117, 116])], (P.lst [(P.tup [(P.int 0), (P.int 1)]), (P.tup [(P.int 2), (P.int 0)]), (P.tup [(P.int 3), (P.int 4)]), (P.tup [(P.int 1), (P.int 4)]), (P.tup [(P.int 5), (P.int 3)])])), ([(P.tup [(P.str [98]), (P.str [97]), (P.str [98]), (P.str [99]), (P.str [97]), (P.str [99])]), (P.str [111, 112, 101, 110])], (P.lst [(P.tup [(P.int 0), (P.int 1)]), (P.tup [(P.int 2), (P.int 0)]), (P.tup [(P.int 3), (P.int 1)]), (P.tup [(P.int 4), (P.int 1)]), (P.tup [(P.int 5), (P.int 3)])])), ([(P.tup [(P.str [98]), (P.str [97]), (P.str [98]), (P.str [99]), (P.str [97]), (P.str [99])]), (P.str [116, 117, 114, 110, 115])], (P.lst [(P.tup [(P.int 0), (P.int 1)]), (P.tup [(P.int 2), (P.int 0)]), (P.tup [(P.int 3), (P.int 4)]), (P.tup [(P.int 1), (P.int 4)]), (P.tup [(P.int 5), (P.int 3)])])), ([(P.tup [(P.str [98]), (P.str [97]), (P.str [98]), (P.str [99]), (P.str [99]), (P.str [97])]), (P.str [115, 104, 117, 116])], (P.lst [(P.tup [(P.int 0), (P.int 1)]), (P.tup [(P.int 2), (P.int 0)]), (P.tup [(P.int 3), (P.int 4)]), (P.tup [(P.int 5), (P.int 1)])])), ([(P.tup [(P.str [98]), (P.str [97]), (P.str [98]), (P.str [99]), (P.str [99]), (P.str [97])]), (P.str [111, 112, 101, 110])], (P.lst [(P.tup [(P.int 0), (P.int 1)]), (P.tup [(P.int 2), (P.int 0)]), (P.tup [(P.int 3), (P.int 1)]), (P.tup [(P.int 4), (P.int 3)]), (P.tup [(P.int 5), (P.int 1)])])), ([(P.tup [(P.str [98]), (P.str [97]), (P.str [98]), (P.str [99]), (P.str [99]), (P.str [97])]), (P.str [116, 117, 114, 110, 115])], (P.lst [(P.tup [(P.int 0), (P.int 1)]), (P.tup [(P.int 2), (P.int 0)]), (P.tup [(P.int 3), (P.int 4)]), (P.tup [(P.int 5), (P.int 1)])])), ([(P.tup [(P.str [98]), (P.str [97]), (P.str [99]), (P.str [97]), (P.str [98]), (P.str [99])]), (P.str [115, 104, 117, 116])], (P.lst [(P.tup [(P.int 0), (P.int 1)]), (P.tup [(P.int 2), (P.int 3)]), (P.tup [(P.int 1), (P.int 3)]), (P.tup [(P.int 4), (P.int 0)]), (P.tup [(P.int 5), (P.int 2)])])), ([(P.tup [(P.str [98]), (P.str [97]), (P.str [99]), (P.str [97]), (P.str [98]), (P.str [99])]), (P.str [111, 112, 101, 110])], (P.lst [(P.tup [(P.int 0), (P.int 1)]), (P.tup [(P.int 2), (P.int 0)]), (P.tup [(P.int 3), (P.int 1)]), (P.tup [(P.int 4), (P.int 0)]), (P.tup [(P.int 5), (P.int 2)])])), ([(P.tup [(P.str [98]), (P.str [97]), (P.str [99]), (P.str [97]), (P.str [98]), (P.str [99])]), (P.str [116, 117, 114, 110, 115])], (P.lst [(P.tup [(P.int 0), (P.int 1)]), (P.tup [(P.int 2), (P.int 0)]), (P.tup [(P.int 3), (P.int 1)]), (P.tup [(P.int 4), (P.int 0)]), (P.tup [(P.int 5), (P.int 2)])]))]
theorem to_played_by_10 : tabOk C_played_by t_played_by_10 = true := by decide +kernel
def t_played_by_11 : List (List P × P) := [([(P.tup [(P.str [98]), (P.str [97]), (P.str [99]), (P.str [97]), (P.str [99]), (P.str [98])]), (P.str [115, 104, 117, 116])], (P.lst [(P.tup [(P.int 0), (P.int 1)]), (P.tup [(P.int 2), (P.int 3)]), (P.tup [(P.int 1), (P.int 3)]), (P.tup [(P.int 4), (P.int 2)]), (P.tup [(P.int 5), (P.int 0)])])), ([(P.tup [(P.str [98]), (P.str [97]), (P.str [99]), (P.str [97]), (P.str [99]), (P.str [98])]), (P.str [111, 112, 101, 110])], (P.lst [(P.tup [(P.int 0), (P.int 1)]), (P.tup [(P.int 2), (P.int 0)]), (P.tup [(P.int 3), (P.int 1)]), (P.tup [(P.int 4), (P.int 2)]), (P.tup [(P.int 5), (P.int 0)])])), ([(P.tup [(P.str [98]), (P.str [97]), (P.str [99]), (P.str [97]), (P.str [99]), (P.str [98])]), (P.str [116, 117, 114, 110, 115])], (P.lst [(P.tup [(P.int 0), (P.int 1)]), (P.tup [(P.int 2), (P.int 0)]), (P.tup [(P.int 3), (P.int 1)]), (P.tup [(P.int 4), (P.int 2)]), (P.tup [(P.int 5), (P.int 0)])])), ([(P.tup [(P.str [98]), (P.str [97]), (P.str [99]), (P.str [98]), (P.str [97]), (P.str [99])]), (P.str [115, 104, 117, 116])], (P.lst [(P.tup [(P.int 0), (P.int 1)]), (P.tup [(P.int 2), (P.int 3)]), (P.tup [(P.int 0), (P.int 3)]), (P.tup [(P.int 4), (P.int 1)]), (P.tup [(P.int 5), (P.int 2)])])), ([(P.tup [(P.str [98]), (P.str [97]), (P.str [99]), (P.str [98]), (P.str [97]), (P.str [99])]), (P.str [111, 112, 101, 110])], (P.lst [(P.tup [(P.int 0), (P.int 1)]), (P.tup [(P.int 2), (P.int 0)]), (P.tup [(P.int 3), (P.int 0)]), (P.tup [(P.int 4), (P.int 1)]), (P.tup [(P.int 5), (P.int 2)])])), ([(P.tup [(P.str [98]), (P.str [97]), (P.str [99]), (P.str [98]), (P.str [97]), (P.str [99])]), (P.str [116, 117, 114, 110, 115])], (P.lst [(P.tup [(P.int 0), (P.int 1)]), (P.tup [(P.int 2), (P.int 0)]), (P.tup [(P.int 3), (P.int 0)]), (P.tup [(P.int 4), (P.int 1)]), (P.tup [(P.int 5), (P.int 2)])])), ([(P.tup [(P.str [98]), (P.str [97]), (P.str [99]), (P.str [98]), (P.str [99]), (P.str [97])]), (P.str [115, 104, 117, 116])], (P.lst [(P.tup [(P.int 0), (P.int 1)]), (P.tup [(P.int 2), (P.int 3)]), (P.tup [(P.int 0), (P.int 3)]), (P.tup [(P.int 4), (P.int 2)]), (P.tup [(P.int 5), (P.int 1)])])), ([(P.tup [(P.str [98]), (P.str [97]), (P.str [99]), (P.str [98]), (P.str [99]), (P.str [97])]), (P.str [111, 112, 101, 110])], (P.lst [(P.tup [(P.int 0), (P.int 1)]), (P.tup [(P.int 2), (P.int 0)]), (P.tup [(P.int 3), (P.int 0)]), (P.tup [(P.int 4), (P.int 2)]), (P.tup [(P.int 5), (P.int 1)])])), ([(P.tup [(P.str [98]), (P.str [97]), (P.str [99]), (P.str [98]), (P.str [99]), (P.str [97])]), (P.str [116, 117, 114, 110, 115])], (P.lst [(P.tup [(P.int 0), (P.int 1)]), (P.tup [(P.int 2), (P.int 0)]), (P.tup [(P.int 3), (P.int 0)]), (P.tup [(P.int 4), (P.int 2)]), (P.tup [(P.int 5), (P.int 1)])])), ([(P.tup [(P.str [98]), (P.str [97]), (P.str [99]), (P.str [99]), (P.str [97]), (P.str [98])]), (P.str [115, 104, 117, 116])], (P.lst [(P.tup [(P.int 0), (P.int 1)]), (P.tup [(P.int 2), (P.int 3)]), (P.tup [(P.int 4), (P.int 1)]), (P.tup [(P.int 5), (P.int 0)])])), ([(P.tup [(P.str [98]), (P.str [97]), (P.str [99]), (P.str [99]), (P.str [97]), (P.str [98])]), (P.str [111, 112, 101, 110])], (P.lst [(P.tup [(P.int 0), (P.int 1)]), (P.tup [(P.int 2), (P.int 0)]), (P.tup [(P.int 3), (P.int 2)]), (P.tup [(P.int 4), (P.int 1)]), (P.tup [(P.int 5), (P.int 0)])])), ([(P.tup [(P.str [98]), (P.str [97]), (P.str [99]), (P.str [99]), (P.str [97]), (P.str [98])]), (P.str [116, 117, 114, 110, 115])], (P.lst [(P.tup [(P.int 0), (P.int 1)]), (P.tup [(P.int 2), (P.int 0)]), (P.tup [(P.int 3), (P.int 2)]), (P.tup [(P.int 4), (P.int 1)]), (P.tup [(P.int 5), (P.int 0)])]))]
theorem to_played_by_11 : tabOk C_played_by t_played_by_11 = true := by decide +kernel
def t_played_by_12 : List (List P × P) := [([(P.tup [(P.str [98]), (P.str [97]), (P.str [99]), (P.str [99]), (P.str [98]), (P.str [97])]), (P.str [115, 104, 117, 116])], (P.lst [(P.tup [(P.int 0), (P.int 1)]), (P.tup [(P.int 2), (P.int 3)]), (P.tup [(P.int 4), (P.int 0)]), (P.tup [(P.int 5), (P.int 1)])])), ([(P.tup [(P.str [98]), (P.str [97]), (P.str [99]), (P.str [99]), (P.str [98]), (P.str [97])]), (P.str [111, 112, 101, 110])], (P.lst [(P.tup [(P.int 0), (P.int 1)]), (P.tup [(P.int 2), (P.int 0)]), (P.tup [(P.int 3), (P.int 2)]), (P.tup [(P.int 4), (P.int 0)]), (P.tup [(P.int 5), (P.int 1)])])), ([(P.tup [(P.str [98]), (P.str [97]), (P.str [99]), (P.str [99]), (P.str [98]), (P.str [97])]), (P.str [116, 117, 114, 110, 115])], (P.lst [(P.tup [(P.int 0), (P.int 1)]), (P.tup [(P.int 2), (P.int 0)]), (P.tup [(P.int 3), (P.int 2)]), (P.tup [(P.int 4), (P.int 0)]), (P.tup [(P.int 5), (P.int 1)])])), ([(P.tup [(P.str [98]), (P.str [98]), (P.str [97]), (P.str [97]), (P.str [99]), (P.str [99])]), (P.str [115, 104, 117, 116])], (P.lst [(P.tup [(P.int 0), (P.int 1)]), (P.tup [(P.int 2), (P.int 3)]), (P.tup [(P.int 4), (P.int 5)])])), ([(P.tup [(P.str [98]), (P.str [98]), (P.str [97]), (P.str [97]), (P.str [99]), (P.str [99])]), (P.str [111, 112, 101, 110])], (P.lst [(P.tup [(P.int 0), (P.int 1)]), (P.tup [(P.int 2), (P.int 3)]), (P.tup [(P.int 4), (P.int 5)])])), ([(P.tup [(P.str [98]), (P.str [98]), (P.str [97]), (P.str [97]), (P.str [99]), (P.str [99])]), (P.str [116, 117, 114, 110, 115])], (P.lst [(P.tup [(P.int 0), (P.int 1)]), (P.tup [(P.int 2), (P.int 3)]), (P.tup [(P.int 4), (P.int 5)])])), ([(P.tup [(P.str [98]), (P.str [98]), (P.str [97]), (P.str [99]), (P.str [97]), (P.str [99])]), (P.str [115, 104, 117, 116])], (P.lst [(P.tup [(P.int 0), (P.int 1)]), (P.tup [(P.int 2), (P.int 3)]), (P.tup [(P.int 4), (P.int 2)]), (P.tup [(P.int 5), (P.int 3)])])), ([(P.tup [(P.str [98]), (P.str [98]), (P.str [97]), (P.str [99]), (P.str [97]), (P.str [99])]), (P.str [111, 112, 101, 110])], (P.lst [(P.tup [(P.int 0), (P.int 1)]), (P.tup [(P.int 2), (P.int 3)]), (P.tup [(P.int 4), (P.int 2)]), (P.tup [(P.int 5), (P.int 3)])])), ([(P.tup [(P.str [98]), (P.str [98]), (P.str [97]), (P.str [99]), (P.str [97]), (P.str [99])]), (P.str [116, 117, 114, 110, 115])], (P.lst [(P.tup [(P.int 0), (P.int 1)]), (P.tup [(P.int 2), (P.int 3)]), (P.tup [(P.int 4), (P.int 2)]), (P.tup [(P.int 5), (P.int 3)])])), ([(P.tup [(P.str [98]), (P.str [98]), (P.str [97]), (P.str [99]), (P.str [99]), (P.str [97])]), (P.str [115, 104, 117, 116])], (P.lst [(P.tup [(P.int 0), (P.int 1)]), (P.tup [(P.int 2), (P.int 3)]), (P.tup [(P.int 4), (P.int 3)]), (P.tup [(P.int 5), (P.int 2)])])), ([(P.tup [(P.str [98]), (P.str [98]), (P.str [97]), (P.str [99]), (P.str [99]), (P.str [97])]), (P.str [111, 112, 101, 110])], (P.lst [(P.tup [(P.int 0), (P.int 1)]), (P.tup [(P.int 2), (P.int 3)]), (P.tup [(P.int 4), (P.int 3)]), (P.tup [(P.int 5), (P.int 2)])])), ([(P.tup [(P.str [98]), (P.str [98]), (P.str [97]), (P.str [99]), (P.str [99]), (P.str [97])]), (P.str [116, 117, 114, 110, 115])], (P.lst [(P.tup [(P.int 0), (P.int 1)]), (P.tup [(P.int 2), (P.int 3)]), (P.tup [(P.int 4), (P.int 3)]), (P.tup [(P.int 5), (P.int 2)])]))]
theorem to_played_by_12 : tabOk C_played_by t_played_by_12 = true := by decide +kernel
def t_played_by_13 : List (List P × P) := [([(P.tup [(P.str [98]), (P.str [98]), (P.str [99]), (P.str [97]), (P.str [97]), (P.str [99])]), (P.str [115, 104, 117, 116])], (P.lst [(P.tup [(P.int 0), (P.int 1)]), (P.tup [(P.int 2), (P.int 3)]), (P.tup [(P.int 4), (P.int 3)]), (P.tup [(P.int 5), (P.int 2)])])), ([(P.tup [(P.str [98]), (P.str [98]), (P.str [99]), (P.str [97]), (P.str [97]), (P.str [99])]), (P.str [111, 112, 101, 110])], (P.lst [(P.tup [(P.int 0), (P.int 1)]), (P.tup [(P.int 2), (P.int 3)]), (P.tup [(P.int 4), (P.int 3)]), (P.tup [(P.int 5), (P.int 2)])])), ([(P.tup [(P.str [98]), (P.str [98]), (P.str [99]), (P.str [97]), (P.str [97]), (P.str [99])]), (P.str [116, 117, 114, 110, 115])], (P.lst [(P.tup [(P.int 0), (P.int 1)]), (P.tup [(P.int 2), (P.int 3)]), (P.tup [(P.int 4), (P.int 3)]), (P.tup [(P.int 5), (P.int 2)])])), ([(P.tup [(P.str [98]), (P.str [98]), (P.str [99]), (P.str [97]), (P.str [99]), (P.str [97])]), (P.str [115, 104, 117, 116])], (P.lst [(P.tup [(P.int 0), (P.int 1)]), (P.tup [(P.int 2), (P.int 3)]), (P.tup [(P.int 4), (P.int 2)]), (P.tup [(P.int 5), (P.int 3)])])), ([(P.tup [(P.str [98]), (P.str [98]), (P.str [99]), (P.str [97]), (P.str [99]), (P.str [97])]), (P.str [111, 112, 101, 110])], (P.lst [(P.tup [(P.int 0), (P.int 1)]), (P.tup [(P.int 2), (P.int 3)]), (P.tup [(P.int 4), (P.int 2)]), (P.tup [(P.int 5), (P.int 3)])])), ([(P.tup [(P.str [98]), (P.str [98]), (P.str [99]), (P.str [97]), (P.str [99]), (P.str [97])]), (P.str [116, 117, 114, 110, 115])], (P.lst [(P.tup [(P.int 0), (P.int 1)]), (P.tup [(P.int 2), (P.int 3)]), (P.tup [(P.int 4), (P.int 2)]), (P.tup [(P.int 5), (P.int 3)])])), ([(P.tup [(P.str [98]), (P.str [98]), (P.str [99]), (P.str [99]), (P.str [97]), (P.str [97])]), (P.str [115, 104, 117, 116])], (P.lst [(P.tup [(P.int 0), (P.int 1)]), (P.tup [(P.int 2), (P.int 3)]), (P.tup [(P.int 4), (P.int 5)])])), ([(P.tup [(P.str [98]), (P.str [98]), (P.str [99]), (P.str [99]), (P.str [97]), (P.str [97])]), (P.str [111, 112, 101, 110])], (P.lst [(P.tup [(P.int 0), (P.int 1)]), (P.tup [(P.int 2), (P.int 3)]), (P.tup [(P.int 4), (P.int 5)])])), ([(P.tup [(P.str [98]), (P.str [98]), (P.str [99]), (P.str [99]), (P.str [97]), (P.str [97])]), (P.str [116, 117, 114, 110, 115])], (P.lst [(P.tup [(P.int 0), (P.int 1)]), (P.tup [(P.int 2), (P.int 3)]), (P.tup [(P.int 4), (P.int 5)])])), ([(P.tup [(P.str [98]), (P.str [99]), (P.str [97]), (P.str [97]), (P.str [98]), (P.str [99])]), (P.str [115, 104, 117, 116])], (P.lst [(P.tup [(P.int 0), (P.int 1)]), (P.tup [(P.int 2), (P.int 3)]), (P.tup [(P.int 4), (P.int 0)]), (P.tup [(P.int 5), (P.int 1)])])), ([(P.tup [(P.str [98]), (P.str [99]), (P.str [97]), (P.str [97]), (P.str [98]), (P.str [99])]), (P.str [111, 112, 101, 110])], (P.lst [(P.tup [(P.int 0), (P.int 1)]), (P.tup [(P.int 2), (P.int 0)]), (P.tup [(P.int 3), (P.int 2)]), (P.tup [(P.int 4), (P.int 0)]), (P.tup [(P.int 5), (P.int 1)])])), ([(P.tup [(P.str [98]), (P.str [99]), (P.str [97]), (P.str [97]), (P.str [98]), (P.str [99])]), (P.str [116, 117, 114, 110, 115])], (P.lst [(P.tup [(P.int 0), (P.int 1)]), (P.tup [(P.int 2), (P.int 0)]), (P.tup [(P.int 3), (P.int 2)]), (P.tup [(P.int 4), (P.int 0)]), (P.tup [(P.int 5), (P.int 1)])]))]
theorem to_played_by_13 : tabOk C_played_by t_played_by_13 = true := by decide +kernel
def t_played_by_14 : List (List P × P) := [([(P.tup [(P.str [98]), (P.str [99]), (P.str [97]), (P.str [97]), (P.str [99]), (P.str [98])]), (P.str [115, 104, 117, 116])], (P.lst [(P.tup [(P.int 0), (P.int 1)]), (P.tup [(P.int 2), (P.int 3)]), (P.tup [(P.int 4), (P.int 1)]), (P.tup [(P.int 5), (P.int 0)])])), ([(P.tup [(P.str [98]), (P.str [99]), (P.str [97]), (P.str [97]), (P.str [99]), (P.str [98])]), (P.str [111, 112, 101, 110])], (P.lst [(P.tup [(P.int 0), (P.int 1)]), (P.tup [(P.int 2), (P.int 0)]), (P.tup [(P.int 3), (P.int 2)]), (P.tup [(P.int 4), (P.int 1)]), (P.tup [(P.int 5), (P.int 0)])])), ([(P.tup [(P.str [98]), (P.str [99]), (P.str [97]), (P.str [97]), (P.str [99]), (P.str [98])]), (P.str [116, 117, 114, 110, 115])], (P.lst [(P.tup [(P.int 0), (P.int 1)]), (P.tup [(P.int 2), (P.int 0)]), (P.tup [(P.int 3), (P.int 2)]), (P.tup [(P.int 4), (P.int 1)]), (P.tup [(P.int 5), (P.int 0)])])), ([(P.tup [(P.str [98]), (P.str [99]), (P.str [97]), (P.str [98]), (P.str [97]), (P.str [99])]), (P.str [115, 104, 117, 116])], (P.lst [(P.tup [(P.int 0), (P.int 1)]), (P.tup [(P.int 2), (P.int 3)]), (P.tup [(P.int 0), (P.int 3)]), (P.tup [(P.int 4), (P.int 2)]), (P.tup [(P.int 5), (P.int 1)])])), ([(P.tup [(P.str [98]), (P.str [99]), (P.str [97]), (P.str [98]), (P.str [97]), (P.str [99])]), (P.str [111, 112, 101, 110])], (P.lst [(P.tup [(P.int 0), (P.int 1)]), (P.tup [(P.int 2), (P.int 0)]), (P.tup [(P.int 3), (P.int 0)]), (P.tup [(P.int 4), (P.int 2)]), (P.tup [(P.int 5), (P.int 1)])])), ([(P.tup [(P.str [98]), (P.str [99]), (P.str [97]), (P.str [98]), (P.str [97]), (P.str [99])]), (P.str [116, 117, 114, 110, 115])], (P.lst [(P.tup [(P.int 0), (P.int 1)]), (P.tup [(P.int 2), (P.int 0)]), (P.tup [(P.int 3), (P.int 0)]), (P.tup [(P.int 4), (P.int 2)]), (P.tup [(P.int 5), (P.int 1)])])), ([(P.tup [(P.str [98]), (P.str [99]), (P.str [97]), (P.str [98]), (P.str [99]), (P.str [97])]), (P.str [115, 104, 117, 116])], (P.lst [(P.tup [(P.int 0), (P.int 1)]), (P.tup [(P.int 2), (P.int 3)]), (P.tup [(P.int 0), (P.int 3)]), (P.tup [(P.int 4), (P.int 1)]), (P.tup [(P.int 5), (P.int 2)])])), ([(P.tup [(P.str [98]), (P.str [99]), (P.str [97]), (P.str [98]), (P.str [99]), (P.str [97])]), (P.str [111, 112, 101, 110])], (P.lst [(P.tup [(P.int 0), (P.int 1)]), (P.tup [(P.int 2), (P.int 0)]), (P.tup [(P.int 3), (P.int 0)]), (P.tup [(P.int 4), (P.int 1)]), (P.tup [(P.int 5), (P.int 2)])])), ([(P.tup [(P.str [98]), (P.str [99]), (P.str [97]), (P.str [98]), (P.str [99]), (P.str [97])]), (P.str [116, 117, 114, 110, 115])], (P.lst [(P.tup [(P.int 0), (P.int 1)]), (P.tup [(P.int 2), (P.int 0)]), (P.tup [(P.int 3), (P.int 0)]), (P.tup [(P.int 4), (P.int 1)]), (P.tup [(P.int 5), (P.int 2)])])), ([(P.tup [(P.str [98]), (P.str [99]), (P.str [97]), (P.str [99]), (P.str [97]), (P.str [98])]), (P.str [115, 104, 117, 116])], (P.lst [(P.tup [(P.int 0), (P.int 1)]), (P.tup [(P.int 2), (P.int 3)]), (P.tup [(P.int 1), (P.int 3)]), (P.tup [(P.int 4), (P.int 2)]), (P.tup [(P.int 5), (P.int 0)])])), ([(P.tup [(P.str [98]), (P.str [99]), (P.str [97]), (P.str [99]), (P.str [97]), (P.str [98])]), (P.str [111, 112, 101, 110])], (P.lst [(P.tup [(P.int 0), (P.int 1)]), (P.tup [(P.int 2), (P.int 0)]), (P.tup [(P.int 3), (P.int 1)]), (P.tup [(P.int 4), (P.int 2)]), (P.tup [(P.int 5), (P.int 0)])])), ([(P.tup [(P.str [98]), (P.str [99]), (P.str [97]), (P.str [99]), (P.str [97]), (P.str [98])]), (P.str [116, 117, 114, 110, 115])], (P.lst [(P.tup [(P.int 0), (P.int 1)]), (P.tup [(P.int 2), (P.int 0)]), (P.tup [(P.int 3), (P.int 1)]), (P.tup [(P.int 4), (P.int 2)]), (P.tup [(P.int 5), (P.int 0)])]))]
theorem to_played_by_14 : tabOk C_played_by t_played_by_14 = true := by decide +kernel
def t_played_by_15 : List (List P × P) := [([(P.tup [(P.str [98]), (P.str [99]), (P.str [97]), (P.str [99]), (P.str [98]), (P.str [97])]), (P.str [115, 104, 117, 116])], (P.lst [(P.tup [(P.int 0), (P.int 1)]), (P.tup [(P.int 2), (P.int 3)]), (P.tup [(P.int 1), (P.int 3)]), (P.tup [(P.int 4), (P.int 0)]), (P.tup [(P.int 5), (P.int 2)])])), ([(P.tup [(P.str [98]), (P.str [99]), (P.str [97]), (P.str [99]), (P.str [98]), (P.str [97])]), (P.str [111, 112, 101, 110])], (P.lst [(P.tup [(P.int 0), (P.int 1)]), (P.tup [(P.int 2), (P.int 0)]), (P.tup [(P.int 3), (P.int 1)]), (P.tup [(P.int 4), (P.int 0)]), (P.tup [(P.int 5), (P.int 2)])])), ([(P.tup [(P.str [98]), (P.str [99]), (P.str [97]), (P.str [99]), (P.str [98]), (P.str [97])]), (P.str [116, 117, 114, 110, 115])], (P.lst [(P.tup [(P.int 0), (P.int 1)]), (P.tup [(P.int 2), (P.int 0)]), (P.tup [(P.int 3), (P.int 1)]), (P.tup [(P.int 4), (P.int 0)]), (P.tup [(P.int 5), (P.int 2)])])), ([(P.tup [(P.str [98]), (P.str [99]), (P.str [98]), (P.str [97]), (P.str [97]), (P.str [99])]), (P.str [115, 104, 117, 116])], (P.lst [(P.tup [(P.int 0), (P.int 1)]), (P.tup [(P.int 2), (P.int 0)]), (P.tup [(P.int 3), (P.int 4)]), (P.tup [(P.int 5), (P.int 1)])])), ([(P.tup [(P.str [98]), (P.str [99]), (P.str [98]), (P.str [97]), (P.str [97]), (P.str [99])]), (P.str [111, 112, 101, 110])], (P.lst [(P.tup [(P.int 0), (P.int 1)]), (P.tup [(P.int 2), (P.int 0)]), (P.tup [(P.int 3), (P.int 1)]), (P.tup [(P.int 4), (P.int 3)]), (P.tup [(P.int 5), (P.int 1)])])), ([(P.tup [(P.str [98]), (P.str [99]), (P.str [98]), (P.str [97]), (P.str [97]), (P.str [99])]), (P.str [116, 117, 114, 110, 115])], (P.lst [(P.tup [(P.int 0), (P.int 1)]), (P.tup [(P.int 2), (P.int 0)]), (P.tup [(P.int 3), (P.int 4)]), (P.tup [(P.int 5), (P.int 1)])])), ([(P.tup [(P.str [98]), (P.str [99]), (P.str [98]), (P.str [97]), (P.str [99]), (P.str [97])]), (P.str [115, 104, 117, 116])], (P.lst [(P.tup [(P.int 0), (P.int 1)]), (P.tup [(P.int 2), (P.int 0)]), (P.tup [(P.int 3), (P.int 4)]), (P.tup [(P.int 1), (P.int 4)]), (P.tup [(P.int 5), (P.int 3)])])), ([(P.tup [(P.str [98]), (P.str [99]), (P.str [98]), (P.str [97]), (P.str [99]), (P.str [97])]), (P.str [111, 112, 101, 110])], (P.lst [(P.tup [(P.int 0), (P.int 1)]), (P.tup [(P.int 2), (P.int 0)]), (P.tup [(P.int 3), (P.int 1)]), (P.tup [(P.int 4), (P.int 1)]), (P.tup [(P.int 5), (P.int 3)])])), ([(P.tup [(P.str [98]), (P.str [99]), (P.str [98]), (P.str [97]), (P.str [99]), (P.str [97])]), (P.str [116, 117, 114, 110, 115])], (P.lst [(P.tup [(P.int 0), (P.int 1)]), (P.tup [(P.int 2), (P.int 0)]), (P.tup [(P.int 3), (P.int 4)]), (P.tup [(P.int 1), (P.int 4)]), (P.tup [(P.int 5), (P.int 3)])])), ([(P.tup [(P.str [98]), (P.str [99]), (P.str [98]), (P.str [99]), (P.str [97]), (P.str [97])]), (P.str [115, 104, 117, 116])], (P.lst [(P.tup [(P.int 0), (P.int 1)]), (P.tup [(P.int 2), (P.int 0)]), (P.tup [(P.int 3), (P.int 1)]), (P.tup [(P.int 4), (P.int 5)])])), ([(P.tup [(P.str [98]), (P.str [99]), (P.str [98]), (P.str [99]), (P.str [97]), (P.str [97])]), (P.str [111, 112, 101, 110])], (P.lst [(P.tup [(P.int 0), (P.int 1)]), (P.tup [(P.int 2), (P.int 0)]), (P.tup [(P.int 3), (P.int 1)]), (P.tup [(P.int 4), (P.int 5)])])), ([(P.tup [(P.str [98]), (P.str [99]), (P.str [98]), (P.str [99]), (P.str [97]), (P.str [97])]), (P.str [116, 117, 114, 110, 115])], (P.lst [(P.tup [(P.int 0), (P.int 1)]), (P.tup [(P.int 2), (P.int 0)]), (P.tup [(P.int 3), (P.int 1)]), (P.tup [(P.int 4), (P.int 5)])]))]
theorem to_played_by_15 : tabOk C_played_by t_played_by_15 = true := by decide +kernel
def t_played_by_16 : List (List P × P) := [([(P.tup [(P.str [98]), (P.str [99]), (P.str [99]), (P.str [97]), (P.str [97]), (P.str [98])]), (P.str [115, 104, 117, 116])], (P.lst [(P.tup [(P.int 0), (P.int 1)]), (P.tup [(P.int 2), (P.int 1)]), (P.tup [(P.int 3), (P.int 4)]), (P.tup [(P.int 5), (P.int 0)])])), ([(P.tup [(P.str [98]), (P.str [99]), (P.str [99]), (P.str [97]), (P.str [97]), (P.str [98])]), (P.str [111, 112, 101, 110])], (P.lst [(P.tup [(P.int 0), (P.int 1)]), (P.tup [(P.int 2), (P.int 1)]), (P.tup [(P.int 3), (P.int 0)]), (P.tup [(P.int 4), (P.int 3)]), (P.tup [(P.int 5), (P.int 0)])])), ([(P.tup [(P.str [98]), (P.str [99]), (P.str [99]), (P.str [97]), (P.str [97]), (P.str [98])]), (P.str [116, 117, 114, 110, 115])], (P.lst [(P.tup [(P.int 0), (P.int 1)]), (P.tup [(P.int 2), (P.int 1)]), (P.tup [(P.int 3), (P.int 4)]), (P.tup [(P.int 5), (P.int 0)])])), ([(P.tup [(P.str [98]), (P.str [99]), (P.str [99]), (P.str [97]), (P.str [98]), (P.str [97])]), (P.str [115, 104, 117, 116])], (P.lst [(P.tup [(P.int 0), (P.int 1)]), (P.tup [(P.int 2), (P.int 1)]), (P.tup [(P.int 3), (P.int 4)]), (P.tup [(P.int 0), (P.int 4)]), (P.tup [(P.int 5), (P.int 3)])])), ([(P.tup [(P.str [98]), (P.str [99]), (P.str [99]), (P.str [97]), (P.str [98]), (P.str [97])]), (P.str [111, 112, 101, 110])], (P.lst [(P.tup [(P.int 0), (P.int 1)]), (P.tup [(P.int 2), (P.int 1)]), (P.tup [(P.int 3), (P.int 0)]), (P.tup [(P.int 4), (P.int 0)]), (P.tup [(P.int 5), (P.int 3)])])), ([(P.tup [(P.str [98]), (P.str [99]), (P.str [99]), (P.str [97]), (P.str [98]), (P.str [97])]), (P.str [116, 117, 114, 110, 115])], (P.lst [(P.tup [(P.int 0), (P.int 1)]), (P.tup [(P.int 2), (P.int 1)]), (P.tup [(P.int 3), (P.int 4)]), (P.tup [(P.int 0), (P.int 4)]), (P.tup [(P.int 5), (P.int 3)])])), ([(P.tup [(P.str [98]), (P.str [99]), (P.str [99]), (P.str [98]), (P.str [97]), (P.str [97])]), (P.str [115, 104, 117, 116])], (P.lst [(P.tup [(P.int 0), (P.int 1)]), (P.tup [(P.int 2), (P.int 1)]), (P.tup [(P.int 3), (P.int 0)]), (P.tup [(P.int 4), (P.int 5)])])), ([(P.tup [(P.str [98]), (P.str [99]), (P.str [99]), (P.str [98]), (P.str [97]), (P.str [97])]), (P.str [111, 112, 101, 110])], (P.lst [(P.tup [(P.int 0), (P.int 1)]), (P.tup [(P.int 2), (P.int 1)]), (P.tup [(P.int 3), (P.int 0)]), (P.tup [(P.int 4), (P.int 5)])])), ([(P.tup [(P.str [98]), (P.str [99]), (P.str [99]), (P.str [98]), (P.str [97]), (P.str [97])]), (P.str [116, 117, 114, 110, 115])], (P.lst [(P.tup [(P.int 0), (P.int 1)]), (P.tup [(P.int 2), (P.int 1)]), (P.tup [(P.int 3), (P.int 0)]), (P.tup [(P.int 4), (P.int 5)])])), ([(P.tup [(P.str [99]), (P.str [97]), (P.str [97]), (P.str [98]), (P.str [98]), (P.str [99])]), (P.str [115, 104, 117, 116])], (P.lst [(P.tup [(P.int 0), (P.int 1)]), (P.tup [(P.int 2), (P.int 1)]), (P.tup [(P.int 3), (P.int 4)]), (P.tup [(P.int 5), (P.int 0)])])), ([(P.tup [(P.str [99]), (P.str [97]), (P.str [97]), (P.str [98]), (P.str [98]), (P.str [99])]), (P.str [111, 112, 101, 110])], (P.lst [(P.tup [(P.int 0), (P.int 1)]), (P.tup [(P.int 2), (P.int 1)]), (P.tup [(P.int 3), (P.int 0)]), (P.tup [(P.int 4), (P.int 3)]), (P.tup [(P.int 5), (P.int 0)])])), ([(P.tup [(P.str [99]), (P.str [97]), (P.str [97]), (P.str [98]), (P.str [98]), (P.str [99])]), (P.str [116, 117, 114, 110, 115])], (P.lst [(P.tup [(P.int 0), (P.int 1)]), (P.tup [(P.int 2), (P.int 1)]), (P.tup [(P.int 3), (P.int 4)]), (P.tup [(P.int 5), (P.int 0)])]))]
theorem to_played_by_16 : tabOk C_played_by t_played_by_16 = true := by decide +kernel
def t_played_by_17 : List (List P × P) := [([(P.tup [(P.str [99]), (P.str [97]), (P.str [97]), (P.str [98]), (P.str [99]), (P.str [98])]), (P.str [115, 104, 117, 116])], (P.lst [(P.tup [(P.int 0), (P.int 1)]), (P.tup [(P.int 2), (P.int 1)]), (P.tup [(P.int 3), (P.int 4)]), (P.tup [(P.int 0), (P.int 4)]), (P.tup [(P.int 5), (P.int 3)])])), ([(P.tup [(P.str [99]), (P.str [97]), (P.str [97]), (P.str [98]), (P.str [99]), (P.str [98])]), (P.str [111, 112, 101, 110])], (P.lst [(P.tup [(P.int 0), (P.int 1)]), (P.tup [(P.int 2), (P.int 1)]), (P.tup [(P.int 3), (P.int 0)]), (P.tup [(P.int 4), (P.int 0)]), (P.tup [(P.int 5), (P.int 3)])])), ([(P.tup [(P.str [99]), (P.str [97]), (P.str [97]), (P.str [98]), (P.str [99]), (P.str [98])]), (P.str [116, 117, 114, 110, 115])], (P.lst [(P.tup [(P.int 0), (P.int 1)]), (P.tup [(P.int 2), (P.int 1)]), (P.tup [(P.int 3), (P.int 4)]), (P.tup [(P.int 0), (P.int 4)]), (P.tup [(P.int 5), (P.int 3)])])), ([(P.tup [(P.str [99]), (P.str [97]), (P.str [97]), (P.str [99]), (P.str [98]), (P.str [98])]), (P.str [115, 104, 117, 116])], (P.lst [(P.tup [(P.int 0), (P.int 1)]), (P.tup [(P.int 2), (P.int 1)]), (P.tup [(P.int 3), (P.int 0)]), (P.tup [(P.int 4), (P.int 5)])])), ([(P.tup [(P.str [99]), (P.str [97]), (P.str [97]), (P.str [99]), (P.str [98]), (P.str [98])]), (P.str [111, 112, 101, 110])], (P.lst [(P.tup [(P.int 0), (P.int 1)]), (P.tup [(P.int 2), (P.int 1)]), (P.tup [(P.int 3), (P.int 0)]), (P.tup [(P.int 4), (P.int 5)])])), ([(P.tup [(P.str [99]), (P.str [97]), (P.str [97]), (P.str [99]), (P.str [98]), (P.str [98])]), (P.str [116, 117, 114, 110, 115])], (P.lst [(P.tup [(P.int 0), (P.int 1)]), (P.tup [(P.int 2), (P.int 1)]), (P.tup [(P.int 3), (P.int 0)]), (P.tup [(P.int 4), (P.int 5)])])), ([(P.tup [(P.str [99]), (P.str [97]), (P.str [98]), (P.str [97]), (P.str [98]), (P.str [99])]), (P.str [115, 104, 117, 116])], (P.lst [(P.tup [(P.int 0), (P.int 1)]), (P.tup [(P.int 2), (P.int 3)]), (P.tup [(P.int 1), (P.int 3)]), (P.tup [(P.int 4), (P.int 2)]), (P.tup [(P.int 5), (P.int 0)])])), ([(P.tup [(P.str [99]), (P.str [97]), (P.str [98]), (P.str [97]), (P.str [98]), (P.str [99])]), (P.str [111, 112, 101, 110])], (P.lst [(P.tup [(P.int 0), (P.int 1)]), (P.tup [(P.int 2), (P.int 0)]), (P.tup [(P.int 3), (P.int 1)]), (P.tup [(P.int 4), (P.int 2)]), (P.tup [(P.int 5), (P.int 0)])])), ([(P.tup [(P.str [99]), (P.str [97]), (P.str [98]), (P.str [97]), (P.str [98]), (P.str [99])]), (P.str [116, 117, 114, 110, 115])], (P.lst [(P.tup [(P.int 0), (P.int 1)]), (P.tup [(P.int 2), (P.int 0)]), (P.tup [(P.int 3), (P.int 1)]), (P.tup [(P.int 4), (P.int 2)]), (P.tup [(P.int 5), (P.int 0)])])), ([(P.tup [(P.str [99]), (P.str [97]), (P.str [98]), (P.str [97]), (P.str [99]), (P.str [98])]), (P.str [115, 104, 117, 116])], (P.lst [(P.tup [(P.int 0), (P.int 1)]), (P.tup [(P.int 2), (P.int 3)]), (P.tup [(P.int 1), (P.int 3)]), (P.tup [(P.int 4), (P.int 0)]), (P.tup [(P.int 5), (P.int 2)])])), ([(P.tup [(P.str [99]), (P.str [97]), (P.str [98]), (P.str [97]), (P.str [99]), (P.str [98])]), (P.str [111, 112, 101, 110])], (P.lst [(P.tup [(P.int 0), (P.int 1)]), (P.tup [(P.int 2), (P.int 0)]), (P.tup [(P.int 3), (P.int 1)]), (P.tup [(P.int 4), (P.int 0)]), (P.tup [(P.int 5), (P.int 2)])])), ([(P.tup [(P.str [99]), (P.str [97]), (P.str [98]), (P.str [97]), (P.str [99]), (P.str [98])]), (P.str [116, 117, 114, 110, 115])], (P.lst [(P.tup [(P.int 0), (P.int 1)]), (P.tup [(P.int 2), (P.int 0)]), (P.tup [(P.int 3), (P.int 1)]), (P.tup [(P.int 4), (P.int 0)]), (P.tup [(P.int 5), (P.int 2)])]))]
theorem to_played_by_17 : tabOk C_played_by t_played_by_17 = true := by decide +kernel
def t_played_by_18 : List (List P × P) := [([(P.tup [(P.str [99]), (P.str [97]), (P.str [98]), (P.str [98]), (P.str [97]), (P.str [99])]), (P.str [115, 104, 117, 116])], (P.lst [(P.tup [(P.int 0), (P.int 1)]), (P.tup [(P.int 2), (P.int 3)]), (P.tup [(P.int 4), (P.int 1)]), (P.tup [(P.int 5), (P.int 0)])])), ([(P.tup [(P.str [99]), (P.str [97]), (P.str [98]), (P.str [98]), (P.str [97]), (P.str [99])]), (P.str [111, 112, 101, 110])], (P.lst [(P.tup [(P.int 0), (P.int 1)]), (P.tup [(P.int 2), (P.int 0)]), (P.tup [(P.int 3), (P.int 2)]), (P.tup [(P.int 4), (P.int 1)]), (P.tup [(P.int 5), (P.int 0)])])), ([(P.tup [(P.str [99]), (P.str [97]), (P.str [98]), (P.str [98]), (P.str [97]), (P.str [99])]), (P.str [116, 117, 114, 110, 115])], (P.lst [(P.tup [(P.int 0), (P.int 1)]), (P.tup [(P.int 2), (P.int 0)]), (P.tup [(P.int 3), (P.int 2)]), (P.tup [(P.int 4), (P.int 1)]), (P.tup [(P.int 5), (P.int 0)])])), ([(P.tup [(P.str [99]), (P.str [97]), (P.str [98]), (P.str [98]), (P.str [99]), (P.str [97])]), (P.str [115, 104, 117, 116])], (P.lst [(P.tup [(P.int 0), (P.int 1)]), (P.tup [(P.int 2), (P.int 3)]), (P.tup [(P.int 4), (P.int 0)]), (P.tup [(P.int 5), (P.int 1)])])), ([(P.tup [(P.str [99]), (P.str [97]), (P.str [98]), (P.str [98]), (P.str [99]), (P.str [97])]), (P.str [111, 112, 101, 110])], (P.lst [(P.tup [(P.int 0), (P.int 1)]), (P.tup [(P.int 2), (P.int 0)]), (P.tup [(P.int 3), (P.int 2)]), (P.tup [(P.int 4), (P.int 0)]), (P.tup [(P.int 5), (P.int 1)])])), ([(P.tup [(P.str [99]), (P.str [97]), (P.str [98]), (P.str [98]), (P.str [99]), (P.str [97])]), (P.str [116, 117, 114, 110, 115])], (P.lst [(P.tup [(P.int 0), (P.int 1)]), (P.tup [(P.int 2), (P.int 0)]), (P.tup [(P.int 3), (P.int 2)]), (P.tup [(P.int 4), (P.int 0)]), (P.tup [(P.int 5), (P.int 1)])])), ([(P.tup [(P.str [99]), (P.str [97]), (P.str [98]), (P.str [99]), (P.str [97]), (P.str [98])]), (P.str [115, 104, 117, 116])], (P.lst [(P.tup [(P.int 0), (P.int 1)]), (P.tup [(P.int 2), (P.int 3)]), (P.tup [(P.int 0), (P.int 3)]), (P.tup [(P.int 4), (P.int 1)]), (P.tup [(P.int 5), (P.int 2)])])), ([(P.tup [(P.str [99]), (P.str [97]), (P.str [98]), (P.str [99]), (P.str [97]), (P.str [98])]), (P.str [111, 112, 101, 110])], (P.lst [(P.tup [(P.int 0), (P.int 1)]), (P.tup [(P.int 2), (P.int 0)]), (P.tup [(P.int 3), (P.int 0)]), (P.tup [(P.int 4), (P.int 1)]), (P.tup [(P.int 5), (P.int 2)])])), ([(P.tup [(P.str [99]), (P.str [97]), (P.str [98]), (P.str [99]), (P.str [97]), (P.str [98])]), (P.str [116, 117, 114, 110, 115])], (P.lst [(P.tup [(P.int 0), (P.int 1)]), (P.tup [(P.int 2), (P.int 0)]), (P.tup [(P.int 3), (P.int 0)]), (P.tup [(P.int 4), (P.int 1)]), (P.tup [(P.int 5), (P.int 2)])])), ([(P.tup [(P.str [99]), (P.str [97]), (P.str [98]), (P.str [99]), (P.str [98]), (P.str [97])]), (P.str [115, 104, 117, 116])], (P.lst [(P.tup [(P.int 0), (P.int 1)]), (P.tup [(P.int 2), (P.int 3)]), (P.tup [(P.int 0), (P.int 3)]), (P.tup [(P.int 4), (P.int 2)]), (P.tup [(P.int 5), (P.int 1)])])), ([(P.tup [(P.str [99]), (P.str [97]), (P.str [98]), (P.str [99]), (P.str [98]), (P.str [97])]), (P.str [111, 112, 101, 110])], (P.lst [(P.tup [(P.int 0), (P.int 1)]), (P.tup [(P.int 2), (P.int 0)]), (P.tup [(P.int 3), (P.int 0)]), (P.tup [(P.int 4), (P.int 2)]), (P.tup [(P.int 5), (P.int 1)])])), ([(P.tup [(P.str [99]), (P.str [97]), (P.str [98]), (P.str [99]), (P.str [98]), (P.str [97])]), (P.str [116, 117, 114, 110, 115])], (P.lst [(P.tup [(P.int 0), (P.int 1)]), (P.tup [(P.int 2), (P.int 0)]), (P.tup [(P.int 3), (P.int 0)]), (P.tup [(P.int 4), (P.int 2)]), (P.tup [(P.int 5), (P.int 1)])]))]
theorem to_played_by_18 : tabOk C_played_by t_played_by_18 = true := by decide +kernel
def t_played_by_19 : List (List P × P) := [([(P.tup [(P.str [99]), (P.str [97]), (P.str [99]), (P.str [97]), (P.str [98]), (P.str [98])]), (P.str [115, 104, 117, 116])], (P.lst [(P.tup [(P.int 0), (P.int 1)]), (P.tup [(P.int 2), (P.int 0)]), (P.tup [(P.int 3), (P.int 1)]), (P.tup [(P.int 4), (P.int 5)])])), ([(P.tup [(P.str [99]), (P.str [97]), (P.str [99]), (P.str [97]), (P.str [98]), (P.str [98])]), (P.str [111, 112, 101, 110])], (P.lst [(P.tup [(P.int 0), (P.int 1)]), (P.tup [(P.int 2), (P.int 0)]), (P.tup [(P.int 3), (P.int 1)]), (P.tup [(P.int 4), (P.int 5)])])), ([(P.tup [(P.str [99]), (P.str [97]), (P.str [99]), (P.str [97]), (P.str [98]), (P.str [98])]), (P.str [116, 117, 114, 110, 115])], (P.lst [(P.tup [(P.int 0), (P.int 1)]), (P.tup [(P.int 2), (P.int 0)]), (P.tup [(P.int 3), (P.int 1)]), (P.tup [(P.int 4), (P.int 5)])])), ([(P.tup [(P.str [99]), (P.str [97]), (P.str [99]), (P.str [98]), (P.str [97]), (P.str [98])]), (P.str [115, 104, 117, 116])], (P.lst [(P.tup [(P.int 0), (P.int 1)]), (P.tup [(P.int 2), (P.int 0)]), (P.tup [(P.int 3), (P.int 4)]), (P.tup [(P.int 1), (P.int 4)]), (P.tup [(P.int 5), (P.int 3)])])), ([(P.tup [(P.str [99]), (P.str [97]), (P.str [99]), (P.str [98]), (P.str [97]), (P.str [98])]), (P.str [111, 112, 101, 110])], (P.lst [(P.tup [(P.int 0), (P.int 1)]), (P.tup [(P.int 2), (P.int 0)]), (P.tup [(P.int 3), (P.int 1)]), (P.tup [(P.int 4), (P.int 1)]), (P.tup [(P.int 5), (P.int 3)])])), ([(P.tup [(P.str [99]), (P.str [97]), (P.str [99]), (P.str [98]), (P.str [97]), (P.str [98])]), (P.str [116, 117, 114, 110, 115])], (P.lst [(P.tup [(P.int 0), (P.int 1)]), (P.tup [(P.int 2), (P.int 0)]), (P.tup [(P.int 3), (P.int 4)]), (P.tup [(P.int 1), (P.int 4)]), (P.tup [(P.int 5), (P.int 3)])])), ([(P.tup [(P.str [99]), (P.str [97]), (P.str [99]), (P.str [98]), (P.str [98]), (P.str [97])]), (P.str [115, 104, 117, 116])], (P.lst [(P.tup [(P.int 0), (P.int 1)]), (P.tup [(P.int 2), (P.int 0)]), (P.tup [(P.int 3), (P.int 4)]), (P.tup [(P.int 5), (P.int 1)])])), ([(P.tup [(P.str [99]), (P.str [97]), (P.str [99]), (P.str [98]), (P.str [98]), (P.str [97])]), (P.str [111, 112, 101, 110])], (P.lst [(P.tup [(P.int 0), (P.int 1)]), (P.tup [(P.int 2), (P.int 0)]), (P.tup [(P.int 3), (P.int 1)]), (P.tup [(P.int 4), (P.int 3)]), (P.tup [(P.int 5), (P.int 1)])])), ([(P.tup [(P.str [99]), (P.str [97]), (P.str [99]), (P.str [98]), (P.str [98]), (P.str [97])]), (P.str [116, 117, 114, 110, 115])], (P.lst [(P.tup [(P.int 0), (P.int 1)]), (P.tup [(P.int 2), (P.int 0)]), (P.tup [(P.int 3), (P.int 4)]), (P.tup [(P.int 5), (P.int 1)])])), ([(P.tup [(P.str [99]), (P.str [98]), (P.str [97]), (P.str [97]), (P.str [98]), (P.str [99])]), (P.str [115, 104, 117, 116])], (P.lst [(P.tup [(P.int 0), (P.int 1)]), (P.tup [(P.int 2), (P.int 3)]), (P.tup [(P.int 4), (P.int 1)]), (P.tup [(P.int 5), (P.int 0)])])), ([(P.tup [(P.str [99]), (P.str [98]), (P.str [97]), (P.str [97]), (P.str [98]), (P.str [99])]), (P.str [111, 112, 101, 110])], (P.lst [(P.tup [(P.int 0), (P.int 1)]), (P.tup [(P.int 2), (P.int 0)]), (P.tup [(P.int 3), (P.int 2)]), (P.tup [(P.int 4), (P.int 1)]), (P.tup [(P.int 5), (P.int 0)])])), ([(P.tup [(P.str [99]), (P.str [98]), (P.str [97]), (P.str [97]), (P.str [98]), (P.str [99])]), (P.str [116, 117, 114, 110, 115])], (P.lst [(P.tup [(P.int 0), (P.int 1)]), (P.tup [(P.int 2), (P.int 0)]), (P.tup [(P.int 3), (P.int 2)]), (P.tup [(P.int 4), (P.int 1)]), (P.tup [(P.int 5), (P.int 0)])]))]
theorem to_played_by_19 : tabOk C_played_by t_played_by_19 = true := by decide +kernel
def t_played_by_20 : List (List P × P) := [([(P.tup [(P.str [99]), (P.str [98]), (P.str [97]), (P.str [97]), (P.str [99]), (P.str [98])]), (P.str [115, 104, 117, 116])], (P.lst [(P.tup [(P.int 0), (P.int 1)]), (P.tup [(P.int 2), (P.int 3)]), (P.tup [(P.int 4), (P.int 0)]), (P.tup [(P.int 5), (P.int 1)])])), ([(P.tup [(P.str [99]), (P.str [98]), (P.str [97]), (P.str [97]), (P.str [99]), (P.str [98])]), (P.str [111, 112, 101, 110])], (P.lst [(P.tup [(P.int 0), (P.int 1)]), (P.tup [(P.int 2), (P.int 0)]), (P.tup [(P.int 3), (P.int 2)]), (P.tup [(P.int 4), (P.int 0)]), (P.tup [(P.int 5), (P.int 1)])])), ([(P.tup [(P.str [99]), (P.str [98]), (P.str [97]), (P.str [97]), (P.str [99]), (P.str [98])]), (P.str [116, 117, 114, 110, 115])], (P.lst [(P.tup [(P.int 0), (P.int 1)]), (P.tup [(P.int 2), (P.int 0)]), (P.tup [(P.int 3), (P.int 2)]), (P.tup [(P.int 4), (P.int 0)]), (P.tup [(P.int 5), (P.int 1)])])), ([(P.tup [(P.str [99]), (P.str [98]), (P.str [97]), (P.str [98]), (P.str [97]), (P.str [99])]), (P.str [115, 104, 117, 116])], (P.lst [(P.tup [(P.int 0), (P.int 1)]), (P.tup [(P.int 2), (P.int 3)]), (P.tup [(P.int 1), (P.int 3)]), (P.tup [(P.int 4), (P.int 2)]), (P.tup [(P.int 5), (P.int 0)])])), ([(P.tup [(P.str [99]), (P.str [98]), (P.str [97]), (P.str [98]), (P.str [97]), (P.str [99])]), (P.str [111, 112, 101, 110])], (P.lst [(P.tup [(P.int 0), (P.int 1)]), (P.tup [(P.int 2), (P.int 0)]), (P.tup [(P.int 3), (P.int 1)]), (P.tup [(P.int 4), (P.int 2)]), (P.tup [(P.int 5), (P.int 0)])])), ([(P.tup [(P.str [99]), (P.str [98]), (P.str [97]), (P.str [98]), (P.str [97]), (P.str [99])]), (P.str [116, 117, 114, 110, 115])], (P.lst [(P.tup [(P.int 0), (P.int 1)]), (P.tup [(P.int 2), (P.int 0)]), (P.tup [(P.int 3), (P.int 1)]), (P.tup [(P.int 4), (P.int 2)]), (P.tup [(P.int 5), (P.int 0)])])), ([(P.tup [(P.str [99]), (P.str [98]), (P.str [97]), (P.str [98]), (P.str [99]), (P.str [97])]), (P.str [115, 104, 117, 116])], (P.lst [(P.tup [(P.int 0), (P.int 1)]), (P.tup [(P.int 2), (P.int 3)]), (P.tup [(P.int 1), (P.int 3)]), (P.tup [(P.int 4), (P.int 0)]), (P.tup [(P.int 5), (P.int 2)])])), ([(P.tup [(P.str [99]), (P.str [98]), (P.str [97]), (P.str [98]), (P.str [99]), (P.str [97])]), (P.str [111, 112, 101, 110])], (P.lst [(P.tup [(P.int 0), (P.int 1)]), (P.tup [(P.int 2), (P.int 0)]), (P.tup [(P.int 3), (P.int 1)]), (P.tup [(P.int 4), (P.int 0)]), (P.tup [(P.int 5), (P.int 2)])])), ([(P.tup [(P.str [99]), (P.str [98]), (P.str [97]), (P.str [98]), (P.str [99]), (P.str [97])]), (P.str [116, 117, 114, 110, 115])], (P.lst [(P.tup [(P.int 0), (P.int 1)]), (P.tup [(P.int 2), (P.int 0)]), (P.tup [(P.int 3), (P.int 1)]), (P.tup [(P.int 4), (P.int 0)]), (P.tup [(P.int 5), (P.int 2)])])), ([(P.tup [(P.str [99]), (P.str [98]), (P.str [97]), (P.str [99]), (P.str [97]), (P.str [98])]), (P.str [115, 104, 117, 116])], (P.lst [(P.tup [(P.int 0), (P.int 1)]), (P.tup [(P.int 2), (P.int 3)]), (P.tup [(P.int 0), (P.int 3)]), (P.tup [(P.int 4), (P.int 2)]), (P.tup [(P.int 5), (P.int 1)])])), ([(P.tup [(P.str [99]), (P.str [98]), (P.str [97]), (P.str [99]), (P.str [97]), (P.str [98])]), (P.str [111, 112, 101, 110])], (P.lst [(P.tup [(P.int 0), (P.int 1)]), (P.tup [(P.int 2), (P.int 0)]), (P.tup [(P.int 3), (P.int 0)]), (P.tup [(P.int 4), (P.int 2)]), (P.tup [(P.int 5), (P.int 1)])])), ([(P.tup [(P.str [99]), (P.str [98]), (P.str [97]), (P.str [99]), (P.str [97]), (P.str [98])]), (P.str [116, 117, 114, 110, 115])], (P.lst [(P.tup [(P.int 0), (P.int 1)]), (P.tup [(P.int 2), (P.int 0)]), (P.tup [(P.int 3), (P.int 0)]), (P.tup [(P.int 4), (P.int 2)]), (P.tup [(P.int 5), (P.int 1)])]))]
theorem to_played_by_20 : tabOk C_played_by t_played_by_20 = true := by decide +kernel
def t_played_by_21 : List (List P × P) := [([(P.tup [(P.str [99]), (P.str [98]), (P.str [97]), (P.str [99]), (P.str [98]), (P.str [97])]), (P.str [115, 104, 117, 116])], (P.lst [(P.tup [(P.int 0), (P.int 1)]), (P.tup [(P.int 2), (P.int 3)]), (P.tup [(P.int 0), (P.int 3)]), (P.tup [(P.int 4), (P.int 1)]), (P.tup [(P.int 5), (P.int 2)])])), ([(P.tup [(P.str [99]), (P.str [98]), (P.str [97]), (P.str [99]), (P.str [98]), (P.str [97])]), (P.str [111, 112, 101, 110])], (P.lst [(P.tup [(P.int 0), (P.int 1)]), (P.tup [(P.int 2), (P.int 0)]), (P.tup [(P.int 3), (P.int 0)]), (P.tup [(P.int 4), (P.int 1)]), (P.tup [(P.int 5), (P.int 2)])])), ([(P.tup [(P.str [99]), (P.str [98]), (P.str [97]), (P.str [99]), (P.str [98]), (P.str [97])]), (P.str [116, 117, 114, 110, 115])], (P.lst [(P.tup [(P.int 0), (P.int 1)]), (P.tup [(P.int 2), (P.int 0)]), (P.tup [(P.int 3), (P.int 0)]), (P.tup [(P.int 4), (P.int 1)]), (P.tup [(P.int 5), (P.int 2)])])), ([(P.tup [(P.str [99]), (P.str [98]), (P.str [98]), (P.str [97]), (P.str [97]), (P.str [99])]), (P.str [115, 104, 117, 116])], (P.lst [(P.tup [(P.int 0), (P.int 1)]), (P.tup [(P.int 2), (P.int 1)]), (P.tup [(P.int 3), (P.int 4)]), (P.tup [(P.int 5), (P.int 0)])])), ([(P.tup [(P.str [99]), (P.str [98]), (P.str [98]), (P.str [97]), (P.str [97]), (P.str [99])]), (P.str [111, 112, 101, 110])], (P.lst [(P.tup [(P.int 0), (P.int 1)]), (P.tup [(P.int 2), (P.int 1)]), (P.tup [(P.int 3), (P.int 0)]), (P.tup [(P.int 4), (P.int 3)]), (P.tup [(P.int 5), (P.int 0)])])), ([(P.tup [(P.str [99]), (P.str [98]), (P.str [98]), (P.str [97]), (P.str [97]), (P.str [99])]), (P.str [116, 117, 114, 110, 115])], (P.lst [(P.tup [(P.int 0), (P.int 1)]), (P.tup [(P.int 2), (P.int 1)]), (P.tup [(P.int 3), (P.int 4)]), (P.tup [(P.int 5), (P.int 0)])])), ([(P.tup [(P.str [99]), (P.str [98]), (P.str [98]), (P.str [97]), (P.str [99]), (P.str [97])]), (P.str [115, 104, 117, 116])], (P.lst [(P.tup [(P.int 0), (P.int 1)]), (P.tup [(P.int 2), (P.int 1)]), (P.tup [(P.int 3), (P.int 4)]), (P.tup [(P.int 0), (P.int 4)]), (P.tup [(P.int 5), (P.int 3)])])), ([(P.tup [(P.str [99]), (P.str [98]), (P.str [98]), (P.str [97]), (P.str [99]), (P.str [97])]), (P.str [111, 112, 101, 110])], (P.lst [(P.tup [(P.int 0), (P.int 1)]), (P.tup [(P.int 2), (P.int 1)]), (P.tup [(P.int 3), (P.int 0)]), (P.tup [(P.int 4), (P.int 0)]), (P.tup [(P.int 5), (P.int 3)])])), ([(P.tup [(P.str [99]), (P.str [98]), (P.str [98]), (P.str [97]), (P.str [99]), (P.str [97])]), (P.str [116, 117, 114, 110, 115])], (P.lst [(P.tup [(P.int 0), (P.int 1)]), (P.tup [(P.int 2), (P.int 1)]), (P.tup [(P.int 3), (P.int 4)]), (P.tup [(P.int 0), (P.int 4)]), (P.tup [(P.int 5), (P.int 3)])])), ([(P.tup [(P.str [99]), (P.str [98]), (P.str [98]), (P.str [99]), (P.str [97]), (P.str [97])]), (P.str [115, 104, 117, 116])], (P.lst [(P.tup [(P.int 0), (P.int 1)]), (P.tup [(P.int 2), (P.int 1)]), (P.tup [(P.int 3), (P.int 0)]), (P.tup [(P.int 4), (P.int 5)])])), ([(P.tup [(P.str [99]), (P.str [98]), (P.str [98]), (P.str [99]), (P.str [97]), (P.str [97])]), (P.str [111, 112, 101, 110])], (P.lst [(P.tup [(P.int 0), (P.int 1)]), (P.tup [(P.int 2), (P.int 1)]), (P.tup [(P.int 3), (P.int 0)]), (P.tup [(P.int 4), (P.int 5)])])), ([(P.tup [(P.str [99]), (P.str [98]), (P.str [98]), (P.str [99]), (P.str [97]), (P.str [97])]), (P.str [116, 117, 114, 110, 115])], (P.lst [(P.tup [(P.int 0), (P.int 1)]), (P.tup [(P.int 2), (P.int 1)]), (P.tup [(P.int 3), (P.int 0)]), (P.tup [(P.int 4), (P.int 5)])]))]
theorem to_played_by_21 : tabOk C_played_by t_played_by_21 = true := by decide +kernel
def t_played_by_22 : List (List P × P) := [([(P.tup [(P.str [99]), (P.str [98]), (P.str [99]), (P.str [97]), (P.str [97]), (P.str [98])]), (P.str [115, 104, 117, 116])], (P.lst [(P.tup [(P.int 0), (P.int 1)]), (P.tup [(P.int 2), (P.int 0)]), (P.tup [(P.int 3), (P.int 4)]), (P.tup [(P.int 5), (P.int 1)])])), ([(P.tup [(P.str [99]), (P.str [98]), (P.str [99]), (P.str [97]), (P.str [97]), (P.str [98])]), (P.str [111, 112, 101, 110])], (P.lst [(P.tup [(P.int 0), (P.int 1)]), (P.tup [(P.int 2), (P.int 0)]), (P.tup [(P.int 3), (P.int 1)]), (P.tup [(P.int 4), (P.int 3)]), (P.tup [(P.int 5), (P.int 1)])])), ([(P.tup [(P.str [99]), (P.str [98]), (P.str [99]), (P.str [97]), (P.str [97]), (P.str [98])]), (P.str [116, 117, 114, 110, 115])], (P.lst [(P.tup [(P.int 0), (P.int 1)]), (P.tup [(P.int 2), (P.int 0)]), (P.tup [(P.int 3), (P.int 4)]), (P.tup [(P.int 5), (P.int 1)])])), ([(P.tup [(P.str [99]), (P.str [98]), (P.str [99]), (P.str [97]), (P.str [98]), (P.str [97])]), (P.str [115, 104, 117, 116])], (P.lst [(P.tup [(P.int 0), (P.int 1)]), (P.tup [(P.int 2), (P.int 0)]), (P.tup [(P.int 3), (P.int 4)]), (P.tup [(P.int 1), (P.int 4)]), (P.tup [(P.int 5), (P.int 3)])])), ([(P.tup [(P.str [99]), (P.str [98]), (P.str [99]), (P.str [97]), (P.str [98]), (P.str [97])]), (P.str [111, 112, 101, 110])], (P.lst [(P.tup [(P.int 0), (P.int 1)]), (P.tup [(P.int 2), (P.int 0)]), (P.tup [(P.int 3), (P.int 1)]), (P.tup [(P.int 4), (P.int 1)]), (P.tup [(P.int 5), (P.int 3)])])), ([(P.tup [(P.str [99]), (P.str [98]), (P.str [99]), (P.str [97]), (P.str [98]), (P.str [97])]), (P.str [116, 117, 114, 110, 115])], (P.lst [(P.tup [(P.int 0), (P.int 1)]), (P.tup [(P.int 2), (P.int 0)]), (P.tup [(P.int 3), (P.int 4)]), (P.tup [(P.int 1), (P.int 4)]), (P.tup [(P.int 5), (P.int 3)])])), ([(P.tup [(P.str [99]), (P.str [98]), (P.str [99]), (P.str [98]), (P.str [97]), (P.str [97])]), (P.str [115, 104, 117, 116])], (P.lst [(P.tup [(P.int 0), (P.int 1)]), (P.tup [(P.int 2), (P.int 0)]), (P.tup [(P.int 3), (P.int 1)]), (P.tup [(P.int 4), (P.int 5)])])), ([(P.tup [(P.str [99]), (P.str [98]), (P.str [99]), (P.str [98]), (P.str [97]), (P.str [97])]), (P.str [111, 112, 101, 110])], (P.lst [(P.tup [(P.int 0), (P.int 1)]), (P.tup [(P.int 2), (P.int 0)]), (P.tup [(P.int 3), (P.int 1)]), (P.tup [(P.int 4), (P.int 5)])])), ([(P.tup [(P.str [99]), (P.str [98]), (P.str [99]), (P.str [98]), (P.str [97]), (P.str [97])]), (P.str [116, 117, 114, 110, 115])], (P.lst [(P.tup [(P.int 0), (P.int 1)]), (P.tup [(P.int 2), (P.int 0)]), (P.tup [(P.int 3), (P.int 1)]), (P.tup [(P.int 4), (P.int 5)])])), ([(P.tup [(P.str [99]), (P.str [99]), (P.str [97]), (P.str [97]), (P.str [98]), (P.str [98])]), (P.str [115, 104, 117, 116])], (P.lst [(P.tup [(P.int 0), (P.int 1)]), (P.tup [(P.int 2), (P.int 3)]), (P.tup [(P.int 4), (P.int 5)])])), ([(P.tup [(P.str [99]), (P.str [99]), (P.str [97]), (P.str [97]), (P.str [98]), (P.str [98])]), (P.str [111, 112, 101, 110])], (P.lst [(P.tup [(P.int 0), (P.int 1)]), (P.tup [(P.int 2), (P.int 3)]), (P.tup [(P.int 4), (P.int 5)])])), ([(P.tup [(P.str [99]), (P.str [99]), (P.str [97]), (P.str [97]), (P.str [98]), (P.str [98])]), (P.str [116, 117, 114, 110, 115])], (P.lst [(P.tup [(P.int 0), (P.int 1)]), (P.tup [(P.int 2), (P.int 3)]), (P.tup [(P.int 4), (P.int 5)])]))]
theorem to_played_by_22 : tabOk C_played_by t_played_by_22 = true := by decide +kernel
def t_played_by_23 : List (List P × P) := [([(P.tup [(P.str [99]), (P.str [99]), (P.str [97]), (P.str [98]), (P.str [97]), (P.str [98])]), (P.str [115, 104, 117, 116])], (P.lst [(P.tup [(P.int 0), (P.int 1)]), (P.tup [(P.int 2), (P.int 3)]), (P.tup [(P.int 4), (P.int 2)]), (P.tup [(P.int 5), (P.int 3)])])), ([(P.tup [(P.str [99]), (P.str [99]), (P.str [97]), (P.str [98]), (P.str [97]), (P.str [98])]), (P.str [111, 112, 101, 110])], (P.lst [(P.tup [(P.int 0), (P.int 1)]), (P.tup [(P.int 2), (P.int 3)]), (P.tup [(P.int 4), (P.int 2)]), (P.tup [(P.int 5), (P.int 3)])])), ([(P.tup [(P.str [99]), (P.str [99]), (P.str [97]), (P.str [98]), (P.str [97]), (P.str [98])]), (P.str [116, 117, 114, 110, 115])], (P.lst [(P.tup [(P.int 0), (P.int 1)]), (P.tup [(P.int 2), (P.int 3)]), (P.tup [(P.int 4), (P.int 2)]), (P.tup [(P.int 5), (P.int 3)])])), ([(P.tup [(P.str [99]), (P.str [99]), (P.str [97]), (P.str [98]), (P.str [98]), (P.str [97])]), (P.str [115, 104, 117, 116])], (P.lst [(P.tup [(P.int 0), (P.int 1)]), (P.tup [(P.int 2), (P.int 3)]), (P.tup [(P.int 4), (P.int 3)]), (P.tup [(P.int 5), (P.int 2)])])), ([(P.tup [(P.str [99]), (P.str [99]), (P.str [97]), (P.str [98]), (P.str [98]), (P.str [97])]), (P.str [111, 112, 101, 110])], (P.lst [(P.tup [(P.int 0), (P.int 1)]), (P.tup [(P.int 2), (P.int 3)]), (P.tup [(P.int 4), (P.int 3)]), (P.tup [(P.int 5), (P.int 2)])])), ([(P.tup [(P.str [99]), (P.str [99]), (P.str [97]), (P.str [98]), (P.str [98]), (P.str [97])]), (P.str [116, 117, 114, 110, 115])], (P.lst [(P.tup [(P.int 0), (P.int 1)]), (P.tup [(P.int 2), (P.int 3)]), (P.tup [(P.int 4), (P.int 3)]), (P.tup [(P.int 5), (P.int 2)])])), ([(P.tup [(P.str [99]), (P.str [99]), (P.str [98]), (P.str [97]), (P.str [97]), (P.str [98])]), (P.str [115, 104, 117, 116])], (P.lst [(P.tup [(P.int 0), (P.int 1)]), (P.tup [(P.int 2), (P.int 3)]), (P.tup [(P.int 4), (P.int 3)]), (P.tup [(P.int 5), (P.int 2)])])), ([(P.tup [(P.str [99]), (P.str [99]), (P.str [98]), (P.str [97]), (P.str [97]), (P.str [98])]), (P.str [111, 112, 101, 110])], (P.lst [(P.tup [(P.int 0), (P.int 1)]), (P.tup [(P.int 2), (P.int 3)]), (P.tup [(P.int 4), (P.int 3)]), (P.tup [(P.int 5), (P.int 2)])])), ([(P.tup [(P.str [99]), (P.str [99]), (P.str [98]), (P.str [97]), (P.str [97]), (P.str [98])]), (P.str [116, 117, 114, 110, 115])], (P.lst [(P.tup [(P.int 0), (P.int 1)]), (P.tup [(P.int 2), (P.int 3)]), (P.tup [(P.int 4), (P.int 3)]), (P.tup [(P.int 5), (P.int 2)])])), ([(P.tup [(P.str [99]), (P.str [99]), (P.str [98]), (P.str [97]), (P.str [98]), (P.str [97])]), (P.str [115, 104, 117, 116])], (P.lst [(P.tup [(P.int 0), (P.int 1)]), (P.tup [(P.int 2), (P.int 3)]), (P.tup [(P.int 4), (P.int 2)]), (P.tup [(P.int 5), (P.int 3)])])), ([(P.tup [(P.str [99]), (P.str [99]), (P.str [98]), (P.str [97]), (P.str [98]), (P.str [97])]), (P.str [111, 112, 101, 110])], (P.lst [(P.tup [(P.int 0), (P.int 1)]), (P.tup [(P.int 2), (P.int 3)]), (P.tup [(P.int 4), (P.int 2)]), (P.tup [(P.int 5), (P.int 3)])])), ([(P.tup [(P.str [99]), (P.str [99]), (P.str [98]), (P.str [97]), (P.str [98]), (P.str [97])]), (P.str [116, 117, 114, 110, 115])], (P.lst [(P.tup [(P.int 0), (P.int 1)]), (P.tup [(P.int 2), (P.int 3)]), (P.tup [(P.int 4), (P.int 2)]), (P.tup [(P.int 5), (P.int 3)])]))]
theorem to_played_by_23 : tabOk C_played_by t_played_by_23 = true := by decide +kernel
def t_played_by_24 : List (List P × P) := [([(P.tup [(P.str [99]), (P.str [99]), (P.str [98]), (P.str [98]), (P.str [97]), (P.str [97])]), (P.str [115, 104, 117, 116])], (P.lst [(P.tup [(P.int 0), (P.int 1)]), (P.tup [(P.int 2), (P.int 3)]), (P.tup [(P.int 4), (P.int 5)])])), ([(P.tup [(P.str [99]), (P.str [99]), (P.str [98]), (P.str [98]), (P.str [97]), (P.str [97])]), (P.str [111, 112, 101, 110])], (P.lst [(P.tup [(P.int 0), (P.int 1)]), (P.tup [(P.int 2), (P.int 3)]), (P.tup [(P.int 4), (P.int 5)])])), ([(P.tup [(P.str [99]), (P.str [99]), (P.str [98]), (P.str [98]), (P.str [97]), (P.str [97])]), (P.str [116, 117, 114, 110, 115])], (P.lst [(P.tup [(P.int 0), (P.int 1)]), (P.tup [(P.int 2), (P.int 3)]), (P.tup [(P.int 4), (P.int 5)])]))]
theorem to_played_by_24 : tabOk C_played_by t_played_by_24 = true := by decide +kernel
def t_played_by : List (List P × P) := t_played_by_0 ++ (t_played_by_1 ++ (t_played_by_2 ++ (t_played_by_3 ++ (t_played_by_4 ++ (t_played_by_5 ++ (t_played_by_6 ++ (t_played_by_7 ++ (t_played_by_8 ++ (t_played_by_9 ++ (t_played_by_10 ++ (t_played_by_11 ++ (t_played_by_12 ++ (t_played_by_13 ++ (t_played_by_14 ++ (t_played_by_15 ++ (t_played_by_16 ++ (t_played_by_17 ++ (t_played_by_18 ++ (t_played_by_19 ++ (t_played_by_20 ++ (t_played_by_21 ++ (t_played_by_22 ++ (t_played_by_23 ++ (t_played_by_24))))))))))))))))))))))))
theorem to_played_by : tabOk C_played_by t_played_by = true := tabOk_app to_played_by_0 (tabOk_app to_played_by_1 (tabOk_app to_played_by_2 (tabOk_app to_played_by_3 (tabOk_app to_played_by_4 (tabOk_app to_played_by_5 (tabOk_app to_played_by_6 (tabOk_app to_played_by_7 (tabOk_app to_played_by_8 (tabOk_app to_played_by_9 (tabOk_app to_played_by_10 (tabOk_app to_played_by_11 (tabOk_app to_played_by_12 (tabOk_app to_played_by_13 (tabOk_app to_played_by_14 (tabOk_app to_played_by_15 (tabOk_app to_played_by_16 (tabOk_app to_played_by_17 (tabOk_app to_played_by_18 (tabOk_app to_played_by_19 (tabOk_app to_played_by_20 (tabOk_app to_played_by_21 (tabOk_app to_played_by_22 (tabOk_app to_played_by_23 (to_played_by_24))))))))))))))))))))))))
def T_played_by : CC := tabC 2 t_played_by
abbrev s_counted_by : Stmt := topS 21
abbrev n_counted_by : List Str := ["number", "habit", "many", "deal", "each"]
theorem sc_counted_by : FnScope n_counted_by ["number", "habit"] (defScope s_counted_by) := ⟨rfl, rfl, rfl, by decide +kernel, rfl, by decide +kernel, by decide +kernel⟩
def g_counted_by : List (Str × GE) := [("deals_of", GE.fn ["number"] [] C_deals_of), ("len", GE.blt), ("played_by", GE.fn ["deal", "habit"] [] T_played_by), ("tuple", GE.blt), ("range", GE.blt), ("max", GE.blt)]
def B_counted_by : CS := (sSeq (sAsgG (gNm 2) (cLc false [3] (iV (cCall C_deals_of (aCons (cVar 0) aNil))) (Tg.n 3) kYes (c1 false pLen (cCall T_played_by (aCons (cVar 3) (aCons (cVar 1) aNil))))))
  (sSeq (sRet (c1 false pTup (cLc false [4] (iR1 (c2 false pAdd (c1 false pMaxL (cVar 2)) (cP (P.int 1)))) (Tg.n 4) kYes (cCnt (cVar 2) (cVar 4)))))
  sNil))
def C_counted_by : CC := callOf 2 5 B_counted_by
theorem b_counted_by : body 60 ⟨n_counted_by, defScope s_counted_by, none, g_counted_by, [], []⟩ (defBody s_counted_by) = some B_counted_by := by kernel_rfl
abbrev s_counted : Stmt := topS 34
abbrev n_counted : List Str := ["number", "habit"]
theorem sc_counted : FnScope n_counted ["number", "habit"] (defScope s_counted) := ⟨rfl, rfl, rfl, by decide +kernel, rfl, by decide +kernel, by decide +kernel⟩
def g_counted : List (Str × GE) := [("check_few", GE.fn ["number"] [] C_check_few), ("check_habit", GE.fn ["habit"] [] C_check_habit), ("counted_by", GE.fn ["number", "habit"] [] C_counted_by)]
def B_counted : CS := (sSeq (sExpr (cCall C_check_few (aCons (cVar 0) aNil)))
  (sSeq (sExpr (cCall C_check_habit (aCons (cVar 1) aNil)))
  (sSeq (sRet (cCall C_counted_by (aCons (cVar 0) (aCons (cVar 1) aNil))))
  sNil)))
def C_counted : CC := callOf 2 2 B_counted
theorem b_counted : body 60 ⟨n_counted, defScope s_counted, none, g_counted, [], []⟩ (defBody s_counted) = some B_counted := by kernel_rfl
def t_counted_0 : List (List P × P) := [([(P.int 1), (P.str [115, 104, 117, 116])], (P.tup [(P.int 0), (P.int 1)]))]
theorem to_counted_0 : tabOk C_counted t_counted_0 = true := by decide +kernel
def t_counted_1 : List (List P × P) := [([(P.int 1), (P.str [111, 112, 101, 110])], (P.tup [(P.int 0), (P.int 1)]))]
theorem to_counted_1 : tabOk C_counted t_counted_1 = true := by decide +kernel
def t_counted_2 : List (List P × P) := [([(P.int 1), (P.str [116, 117, 114, 110, 115])], (P.tup [(P.int 0), (P.int 1)]))]
theorem to_counted_2 : tabOk C_counted t_counted_2 = true := by decide +kernel
def t_counted_3 : List (List P × P) := [([(P.int 2), (P.str [115, 104, 117, 116])], (P.tup [(P.int 0), (P.int 0), (P.int 2), (P.int 4)]))]
theorem to_counted_3 : tabOk C_counted t_counted_3 = true := by decide +kernel
def t_counted_4 : List (List P × P) := [([(P.int 2), (P.str [111, 112, 101, 110])], (P.tup [(P.int 0), (P.int 0), (P.int 2), (P.int 4)]))]
theorem to_counted_4 : tabOk C_counted t_counted_4 = true := by decide +kernel
def t_counted_5 : List (List P × P) := [([(P.int 2), (P.str [116, 117, 114, 110, 115])], (P.tup [(P.int 0), (P.int 0), (P.int 2), (P.int 4)]))]
theorem to_counted_5 : tabOk C_counted t_counted_5 = true := by decide +kernel
def t_counted_6 : List (List P × P) := [([(P.int 3), (P.str [115, 104, 117, 116])], (P.tup [(P.int 0), (P.int 0), (P.int 0), (P.int 6), (P.int 48), (P.int 36)]))]
theorem to_counted_6 : tabOk C_counted t_counted_6 = true := by decide +kernel
def t_counted_7 : List (List P × P) := [([(P.int 3), (P.str [111, 112, 101, 110])], (P.tup [(P.int 0), (P.int 0), (P.int 0), (P.int 6), (P.int 24), (P.int 60)]))]
theorem to_counted_7 : tabOk C_counted t_counted_7 = true := by decide +kernel
def t_counted_8 : List (List P × P) := [([(P.int 3), (P.str [116, 117, 114, 110, 115])], (P.tup [(P.int 0), (P.int 0), (P.int 0), (P.int 6), (P.int 36), (P.int 48)]))]
theorem to_counted_8 : tabOk C_counted t_counted_8 = true := by decide +kernel
def t_counted : List (List P × P) := t_counted_0 ++ (t_counted_1 ++ (t_counted_2 ++ (t_counted_3 ++ (t_counted_4 ++ (t_counted_5 ++ (t_counted_6 ++ (t_counted_7 ++ (t_counted_8))))))))
theorem to_counted : tabOk C_counted t_counted = true := tabOk_app to_counted_0 (tabOk_app to_counted_1 (tabOk_app to_counted_2 (tabOk_app to_counted_3 (tabOk_app to_counted_4 (tabOk_app to_counted_5 (tabOk_app to_counted_6 (tabOk_app to_counted_7 (to_counted_8))))))))
def T_counted : CC := tabC 2 t_counted
abbrev s_many_deals : Stmt := topS 11
abbrev n_many_deals : List Str := ["number", "found", "many"]
theorem sc_many_deals : FnScope n_many_deals ["number"] (defScope s_many_deals) := ⟨rfl, rfl, rfl, by decide +kernel, rfl, by decide +kernel, by decide +kernel⟩
def g_many_deals : List (Str × GE) := [("range", GE.blt)]
def B_many_deals : CS := (sSeq (sAsgG (gNm 1) (cP (P.int 1)))
  (sSeq (sFor (iR2 (cP (P.int 1)) (c2 false pAdd (cVar 0) (cP (P.int 1)))) (Tg.n 2) (sSeq (sAsgG (gNm 1) (c2 false pMul (c2 false pMul (cVar 1) (cVar 2)) (c2 false pSub (c2 false pMul (cP (P.int 2)) (cVar 2)) (cP (P.int 1)))))
  sNil))
  (sSeq (sRet (cVar 1))
  sNil)))
def C_many_deals : CC := callOf 1 3 B_many_deals
theorem b_many_deals : body 60 ⟨n_many_deals, defScope s_many_deals, none, g_many_deals, [], []⟩ (defBody s_many_deals) = some B_many_deals := by kernel_rfl
abbrev s_how_many_deals : Stmt := topS 33
abbrev n_how_many_deals : List Str := ["number"]
theorem sc_how_many_deals : FnScope n_how_many_deals ["number"] (defScope s_how_many_deals) := ⟨rfl, rfl, rfl, by decide +kernel, rfl, by decide +kernel, by decide +kernel⟩
def g_how_many_deals : List (Str × GE) := [("check_number", GE.fn ["number", "least", "most"] [] C_check_number), ("MOST_KINDS", GE.cst (P.int 8)), ("many_deals", GE.fn ["number"] [] C_many_deals)]
def B_how_many_deals : CS := (sSeq (sExpr (cCall C_check_number (aCons (cVar 0) (aCons (cP (P.int 1)) (aCons (cP (P.int 8)) aNil)))))
  (sSeq (sRet (cCall C_many_deals (aCons (cVar 0) aNil)))
  sNil))
def C_how_many_deals : CC := callOf 1 1 B_how_many_deals
theorem b_how_many_deals : body 60 ⟨n_how_many_deals, defScope s_how_many_deals, none, g_how_many_deals, [], []⟩ (defBody s_how_many_deals) = some B_how_many_deals := by kernel_rfl
abbrev s__law_right : Stmt := topS 45
abbrev n__law_right : List Str := ["bowl", "number", "habit", "due", "deal"]
theorem sc__law_right : FnScope n__law_right ["bowl"] (defScope s__law_right) := ⟨rfl, rfl, rfl, by decide +kernel, rfl, by decide +kernel, by decide +kernel⟩
def g__law_right : List (Str × GE) := [("_law_draw", GE.fn ["bowl", "many"] [] drawC), ("_law_of", GE.fn ["bowl", "some"] [] C__law_of), ("_law_counted", GE.fn ["rows"] [] C__law_counted), ("_law_deals", GE.fn ["number"] [] C__law_deals), ("len", GE.blt), ("_law_played", GE.fn ["deal", "habit"] [] T__law_played), ("_law_same", GE.fn ["told", "due"] [] C__law_same), ("counted", GE.fn ["number", "habit"] [(["habit", "number"], [1, 0])] T_counted), ("sum", GE.blt), ("how_many_deals", GE.fn ["number"] [] C_how_many_deals)]
def B__law_right : CS := (sSeq (sForC [999, 2, 3, 1] (ipT [(c2 false pAdd (cP (P.int 1)) (cCall drawC (aCons (cVar 0) (aCons (cP (P.int 2)) aNil)))), (c2 false pAdd (cP (P.int 2)) (cCall drawC (aCons (cVar 0) (aCons (cP (P.int 2)) aNil))))]) (Tg.n 1) (sSeq (sAsgG (gNm 2) (cCall C__law_of (aCons (cVar 0) (aCons (cTup (aCons (cP (P.str [115, 104, 117, 116])) (aCons (cP (P.str [111, 112, 101, 110])) (aCons (cP (P.str [116, 117, 114, 110, 115])) aNil)))) aNil))))
  (sSeq (sAsgG (gNm 3) (cCall C__law_counted (aCons (cLc false [4] (iV (cCall C__law_deals (aCons (cVar 1) aNil))) (Tg.n 4) kYes (c1 false pLen (cCall T__law_played (aCons (cVar 4) (aCons (cVar 2) aNil))))) aNil)))
  (sSeq (sIf (kNot (cTest (cCall C__law_same (aCons (cTup (aCons (cCall T_counted (aCons (cVar 1) (aCons (cVar 2) aNil))) (aCons (cCall T_counted (cPerm 2 [1, 0] (aCons (cVar 2) (aCons (cVar 1) aNil)))) (aCons (c1 false pSumX (cVar 3)) aNil)))) (aCons (cTup (aCons (cVar 3) (aCons (cVar 3) (aCons (cCall C_how_many_deals (aCons (cVar 1) aNil)) aNil)))) aNil))))) (sSeq (sRet (cP (P.bl false)))
  sNil) sNil)
  (sSeq (sIf (kOr (cTest (c2 false (pEq true) (cCut false (cVar 3) oNo (oSome (cVar 1))) (c2 false pMul (cTup (aCons (cP (P.int 0)) aNil)) (cVar 1)))) (cTest (c2 false (pEq false) (c2 false pIx (cVar 3) (c1 false pNeg (cP (P.int 1)))) (cP (P.int 0))))) (sSeq (sRet (cP (P.bl false)))
  sNil) sNil)
  sNil)))))
  (sSeq (sRet (cP (P.bl true)))
  sNil))
theorem b__law_right : body 60 ⟨n__law_right, defScope s__law_right, none, g__law_right, [], [(164, [999, 2, 3, 1])]⟩ (defBody s__law_right) = some B__law_right := by kernel_rfl
abbrev s__law_bowl : Stmt := topS 36
abbrev n__law_bowl : List Str := ["script", "lap", "stir", "cell", "own"]
theorem sc__law_bowl : FnScope n__law_bowl ["script", "lap"] (defScope s__law_bowl) := ⟨rfl, rfl, rfl, by decide +kernel, rfl, by decide +kernel, by decide +kernel⟩
def g__law_bowl : List (Str × GE) := [("int", GE.blt), ("len", GE.blt), ("abs", GE.blt)]
theorem b__law_bowl : body 60 ⟨n__law_bowl, defScope s__law_bowl, none, g__law_bowl, ["return"], []⟩ (defBody s__law_bowl) = some bowlB := by kernel_rfl
abbrev s_law : Stmt := topS 46
abbrev n_law : List Str := ["script", "lap"]
theorem sc_law : FnScope n_law ["script"] (defScope s_law) := ⟨rfl, rfl, rfl, by decide +kernel, rfl, by decide +kernel, by decide +kernel⟩
def g_law : List (Str × GE) := [("all", GE.blt), ("range", GE.blt), ("max", GE.blt), ("min", GE.blt), ("len", GE.blt), ("_law_right", GE.fn ["bowl"] [] rightC), ("_law_bowl", GE.fnG ["script", "lap"] bowlC)]
theorem b_law : body 60 ⟨n_law, defScope s_law, none, g_law, [], []⟩ (defBody s_law) = some lawB := by kernel_rfl
theorem right_ok : right0 (callOf 1 n__law_right.length B__law_right) = true := by decide +kernel
section
variable {l : PySem.W.OpenLaw} {w : World} {K : PySem.W.Frag} {h : Heap} {mg : Str → Option Value} {fa : Addr}
theorem all_mk (X : K.In h) (G : h.Ns mainGlobals mg) (hfa : mg "law" = some (.ref fa))
    {f0 : Addr} {oc0 kV0 dc0 pm0 cd0 ct0 : Value} {od0 an0 : Option Addr} {sl0 : Array (Option Value)}
    {f1 : Addr} {oc1 kV1 dc1 pm1 cd1 ct1 : Value} {od1 an1 : Option Addr} {sl1 : Array (Option Value)}
    {f2 : Addr} {oc2 kV2 dc2 pm2 cd2 ct2 : Value} {od2 an2 : Option Addr} {sl2 : Array (Option Value)}
    {f3 : Addr} {oc3 kV3 dc3 pm3 cd3 ct3 : Value} {od3 an3 : Option Addr} {sl3 : Array (Option Value)}
    {f4 : Addr} {oc4 kV4 dc4 pm4 cd4 ct4 : Value} {od4 an4 : Option Addr} {sl4 : Array (Option Value)}
    {f5 : Addr} {oc5 kV5 dc5 pm5 cd5 ct5 : Value} {od5 an5 : Option Addr} {sl5 : Array (Option Value)}
    {f6 : Addr} {oc6 kV6 dc6 pm6 cd6 ct6 : Value} {od6 an6 : Option Addr} {sl6 : Array (Option Value)}
    {f7 : Addr} {oc7 kV7 dc7 pm7 cd7 ct7 : Value} {od7 an7 : Option Addr} {sl7 : Array (Option Value)}
    {f8 : Addr} {oc8 kV8 dc8 pm8 cd8 ct8 : Value} {od8 an8 : Option Addr} {sl8 : Array (Option Value)}
    {f9 : Addr} {oc9 kV9 dc9 pm9 cd9 ct9 : Value} {od9 an9 : Option Addr} {sl9 : Array (Option Value)}
    {f10 : Addr} {oc10 kV10 dc10 pm10 cd10 ct10 : Value} {od10 an10 : Option Addr} {sl10 : Array (Option Value)}
    {f11 : Addr} {oc11 kV11 dc11 pm11 cd11 ct11 : Value} {od11 an11 : Option Addr} {sl11 : Array (Option Value)}
    {f12 : Addr} {oc12 kV12 dc12 pm12 cd12 ct12 : Value} {od12 an12 : Option Addr} {sl12 : Array (Option Value)}
    {f13 : Addr} {oc13 kV13 dc13 pm13 cd13 ct13 : Value} {od13 an13 : Option Addr} {sl13 : Array (Option Value)}
    {f14 : Addr} {oc14 kV14 dc14 pm14 cd14 ct14 : Value} {od14 an14 : Option Addr} {sl14 : Array (Option Value)}
    {f15 : Addr} {oc15 kV15 dc15 pm15 cd15 ct15 : Value} {od15 an15 : Option Addr} {sl15 : Array (Option Value)}
    {f16 : Addr} {oc16 kV16 dc16 pm16 cd16 ct16 : Value} {od16 an16 : Option Addr} {sl16 : Array (Option Value)}
    {f17 : Addr} {oc17 kV17 dc17 pm17 cd17 ct17 : Value} {od17 an17 : Option Addr} {sl17 : Array (Option Value)}
    {f18 : Addr} {oc18 kV18 dc18 pm18 cd18 ct18 : Value} {od18 an18 : Option Addr} {sl18 : Array (Option Value)}
    {f19 : Addr} {oc19 kV19 dc19 pm19 cd19 ct19 : Value} {od19 an19 : Option Addr} {sl19 : Array (Option Value)}
    {f20 : Addr} {oc20 kV20 dc20 pm20 cd20 ct20 : Value} {od20 an20 : Option Addr} {sl20 : Array (Option Value)}
    {f21 : Addr} {oc21 kV21 dc21 pm21 cd21 ct21 : Value} {od21 an21 : Option Addr} {sl21 : Array (Option Value)}
    {f22 : Addr} {oc22 kV22 dc22 pm22 cd22 ct22 : Value} {od22 an22 : Option Addr} {sl22 : Array (Option Value)}
    {f23 : Addr} {oc23 kV23 dc23 pm23 cd23 ct23 : Value} {od23 an23 : Option Addr} {sl23 : Array (Option Value)}
    {f24 : Addr} {oc24 kV24 dc24 pm24 cd24 ct24 : Value} {od24 an24 : Option Addr} {sl24 : Array (Option Value)}
    {f25 : Addr} {oc25 kV25 dc25 pm25 cd25 ct25 : Value} {od25 an25 : Option Addr} {sl25 : Array (Option Value)}
    {f26 : Addr} {oc26 kV26 dc26 pm26 cd26 ct26 : Value} {od26 an26 : Option Addr} {sl26 : Array (Option Value)}
    {f27 : Addr} {oc27 kV27 dc27 pm27 cd27 ct27 : Value} {od27 an27 : Option Addr} {sl27 : Array (Option Value)}
    {f28 : Addr} {oc28 kV28 dc28 pm28 cd28 ct28 : Value} {od28 an28 : Option Addr} {sl28 : Array (Option Value)}
    {f29 : Addr} {oc29 kV29 dc29 pm29 cd29 ct29 : Value} {od29 an29 : Option Addr} {sl29 : Array (Option Value)}
    {t0 : Tok}
    {t1 : Tok}
    {t2 : Addr} {i2 : Array Value} {m2 : Nat} {y2 : Array (Option Value)}
    {t3 : Addr} {i3 : Array Value} {m3 : Nat} {y3 : Array (Option Value)}
    {t4 : Tok}
    {t5 : Tok}
    (a0 : PySem.W.nsIn K mainGlobals "_law_draw" = some (some (.ref f0)))
    (l0 : K.lookup f0 = some ⟨oc0, od0, .func (PySem.W.fnOf "_law_draw" "_law_draw" (defArgs s__law_draw) (defBody s__law_draw) (defScope s__law_draw) .none kV0 dc0 pm0 an0 cd0 ct0), sl0⟩)
    (c0 : PySem.W.codeIn K cd0 "_law_draw" = true)
    (k0 : PySem.W.keepIn K (.ref f0) = true)
    (a1 : PySem.W.nsIn K mainGlobals "_law_of" = some (some (.ref f1)))
    (l1 : K.lookup f1 = some ⟨oc1, od1, .func (PySem.W.fnOf "_law_of" "_law_of" (defArgs s__law_of) (defBody s__law_of) (defScope s__law_of) .none kV1 dc1 pm1 an1 cd1 ct1), sl1⟩)
    (c1 : PySem.W.codeIn K cd1 "_law_of" = true)
    (k1 : PySem.W.keepIn K (.ref f1) = true)
    (a2 : PySem.W.nsIn K mainGlobals "_law_counted" = some (some (.ref f2)))
    (l2 : K.lookup f2 = some ⟨oc2, od2, .func (PySem.W.fnOf "_law_counted" "_law_counted" (defArgs s__law_counted) (defBody s__law_counted) (defScope s__law_counted) .none kV2 dc2 pm2 an2 cd2 ct2), sl2⟩)
    (c2 : PySem.W.codeIn K cd2 "_law_counted" = true)
    (k2 : PySem.W.keepIn K (.ref f2) = true)
    (a3 : PySem.W.nsIn K mainGlobals "_law_deals" = some (some (.ref f3)))
    (l3 : K.lookup f3 = some ⟨oc3, od3, .func (PySem.W.fnOf "_law_deals" "_law_deals" (defArgs s__law_deals) (defBody s__law_deals) (defScope s__law_deals) .none kV3 dc3 pm3 an3 cd3 ct3), sl3⟩)
    (c3 : PySem.W.codeIn K cd3 "_law_deals" = true)
    (k3 : PySem.W.keepIn K (.ref f3) = true)
    (a4 : PySem.W.nsIn K mainGlobals "_law_fellow" = some (some (.ref f4)))
    (l4 : K.lookup f4 = some ⟨oc4, od4, .func (PySem.W.fnOf "_law_fellow" "_law_fellow" (defArgs s__law_fellow) (defBody s__law_fellow) (defScope s__law_fellow) .none kV4 dc4 pm4 an4 cd4 ct4), sl4⟩)
    (c4 : PySem.W.codeIn K cd4 "_law_fellow" = true)
    (k4 : PySem.W.keepIn K (.ref f4) = true)
    (a5 : PySem.W.nsIn K mainGlobals "_law_is_shut" = some (some (.ref f5)))
    (l5 : K.lookup f5 = some ⟨oc5, od5, .func (PySem.W.fnOf "_law_is_shut" "_law_is_shut" (defArgs s__law_is_shut) (defBody s__law_is_shut) (defScope s__law_is_shut) .none kV5 dc5 pm5 an5 cd5 ct5), sl5⟩)
    (c5 : PySem.W.codeIn K cd5 "_law_is_shut" = true)
    (k5 : PySem.W.keepIn K (.ref f5) = true)
    (a6 : PySem.W.nsIn K mainGlobals "_law_played" = some (some (.ref f6)))
    (l6 : K.lookup f6 = some ⟨oc6, od6, .func (PySem.W.fnOf "_law_played" "_law_played" (defArgs s__law_played) (defBody s__law_played) (defScope s__law_played) .none kV6 dc6 pm6 an6 cd6 ct6), sl6⟩)
    (c6 : PySem.W.codeIn K cd6 "_law_played" = true)
    (k6 : PySem.W.keepIn K (.ref f6) = true)
    (a7 : PySem.W.nsIn K mainGlobals "_law_same" = some (some (.ref f7)))
    (l7 : K.lookup f7 = some ⟨oc7, od7, .func (PySem.W.fnOf "_law_same" "_law_same" (defArgs s__law_same) (defBody s__law_same) (defScope s__law_same) .none kV7 dc7 pm7 an7 cd7 ct7), sl7⟩)
    (c7 : PySem.W.codeIn K cd7 "_law_same" = true)
    (k7 : PySem.W.keepIn K (.ref f7) = true)
    (a8 : PySem.W.nsIn K mainGlobals "is_whole" = some (some (.ref f8)))
    (l8 : K.lookup f8 = some ⟨oc8, od8, .func (PySem.W.fnOf "is_whole" "is_whole" (defArgs s_is_whole) (defBody s_is_whole) (defScope s_is_whole) .none kV8 dc8 pm8 an8 cd8 ct8), sl8⟩)
    (c8 : PySem.W.codeIn K cd8 "is_whole" = true)
    (k8 : PySem.W.keepIn K (.ref f8) = true)
    (a9 : PySem.W.nsIn K mainGlobals "is_between" = some (some (.ref f9)))
    (l9 : K.lookup f9 = some ⟨oc9, od9, .func (PySem.W.fnOf "is_between" "is_between" (defArgs s_is_between) (defBody s_is_between) (defScope s_is_between) .none kV9 dc9 pm9 an9 cd9 ct9), sl9⟩)
    (c9 : PySem.W.codeIn K cd9 "is_between" = true)
    (k9 : PySem.W.keepIn K (.ref f9) = true)
    (a10 : PySem.W.nsIn K mainGlobals "check_number" = some (some (.ref f10)))
    (l10 : K.lookup f10 = some ⟨oc10, od10, .func (PySem.W.fnOf "check_number" "check_number" (defArgs s_check_number) (defBody s_check_number) (defScope s_check_number) .none kV10 dc10 pm10 an10 cd10 ct10), sl10⟩)
    (c10 : PySem.W.codeIn K cd10 "check_number" = true)
    (k10 : PySem.W.keepIn K (.ref f10) = true)
    (a11 : PySem.W.nsIn K mainGlobals "check_few" = some (some (.ref f11)))
    (l11 : K.lookup f11 = some ⟨oc11, od11, .func (PySem.W.fnOf "check_few" "check_few" (defArgs s_check_few) (defBody s_check_few) (defScope s_check_few) .none kV11 dc11 pm11 an11 cd11 ct11), sl11⟩)
    (c11 : PySem.W.codeIn K cd11 "check_few" = true)
    (k11 : PySem.W.keepIn K (.ref f11) = true)
    (a12 : PySem.W.nsIn K mainGlobals "is_one_of" = some (some (.ref f12)))
    (l12 : K.lookup f12 = some ⟨oc12, od12, .func (PySem.W.fnOf "is_one_of" "is_one_of" (defArgs s_is_one_of) (defBody s_is_one_of) (defScope s_is_one_of) .none kV12 dc12 pm12 an12 cd12 ct12), sl12⟩)
    (c12 : PySem.W.codeIn K cd12 "is_one_of" = true)
    (k12 : PySem.W.keepIn K (.ref f12) = true)
    (a13 : PySem.W.nsIn K mainGlobals "check_habit" = some (some (.ref f13)))
    (l13 : K.lookup f13 = some ⟨oc13, od13, .func (PySem.W.fnOf "check_habit" "check_habit" (defArgs s_check_habit) (defBody s_check_habit) (defScope s_check_habit) .none kV13 dc13 pm13 an13 cd13 ct13), sl13⟩)
    (c13 : PySem.W.codeIn K cd13 "check_habit" = true)
    (k13 : PySem.W.keepIn K (.ref f13) = true)
    (a14 : PySem.W.nsIn K mainGlobals "deals_of" = some (some (.ref f14)))
    (l14 : K.lookup f14 = some ⟨oc14, od14, .func (PySem.W.fnOf "deals_of" "deals_of" (defArgs s_deals_of) (defBody s_deals_of) (defScope s_deals_of) .none kV14 dc14 pm14 an14 cd14 ct14), sl14⟩)
    (c14 : PySem.W.codeIn K cd14 "deals_of" = true)
    (k14 : PySem.W.keepIn K (.ref f14) = true)
    (a15 : PySem.W.nsIn K mainGlobals "fellow_of" = some (some (.ref f15)))
    (l15 : K.lookup f15 = some ⟨oc15, od15, .func (PySem.W.fnOf "fellow_of" "fellow_of" (defArgs s_fellow_of) (defBody s_fellow_of) (defScope s_fellow_of) .none kV15 dc15 pm15 an15 cd15 ct15), sl15⟩)
    (c15 : PySem.W.codeIn K cd15 "fellow_of" = true)
    (k15 : PySem.W.keepIn K (.ref f15) = true)
    (a16 : PySem.W.nsIn K mainGlobals "ready_in" = some (some (.ref f16)))
    (l16 : K.lookup f16 = some ⟨oc16, od16, .func (PySem.W.fnOf "ready_in" "ready_in" (defArgs s_ready_in) (defBody s_ready_in) (defScope s_ready_in) .none kV16 dc16 pm16 an16 cd16 ct16), sl16⟩)
    (c16 : PySem.W.codeIn K cd16 "ready_in" = true)
    (k16 : PySem.W.keepIn K (.ref f16) = true)
    (a17 : PySem.W.nsIn K mainGlobals "shut_of" = some (some (.ref f17)))
    (l17 : K.lookup f17 = some ⟨oc17, od17, .func (PySem.W.fnOf "shut_of" "shut_of" (defArgs s_shut_of) (defBody s_shut_of) (defScope s_shut_of) .none kV17 dc17 pm17 an17 cd17 ct17), sl17⟩)
    (c17 : PySem.W.codeIn K cd17 "shut_of" = true)
    (k17 : PySem.W.keepIn K (.ref f17) = true)
    (a18 : PySem.W.nsIn K mainGlobals "second_of" = some (some (.ref f18)))
    (l18 : K.lookup f18 = some ⟨oc18, od18, .func (PySem.W.fnOf "second_of" "second_of" (defArgs s_second_of) (defBody s_second_of) (defScope s_second_of) .none kV18 dc18 pm18 an18 cd18 ct18), sl18⟩)
    (c18 : PySem.W.codeIn K cd18 "second_of" = true)
    (k18 : PySem.W.keepIn K (.ref f18) = true)
    (a19 : PySem.W.nsIn K mainGlobals "singles_in" = some (some (.ref f19)))
    (l19 : K.lookup f19 = some ⟨oc19, od19, .func (PySem.W.fnOf "singles_in" "singles_in" (defArgs s_singles_in) (defBody s_singles_in) (defScope s_singles_in) .none kV19 dc19 pm19 an19 cd19 ct19), sl19⟩)
    (c19 : PySem.W.codeIn K cd19 "singles_in" = true)
    (k19 : PySem.W.keepIn K (.ref f19) = true)
    (a20 : PySem.W.nsIn K mainGlobals "next_by" = some (some (.ref f20)))
    (l20 : K.lookup f20 = some ⟨oc20, od20, .func (PySem.W.fnOf "next_by" "next_by" (defArgs s_next_by) (defBody s_next_by) (defScope s_next_by) .none kV20 dc20 pm20 an20 cd20 ct20), sl20⟩)
    (c20 : PySem.W.codeIn K cd20 "next_by" = true)
    (k20 : PySem.W.keepIn K (.ref f20) = true)
    (a21 : PySem.W.nsIn K mainGlobals "behind_turn" = some (some (.ref f21)))
    (l21 : K.lookup f21 = some ⟨oc21, od21, .func (PySem.W.fnOf "behind_turn" "behind_turn" (defArgs s_behind_turn) (defBody s_behind_turn) (defScope s_behind_turn) .none kV21 dc21 pm21 an21 cd21 ct21), sl21⟩)
    (c21 : PySem.W.codeIn K cd21 "behind_turn" = true)
    (k21 : PySem.W.keepIn K (.ref f21) = true)
    (a22 : PySem.W.nsIn K mainGlobals "played_by" = some (some (.ref f22)))
    (l22 : K.lookup f22 = some ⟨oc22, od22, .func (PySem.W.fnOf "played_by" "played_by" (defArgs s_played_by) (defBody s_played_by) (defScope s_played_by) .none kV22 dc22 pm22 an22 cd22 ct22), sl22⟩)
    (c22 : PySem.W.codeIn K cd22 "played_by" = true)
    (k22 : PySem.W.keepIn K (.ref f22) = true)
    (a23 : PySem.W.nsIn K mainGlobals "counted_by" = some (some (.ref f23)))
    (l23 : K.lookup f23 = some ⟨oc23, od23, .func (PySem.W.fnOf "counted_by" "counted_by" (defArgs s_counted_by) (defBody s_counted_by) (defScope s_counted_by) .none kV23 dc23 pm23 an23 cd23 ct23), sl23⟩)
    (c23 : PySem.W.codeIn K cd23 "counted_by" = true)
    (k23 : PySem.W.keepIn K (.ref f23) = true)
    (a24 : PySem.W.nsIn K mainGlobals "counted" = some (some (.ref f24)))
    (l24 : K.lookup f24 = some ⟨oc24, od24, .func (PySem.W.fnOf "counted" "counted" (defArgs s_counted) (defBody s_counted) (defScope s_counted) .none kV24 dc24 pm24 an24 cd24 ct24), sl24⟩)
    (c24 : PySem.W.codeIn K cd24 "counted" = true)
    (k24 : PySem.W.keepIn K (.ref f24) = true)
    (a25 : PySem.W.nsIn K mainGlobals "many_deals" = some (some (.ref f25)))
    (l25 : K.lookup f25 = some ⟨oc25, od25, .func (PySem.W.fnOf "many_deals" "many_deals" (defArgs s_many_deals) (defBody s_many_deals) (defScope s_many_deals) .none kV25 dc25 pm25 an25 cd25 ct25), sl25⟩)
    (c25 : PySem.W.codeIn K cd25 "many_deals" = true)
    (k25 : PySem.W.keepIn K (.ref f25) = true)
    (a26 : PySem.W.nsIn K mainGlobals "how_many_deals" = some (some (.ref f26)))
    (l26 : K.lookup f26 = some ⟨oc26, od26, .func (PySem.W.fnOf "how_many_deals" "how_many_deals" (defArgs s_how_many_deals) (defBody s_how_many_deals) (defScope s_how_many_deals) .none kV26 dc26 pm26 an26 cd26 ct26), sl26⟩)
    (c26 : PySem.W.codeIn K cd26 "how_many_deals" = true)
    (k26 : PySem.W.keepIn K (.ref f26) = true)
    (a27 : PySem.W.nsIn K mainGlobals "_law_right" = some (some (.ref f27)))
    (l27 : K.lookup f27 = some ⟨oc27, od27, .func (PySem.W.fnOf "_law_right" "_law_right" (defArgs s__law_right) (defBody s__law_right) (defScope s__law_right) .none kV27 dc27 pm27 an27 cd27 ct27), sl27⟩)
    (c27 : PySem.W.codeIn K cd27 "_law_right" = true)
    (k27 : PySem.W.keepIn K (.ref f27) = true)
    (a28 : PySem.W.nsIn K mainGlobals "_law_bowl" = some (some (.ref f28)))
    (l28 : K.lookup f28 = some ⟨oc28, od28, .func (PySem.W.fnOf "_law_bowl" "_law_bowl" (defArgs s__law_bowl) (defBody s__law_bowl) (defScope s__law_bowl) .none kV28 dc28 pm28 an28 cd28 ct28), sl28⟩)
    (c28 : PySem.W.codeIn K cd28 "_law_bowl" = true)
    (k28 : PySem.W.keepIn K (.ref f28) = true)
    (a29 : PySem.W.nsIn K mainGlobals "law" = some (some (.ref f29)))
    (l29 : K.lookup f29 = some ⟨oc29, od29, .func (PySem.W.fnOf "law" "law" (defArgs s_law) (defBody s_law) (defScope s_law) .none kV29 dc29 pm29 an29 cd29 ct29), sl29⟩)
    (c29 : PySem.W.codeIn K cd29 "law" = true)
    (k29 : PySem.W.keepIn K (.ref f29) = true)
    (z0 : PySem.W.nsIn K mainGlobals "divmod" = some none)
    (z1 : PySem.W.nsIn K mainGlobals "int" = some none)
    (z2 : PySem.W.nsIn K mainGlobals "len" = some none)
    (z3 : PySem.W.nsIn K mainGlobals "tuple" = some none)
    (z4 : PySem.W.nsIn K mainGlobals "range" = some none)
    (z5 : PySem.W.nsIn K mainGlobals "max" = some none)
    (z6 : PySem.W.nsIn K mainGlobals "list" = some none)
    (z7 : PySem.W.nsIn K mainGlobals "sorted" = some none)
    (z8 : PySem.W.nsIn K mainGlobals "isinstance" = some none)
    (z9 : PySem.W.nsIn K mainGlobals "all" = some none)
    (z10 : PySem.W.nsIn K mainGlobals "bool" = some none)
    (z11 : PySem.W.nsIn K mainGlobals "str" = some none)
    (z12 : PySem.W.nsIn K mainGlobals "enumerate" = some none)
    (z13 : PySem.W.nsIn K mainGlobals "sum" = some none)
    (z14 : PySem.W.nsIn K mainGlobals "abs" = some none)
    (z15 : PySem.W.nsIn K mainGlobals "min" = some none)
    (u0 : PySem.W.nsIn K mainGlobals "MOST_KINDS" = some (some (.int 8 t0)))
    (u1 : PySem.W.nsIn K mainGlobals "MOST_DEALT" = some (some (.int 3 t1)))
    (u2 : PySem.W.nsIn K mainGlobals "HABITS" = some (some (.ref t2)))
    (v2 : K.lookup t2 = some ⟨.type "tuple", none, .seq i2 m2, y2⟩)
    (x2 : Vals [V.str (mkS [115, 104, 117, 116]), V.str (mkS [111, 112, 101, 110]), V.str (mkS [116, 117, 114, 110, 115])] i2.toList)
    (u3 : PySem.W.nsIn K mainGlobals "KINDS" = some (some (.ref t3)))
    (v3 : K.lookup t3 = some ⟨.type "tuple", none, .seq i3 m3, y3⟩)
    (x3 : Vals [V.str (mkS [97]), V.str (mkS [98]), V.str (mkS [99]), V.str (mkS [100]), V.str (mkS [101]), V.str (mkS [102]), V.str (mkS [103]), V.str (mkS [104])] i3.toList)
    (u4 : PySem.W.nsIn K mainGlobals "OPEN" = some (some (.str "open" t4)))
    (u5 : PySem.W.nsIn K mainGlobals "TURNS" = some (some (.str "turns" t5))) :
    ∃ fd : FuncData, (∀ (s : Shared) (v : Value), BindsTo s fd ⟨[v], []⟩ [("script", v)]) ∧ ∀ base : Heap, K.In base → base.Ns mainGlobals mg → FnOk l.prog w K mg base CX0 8 fa fd ["script"] (spOf ⟨K, [], []⟩ 1 (callOf 1 2 lawB)) := by
  have e := hfa.symm.trans (PySem.W.mg_of X G a29)
  cases e
  refine ⟨PySem.W.fnOf "law" "law" (defArgs s_law) (defBody s_law) (defScope s_law) .none kV29 dc29 pm29 an29 cd29 ct29, fun s v => .of_eq rfl, fun base _ _ => ?_⟩
  let W : Wd := ⟨K, [], []⟩
  have q_MOST_KINDS : GF W l.prog w K mg base 0 "MOST_KINDS" (GE.cst (P.int 8)) := ⟨_, V.int 8, PySem.W.mg_of X G u0, ⟨_, rfl⟩, fun F H => rfl⟩
  have q_MOST_DEALT : GF W l.prog w K mg base 0 "MOST_DEALT" (GE.cst (P.int 3)) := ⟨_, V.int 3, PySem.W.mg_of X G u1, ⟨_, rfl⟩, fun F H => rfl⟩
  have q_HABITS : GF W l.prog w K mg base 0 "HABITS" (GE.cst (P.tup [(P.str [115, 104, 117, 116]), (P.str [111, 112, 101, 110]), (P.str [116, 117, 114, 110, 115])])) := cst_tup (PySem.W.mg_of X G u2) v2 x2 (by decide) (by decide +kernel)
  have q_KINDS : GF W l.prog w K mg base 0 "KINDS" (GE.cst (P.tup [(P.str [97]), (P.str [98]), (P.str [99]), (P.str [100]), (P.str [101]), (P.str [102]), (P.str [103]), (P.str [104])])) := cst_tup (PySem.W.mg_of X G u3) v3 x3 (by decide) (by decide +kernel)
  have q_OPEN : GF W l.prog w K mg base 0 "OPEN" (GE.cst (P.str [111, 112, 101, 110])) := ⟨_, V.str "open", PySem.W.mg_of X G u4, ⟨_, rfl⟩, fun F H => ⟨rfl, rfl⟩⟩
  have q_TURNS : GF W l.prog w K mg base 0 "TURNS" (GE.cst (P.str [116, 117, 114, 110, 115])) := ⟨_, V.str "turns", PySem.W.mg_of X G u5, ⟨_, rfl⟩, fun F H => ⟨rfl, rfl⟩⟩
  have q_divmod : GF W l.prog w K mg base 0 "divmod" GE.blt := PySem.W.mg_none_of X G z0
  have q_int : GF W l.prog w K mg base 0 "int" GE.blt := PySem.W.mg_none_of X G z1
  have q_len : GF W l.prog w K mg base 0 "len" GE.blt := PySem.W.mg_none_of X G z2
  have q_tuple : GF W l.prog w K mg base 0 "tuple" GE.blt := PySem.W.mg_none_of X G z3
  have q_range : GF W l.prog w K mg base 0 "range" GE.blt := PySem.W.mg_none_of X G z4
  have q_max : GF W l.prog w K mg base 0 "max" GE.blt := PySem.W.mg_none_of X G z5
  have q_list : GF W l.prog w K mg base 0 "list" GE.blt := PySem.W.mg_none_of X G z6
  have q_sorted : GF W l.prog w K mg base 0 "sorted" GE.blt := PySem.W.mg_none_of X G z7
  have q_isinstance : GF W l.prog w K mg base 0 "isinstance" GE.blt := PySem.W.mg_none_of X G z8
  have q_all : GF W l.prog w K mg base 0 "all" GE.blt := PySem.W.mg_none_of X G z9
  have q_bool : GF W l.prog w K mg base 0 "bool" GE.blt := PySem.W.mg_none_of X G z10
  have q_str : GF W l.prog w K mg base 0 "str" GE.blt := PySem.W.mg_none_of X G z11
  have q_enumerate : GF W l.prog w K mg base 0 "enumerate" GE.blt := PySem.W.mg_none_of X G z12
  have q_sum : GF W l.prog w K mg base 0 "sum" GE.blt := PySem.W.mg_none_of X G z13
  have q_abs : GF W l.prog w K mg base 0 "abs" GE.blt := PySem.W.mg_none_of X G z14
  have q_min : GF W l.prog w K mg base 0 "min" GE.blt := PySem.W.mg_none_of X G z15
  have F0 := fun_mk (st := s__law_draw) l0 c0 k0
  have b0 := F0.binds (ps := ["bowl", "many"]) fun _ _ _ _ _ _ us hl => match us, hl with | [_, _], _ => rfl
  have r0 := fnOk_of (W := W) (Pg := l.prog) (w := w) (mg := mg) (base := base) (k := 0) (G := g__law_draw) F0 sc__law_draw rfl ⟨q_divmod.up (Nat.le_of_ble_eq_true rfl), q_int.up (Nat.le_of_ble_eq_true rfl), trivial⟩ (by decide) b__law_draw
  have q__law_draw : GF W l.prog w K mg base 1 "_law_draw" (GE.fn ["bowl", "many"] [] drawC) := ⟨f0, _, 1, Nat.le_refl _, PySem.W.mg_of X G a0, F0.kp, b0, (fun _ hq => nomatch hq), r0.imp draw_imp, drawC_len⟩
  have F1 := fun_mk (st := s__law_of) l1 c1 k1
  have b1 := F1.binds (ps := ["bowl", "some"]) fun _ _ _ _ _ _ us hl => match us, hl with | [_, _], _ => rfl
  have r1 := fnOk_of (W := W) (Pg := l.prog) (w := w) (mg := mg) (base := base) (k := 1) (G := g__law_of) F1 sc__law_of rfl ⟨q__law_draw.up (Nat.le_of_ble_eq_true rfl), q_len.up (Nat.le_of_ble_eq_true rfl), trivial⟩ (by decide) b__law_of
  have q__law_of : GF W l.prog w K mg base 2 "_law_of" (GE.fn ["bowl", "some"] [] C__law_of) := ⟨f1, _, 2, Nat.le_refl _, PySem.W.mg_of X G a1, F1.kp, b1, (fun _ hq => nomatch hq), r1, callOf_len⟩
  have F2 := fun_mk (st := s__law_counted) l2 c2 k2
  have b2 := F2.binds (ps := ["rows"]) fun _ _ _ _ _ _ us hl => match us, hl with | [_], _ => rfl
  have r2 := fnOk_of (W := W) (Pg := l.prog) (w := w) (mg := mg) (base := base) (k := 0) (G := g__law_counted) F2 sc__law_counted rfl ⟨q_tuple.up (Nat.le_of_ble_eq_true rfl), q_range.up (Nat.le_of_ble_eq_true rfl), q_max.up (Nat.le_of_ble_eq_true rfl), q_len.up (Nat.le_of_ble_eq_true rfl), trivial⟩ (by decide) b__law_counted
  have q__law_counted : GF W l.prog w K mg base 1 "_law_counted" (GE.fn ["rows"] [] C__law_counted) := ⟨f2, _, 1, Nat.le_refl _, PySem.W.mg_of X G a2, F2.kp, b2, (fun _ hq => nomatch hq), r2, callOf_len⟩
  have F3 := fun_mk (st := s__law_deals) l3 c3 k3
  have b3 := F3.binds (ps := ["number"]) fun _ _ _ _ _ _ us hl => match us, hl with | [_], _ => rfl
  have r3 := fnOk_of (W := W) (Pg := l.prog) (w := w) (mg := mg) (base := base) (k := 0) (G := g__law_deals) F3 sc__law_deals rfl ⟨q_range.up (Nat.le_of_ble_eq_true rfl), q_len.up (Nat.le_of_ble_eq_true rfl), trivial⟩ (by decide) b__law_deals
  have q__law_deals : GF W l.prog w K mg base 1 "_law_deals" (GE.fn ["number"] [] C__law_deals) := ⟨f3, _, 1, Nat.le_refl _, PySem.W.mg_of X G a3, F3.kp, b3, (fun _ hq => nomatch hq), r3, callOf_len⟩
  have F4 := fun_mk (st := s__law_fellow) l4 c4 k4
  have b4 := F4.binds (ps := ["deal", "place"]) fun _ _ _ _ _ _ us hl => match us, hl with | [_, _], _ => rfl
  have r4 := fnOk_of (W := W) (Pg := l.prog) (w := w) (mg := mg) (base := base) (k := 0) (G := g__law_fellow) F4 sc__law_fellow rfl ⟨q_range.up (Nat.le_of_ble_eq_true rfl), q_len.up (Nat.le_of_ble_eq_true rfl), trivial⟩ (by decide) b__law_fellow
  have q__law_fellow : GF W l.prog w K mg base 1 "_law_fellow" (GE.fn ["deal", "place"] [] C__law_fellow) := ⟨f4, _, 1, Nat.le_refl _, PySem.W.mg_of X G a4, F4.kp, b4, (fun _ hq => nomatch hq), r4, callOf_len⟩
  have F5 := fun_mk (st := s__law_is_shut) l5 c5 k5
  have b5 := F5.binds (ps := ["habit", "single", "hidden"]) fun _ _ _ _ _ _ us hl => match us, hl with | [_, _, _], _ => rfl
  have r5 := fnOk_of (W := W) (Pg := l.prog) (w := w) (mg := mg) (base := base) (k := 0) (G := g__law_is_shut) F5 sc__law_is_shut rfl trivial (by decide) b__law_is_shut
  have q__law_is_shut : GF W l.prog w K mg base 1 "_law_is_shut" (GE.fn ["habit", "single", "hidden"] [] C__law_is_shut) := ⟨f5, _, 1, Nat.le_refl _, PySem.W.mg_of X G a5, F5.kp, b5, (fun _ hq => nomatch hq), r5, callOf_len⟩
  have F6 := fun_mk (st := s__law_played) l6 c6 k6
  have b6 := F6.binds (ps := ["deal", "habit"]) fun _ _ _ _ _ _ us hl => match us, hl with | [_, _], _ => rfl
  have r6 := fnOk_of (W := W) (Pg := l.prog) (w := w) (mg := mg) (base := base) (k := 1) (G := g__law_played) F6 sc__law_played rfl ⟨q_list.up (Nat.le_of_ble_eq_true rfl), q_range.up (Nat.le_of_ble_eq_true rfl), q_len.up (Nat.le_of_ble_eq_true rfl), q__law_fellow.up (Nat.le_of_ble_eq_true rfl), q__law_is_shut.up (Nat.le_of_ble_eq_true rfl), q_sorted.up (Nat.le_of_ble_eq_true rfl), q_tuple.up (Nat.le_of_ble_eq_true rfl), trivial⟩ (by decide) b__law_played
  have q__law_played : GF W l.prog w K mg base 2 "_law_played" (GE.fn ["deal", "habit"] [] T__law_played) := ⟨f6, _, 2, Nat.le_refl _, PySem.W.mg_of X G a6, F6.kp, b6, (fun _ hq => nomatch hq), r6.imp (tab_imp to__law_played), tabC_len⟩
  have F7 := fun_mk (st := s__law_same) l7 c7 k7
  have b7 := F7.binds (ps := ["told", "due"]) fun _ _ _ _ _ _ us hl => match us, hl with | [_, _], _ => rfl
  have rr7 : ∀ i : Nat, FnOk l.prog w K mg base CX0 (0 + i) f7 (PySem.W.fnOf "_law_same" "_law_same" (defArgs s__law_same) (defBody s__law_same) (defScope s__law_same) .none kV7 dc7 pm7 an7 cd7 ct7) ["told", "due"] (spOf W 2 (C__law_same_r i)) := by
    intro i
    induction i with
    | zero => exact fn_false
    | succ i ih => exact fnOk_of (W := W) (Pg := l.prog) (w := w) (mg := mg) (base := base) (k := 0 + i) (G := g__law_same (C__law_same_r i)) F7 sc__law_same rfl ⟨q_isinstance.up (by omega), q_tuple.up (by omega), q_len.up (by omega), q_all.up (by omega), q_range.up (by omega), ⟨f7, _, 0 + i, Nat.le_refl _, PySem.W.mg_of X G a7, F7.kp, b7, (fun _ hq => nomatch hq), ih, len__law_same i⟩, q_bool.up (by omega), q_int.up (by omega), q_str.up (by omega), trivial⟩ (by decide) (b__law_same _)
  have r7 := rr7 5
  have q__law_same : GF W l.prog w K mg base 5 "_law_same" (GE.fn ["told", "due"] [] C__law_same) := ⟨f7, _, 5, Nat.le_refl _, PySem.W.mg_of X G a7, F7.kp, b7, (fun _ hq => nomatch hq), r7, len__law_same 5⟩
  have F8 := fun_mk (st := s_is_whole) l8 c8 k8
  have b8 := F8.binds (ps := ["value"]) fun _ _ _ _ _ _ us hl => match us, hl with | [_], _ => rfl
  have r8 := fnOk_of (W := W) (Pg := l.prog) (w := w) (mg := mg) (base := base) (k := 0) (G := g_is_whole) F8 sc_is_whole rfl ⟨q_isinstance.up (Nat.le_of_ble_eq_true rfl), q_int.up (Nat.le_of_ble_eq_true rfl), q_bool.up (Nat.le_of_ble_eq_true rfl), trivial⟩ (by decide) b_is_whole
  have q_is_whole : GF W l.prog w K mg base 1 "is_whole" (GE.fn ["value"] [] C_is_whole) := ⟨f8, _, 1, Nat.le_refl _, PySem.W.mg_of X G a8, F8.kp, b8, (fun _ hq => nomatch hq), r8, callOf_len⟩
  have F9 := fun_mk (st := s_is_between) l9 c9 k9
  have b9 := F9.binds (ps := ["value", "least", "most"]) fun _ _ _ _ _ _ us hl => match us, hl with | [_, _, _], _ => rfl
  have r9 := fnOk_of (W := W) (Pg := l.prog) (w := w) (mg := mg) (base := base) (k := 1) (G := g_is_between) F9 sc_is_between rfl ⟨q_is_whole.up (Nat.le_of_ble_eq_true rfl), trivial⟩ (by decide) b_is_between
  have q_is_between : GF W l.prog w K mg base 2 "is_between" (GE.fn ["value", "least", "most"] [] C_is_between) := ⟨f9, _, 2, Nat.le_refl _, PySem.W.mg_of X G a9, F9.kp, b9, (fun _ hq => nomatch hq), r9, callOf_len⟩
  have F10 := fun_mk (st := s_check_number) l10 c10 k10
  have b10 := F10.binds (ps := ["number", "least", "most"]) fun _ _ _ _ _ _ us hl => match us, hl with | [_, _, _], _ => rfl
  have r10 := fnOk_of (W := W) (Pg := l.prog) (w := w) (mg := mg) (base := base) (k := 2) (G := g_check_number) F10 sc_check_number rfl ⟨q_is_between.up (Nat.le_of_ble_eq_true rfl), trivial⟩ (by decide) b_check_number
  have q_check_number : GF W l.prog w K mg base 3 "check_number" (GE.fn ["number", "least", "most"] [] C_check_number) := ⟨f10, _, 3, Nat.le_refl _, PySem.W.mg_of X G a10, F10.kp, b10, (fun _ hq => nomatch hq), r10, callOf_len⟩
  have F11 := fun_mk (st := s_check_few) l11 c11 k11
  have b11 := F11.binds (ps := ["number"]) fun _ _ _ _ _ _ us hl => match us, hl with | [_], _ => rfl
  have r11 := fnOk_of (W := W) (Pg := l.prog) (w := w) (mg := mg) (base := base) (k := 3) (G := g_check_few) F11 sc_check_few rfl ⟨q_check_number.up (Nat.le_of_ble_eq_true rfl), q_MOST_KINDS.up (Nat.le_of_ble_eq_true rfl), q_MOST_DEALT.up (Nat.le_of_ble_eq_true rfl), trivial⟩ (by decide) b_check_few
  have q_check_few : GF W l.prog w K mg base 4 "check_few" (GE.fn ["number"] [] C_check_few) := ⟨f11, _, 4, Nat.le_refl _, PySem.W.mg_of X G a11, F11.kp, b11, (fun _ hq => nomatch hq), r11, callOf_len⟩
  have F12 := fun_mk (st := s_is_one_of) l12 c12 k12
  have b12 := F12.binds (ps := ["value", "words"]) fun _ _ _ _ _ _ us hl => match us, hl with | [_, _], _ => rfl
  have r12 := fnOk_of (W := W) (Pg := l.prog) (w := w) (mg := mg) (base := base) (k := 0) (G := g_is_one_of) F12 sc_is_one_of rfl ⟨q_isinstance.up (Nat.le_of_ble_eq_true rfl), q_str.up (Nat.le_of_ble_eq_true rfl), trivial⟩ (by decide) b_is_one_of
  have q_is_one_of : GF W l.prog w K mg base 1 "is_one_of" (GE.fn ["value", "words"] [] C_is_one_of) := ⟨f12, _, 1, Nat.le_refl _, PySem.W.mg_of X G a12, F12.kp, b12, (fun _ hq => nomatch hq), r12, callOf_len⟩
  have F13 := fun_mk (st := s_check_habit) l13 c13 k13
  have b13 := F13.binds (ps := ["habit"]) fun _ _ _ _ _ _ us hl => match us, hl with | [_], _ => rfl
  have r13 := fnOk_of (W := W) (Pg := l.prog) (w := w) (mg := mg) (base := base) (k := 1) (G := g_check_habit) F13 sc_check_habit rfl ⟨q_is_one_of.up (Nat.le_of_ble_eq_true rfl), q_HABITS.up (Nat.le_of_ble_eq_true rfl), trivial⟩ (by decide) b_check_habit
  have q_check_habit : GF W l.prog w K mg base 2 "check_habit" (GE.fn ["habit"] [] C_check_habit) := ⟨f13, _, 2, Nat.le_refl _, PySem.W.mg_of X G a13, F13.kp, b13, (fun _ hq => nomatch hq), r13, callOf_len⟩
  have F14 := fun_mk (st := s_deals_of) l14 c14 k14
  have b14 := F14.binds (ps := ["number"]) fun _ _ _ _ _ _ us hl => match us, hl with | [_], _ => rfl
  have r14 := fnOk_of (W := W) (Pg := l.prog) (w := w) (mg := mg) (base := base) (k := 0) (G := g_deals_of) F14 sc_deals_of rfl ⟨q_range.up (Nat.le_of_ble_eq_true rfl), q_KINDS.up (Nat.le_of_ble_eq_true rfl), trivial⟩ (by decide) b_deals_of
  have q_deals_of : GF W l.prog w K mg base 1 "deals_of" (GE.fn ["number"] [] C_deals_of) := ⟨f14, _, 1, Nat.le_refl _, PySem.W.mg_of X G a14, F14.kp, b14, (fun _ hq => nomatch hq), r14, callOf_len⟩
  have F15 := fun_mk (st := s_fellow_of) l15 c15 k15
  have b15 := F15.binds (ps := ["deal", "place"]) fun _ _ _ _ _ _ us hl => match us, hl with | [_, _], _ => rfl
  have r15 := fnOk_of (W := W) (Pg := l.prog) (w := w) (mg := mg) (base := base) (k := 0) (G := g_fellow_of) F15 sc_fellow_of rfl ⟨q_enumerate.up (Nat.le_of_ble_eq_true rfl), trivial⟩ (by decide) b_fellow_of
  have q_fellow_of : GF W l.prog w K mg base 1 "fellow_of" (GE.fn ["deal", "place"] [] C_fellow_of) := ⟨f15, _, 1, Nat.le_refl _, PySem.W.mg_of X G a15, F15.kp, b15, (fun _ hq => nomatch hq), r15, callOf_len⟩
  have F16 := fun_mk (st := s_ready_in) l16 c16 k16
  have b16 := F16.binds (ps := ["deal", "seen"]) fun _ _ _ _ _ _ us hl => match us, hl with | [_, _], _ => rfl
  have r16 := fnOk_of (W := W) (Pg := l.prog) (w := w) (mg := mg) (base := base) (k := 1) (G := g_ready_in) F16 sc_ready_in rfl ⟨q_fellow_of.up (Nat.le_of_ble_eq_true rfl), trivial⟩ (by decide) b_ready_in
  have q_ready_in : GF W l.prog w K mg base 2 "ready_in" (GE.fn ["deal", "seen"] [] C_ready_in) := ⟨f16, _, 2, Nat.le_refl _, PySem.W.mg_of X G a16, F16.kp, b16, (fun _ hq => nomatch hq), r16, callOf_len⟩
  have F17 := fun_mk (st := s_shut_of) l17 c17 k17
  have b17 := F17.binds (ps := ["deal", "seen", "gone"]) fun _ _ _ _ _ _ us hl => match us, hl with | [_, _, _], _ => rfl
  have r17 := fnOk_of (W := W) (Pg := l.prog) (w := w) (mg := mg) (base := base) (k := 0) (G := g_shut_of) F17 sc_shut_of rfl ⟨q_range.up (Nat.le_of_ble_eq_true rfl), q_len.up (Nat.le_of_ble_eq_true rfl), trivial⟩ (by decide) b_shut_of
  have q_shut_of : GF W l.prog w K mg base 1 "shut_of" (GE.fn ["deal", "seen", "gone"] [] C_shut_of) := ⟨f17, _, 1, Nat.le_refl _, PySem.W.mg_of X G a17, F17.kp, b17, (fun _ hq => nomatch hq), r17, callOf_len⟩
  have F18 := fun_mk (st := s_second_of) l18 c18 k18
  have b18 := F18.binds (ps := ["shut", "singles", "habit"]) fun _ _ _ _ _ _ us hl => match us, hl with | [_, _, _], _ => rfl
  have r18 := fnOk_of (W := W) (Pg := l.prog) (w := w) (mg := mg) (base := base) (k := 0) (G := g_second_of) F18 sc_second_of rfl ⟨q_OPEN.up (Nat.le_of_ble_eq_true rfl), q_TURNS.up (Nat.le_of_ble_eq_true rfl), q_len.up (Nat.le_of_ble_eq_true rfl), trivial⟩ (by decide) b_second_of
  have q_second_of : GF W l.prog w K mg base 1 "second_of" (GE.fn ["shut", "singles", "habit"] [] C_second_of) := ⟨f18, _, 1, Nat.le_refl _, PySem.W.mg_of X G a18, F18.kp, b18, (fun _ hq => nomatch hq), r18, callOf_len⟩
  have F19 := fun_mk (st := s_singles_in) l19 c19 k19
  have b19 := F19.binds (ps := ["deal", "seen"]) fun _ _ _ _ _ _ us hl => match us, hl with | [_, _], _ => rfl
  have r19 := fnOk_of (W := W) (Pg := l.prog) (w := w) (mg := mg) (base := base) (k := 1) (G := g_singles_in) F19 sc_singles_in rfl ⟨q_fellow_of.up (Nat.le_of_ble_eq_true rfl), trivial⟩ (by decide) b_singles_in
  have q_singles_in : GF W l.prog w K mg base 2 "singles_in" (GE.fn ["deal", "seen"] [] C_singles_in) := ⟨f19, _, 2, Nat.le_refl _, PySem.W.mg_of X G a19, F19.kp, b19, (fun _ hq => nomatch hq), r19, callOf_len⟩
  have F20 := fun_mk (st := s_next_by) l20 c20 k20
  have b20 := F20.binds (ps := ["deal", "seen", "gone", "habit"]) fun _ _ _ _ _ _ us hl => match us, hl with | [_, _, _, _], _ => rfl
  have r20 := fnOk_of (W := W) (Pg := l.prog) (w := w) (mg := mg) (base := base) (k := 2) (G := g_next_by) F20 sc_next_by rfl ⟨q_ready_in.up (Nat.le_of_ble_eq_true rfl), q_shut_of.up (Nat.le_of_ble_eq_true rfl), q_fellow_of.up (Nat.le_of_ble_eq_true rfl), q_second_of.up (Nat.le_of_ble_eq_true rfl), q_singles_in.up (Nat.le_of_ble_eq_true rfl), trivial⟩ (by decide) b_next_by
  have q_next_by : GF W l.prog w K mg base 3 "next_by" (GE.fn ["deal", "seen", "gone", "habit"] [] C_next_by) := ⟨f20, _, 3, Nat.le_refl _, PySem.W.mg_of X G a20, F20.kp, b20, (fun _ hq => nomatch hq), r20, callOf_len⟩
  have F21 := fun_mk (st := s_behind_turn) l21 c21 k21
  have b21 := F21.binds (ps := ["deal", "seen", "gone", "pair"]) fun _ _ _ _ _ _ us hl => match us, hl with | [_, _, _, _], _ => rfl
  have r21 := fnOk_of (W := W) (Pg := l.prog) (w := w) (mg := mg) (base := base) (k := 0) (G := g_behind_turn) F21 sc_behind_turn rfl ⟨q_tuple.up (Nat.le_of_ble_eq_true rfl), q_sorted.up (Nat.le_of_ble_eq_true rfl), trivial⟩ (by decide) b_behind_turn
  have q_behind_turn : GF W l.prog w K mg base 1 "behind_turn" (GE.fn ["deal", "seen", "gone", "pair"] [] C_behind_turn) := ⟨f21, _, 1, Nat.le_refl _, PySem.W.mg_of X G a21, F21.kp, b21, (fun _ hq => nomatch hq), r21, callOf_len⟩
  have F22 := fun_mk (st := s_played_by) l22 c22 k22
  have b22 := F22.binds (ps := ["deal", "habit"]) fun _ _ _ _ _ _ us hl => match us, hl with | [_, _], _ => rfl
  have r22 := fnOk_of (W := W) (Pg := l.prog) (w := w) (mg := mg) (base := base) (k := 3) (G := g_played_by) F22 sc_played_by rfl ⟨q_next_by.up (Nat.le_of_ble_eq_true rfl), q_behind_turn.up (Nat.le_of_ble_eq_true rfl), trivial⟩ (by decide) b_played_by
  have q_played_by : GF W l.prog w K mg base 4 "played_by" (GE.fn ["deal", "habit"] [] T_played_by) := ⟨f22, _, 4, Nat.le_refl _, PySem.W.mg_of X G a22, F22.kp, b22, (fun _ hq => nomatch hq), r22.imp (tab_imp to_played_by), tabC_len⟩
  have F23 := fun_mk (st := s_counted_by) l23 c23 k23
  have b23 := F23.binds (ps := ["number", "habit"]) fun _ _ _ _ _ _ us hl => match us, hl with | [_, _], _ => rfl
  have r23 := fnOk_of (W := W) (Pg := l.prog) (w := w) (mg := mg) (base := base) (k := 4) (G := g_counted_by) F23 sc_counted_by rfl ⟨q_deals_of.up (Nat.le_of_ble_eq_true rfl), q_len.up (Nat.le_of_ble_eq_true rfl), q_played_by.up (Nat.le_of_ble_eq_true rfl), q_tuple.up (Nat.le_of_ble_eq_true rfl), q_range.up (Nat.le_of_ble_eq_true rfl), q_max.up (Nat.le_of_ble_eq_true rfl), trivial⟩ (by decide) b_counted_by
  have q_counted_by : GF W l.prog w K mg base 5 "counted_by" (GE.fn ["number", "habit"] [] C_counted_by) := ⟨f23, _, 5, Nat.le_refl _, PySem.W.mg_of X G a23, F23.kp, b23, (fun _ hq => nomatch hq), r23, callOf_len⟩
  have F24 := fun_mk (st := s_counted) l24 c24 k24
  have b24 := F24.binds (ps := ["number", "habit"]) fun _ _ _ _ _ _ us hl => match us, hl with | [_, _], _ => rfl
  have r24 := fnOk_of (W := W) (Pg := l.prog) (w := w) (mg := mg) (base := base) (k := 5) (G := g_counted) F24 sc_counted rfl ⟨q_check_few.up (Nat.le_of_ble_eq_true rfl), q_check_habit.up (Nat.le_of_ble_eq_true rfl), q_counted_by.up (Nat.le_of_ble_eq_true rfl), trivial⟩ (by decide) b_counted
  have q_counted : GF W l.prog w K mg base 6 "counted" (GE.fn ["number", "habit"] [(["habit", "number"], [1, 0])] T_counted) := ⟨f24, _, 6, Nat.le_refl _, PySem.W.mg_of X G a24, F24.kp, b24, (one_kw (kwOk_of F24 (ps := ["number", "habit"]) (ks := ["habit", "number"]) (ix := [1, 0]) rfl fun _ _ _ _ _ _ us hl => match us, hl with | [_, _], _ => ⟨rfl, rfl⟩)), r24.imp (tab_imp to_counted), tabC_len⟩
  have F25 := fun_mk (st := s_many_deals) l25 c25 k25
  have b25 := F25.binds (ps := ["number"]) fun _ _ _ _ _ _ us hl => match us, hl with | [_], _ => rfl
  have r25 := fnOk_of (W := W) (Pg := l.prog) (w := w) (mg := mg) (base := base) (k := 0) (G := g_many_deals) F25 sc_many_deals rfl ⟨q_range.up (Nat.le_of_ble_eq_true rfl), trivial⟩ (by decide) b_many_deals
  have q_many_deals : GF W l.prog w K mg base 1 "many_deals" (GE.fn ["number"] [] C_many_deals) := ⟨f25, _, 1, Nat.le_refl _, PySem.W.mg_of X G a25, F25.kp, b25, (fun _ hq => nomatch hq), r25, callOf_len⟩
  have F26 := fun_mk (st := s_how_many_deals) l26 c26 k26
  have b26 := F26.binds (ps := ["number"]) fun _ _ _ _ _ _ us hl => match us, hl with | [_], _ => rfl
  have r26 := fnOk_of (W := W) (Pg := l.prog) (w := w) (mg := mg) (base := base) (k := 3) (G := g_how_many_deals) F26 sc_how_many_deals rfl ⟨q_check_number.up (Nat.le_of_ble_eq_true rfl), q_MOST_KINDS.up (Nat.le_of_ble_eq_true rfl), q_many_deals.up (Nat.le_of_ble_eq_true rfl), trivial⟩ (by decide) b_how_many_deals
  have q_how_many_deals : GF W l.prog w K mg base 4 "how_many_deals" (GE.fn ["number"] [] C_how_many_deals) := ⟨f26, _, 4, Nat.le_refl _, PySem.W.mg_of X G a26, F26.kp, b26, (fun _ hq => nomatch hq), r26, callOf_len⟩
  have F27 := fun_mk (st := s__law_right) l27 c27 k27
  have b27 := F27.binds (ps := ["bowl"]) fun _ _ _ _ _ _ us hl => match us, hl with | [_], _ => rfl
  have r27 := fnOk_of (W := W) (Pg := l.prog) (w := w) (mg := mg) (base := base) (k := 6) (G := g__law_right) F27 sc__law_right rfl ⟨q__law_draw.up (Nat.le_of_ble_eq_true rfl), q__law_of.up (Nat.le_of_ble_eq_true rfl), q__law_counted.up (Nat.le_of_ble_eq_true rfl), q__law_deals.up (Nat.le_of_ble_eq_true rfl), q_len.up (Nat.le_of_ble_eq_true rfl), q__law_played.up (Nat.le_of_ble_eq_true rfl), q__law_same.up (Nat.le_of_ble_eq_true rfl), q_counted.up (Nat.le_of_ble_eq_true rfl), q_sum.up (Nat.le_of_ble_eq_true rfl), q_how_many_deals.up (Nat.le_of_ble_eq_true rfl), trivial⟩ (by decide) b__law_right
  have q__law_right : GF W l.prog w K mg base 7 "_law_right" (GE.fn ["bowl"] [] rightC) := ⟨f27, _, 7, Nat.le_refl _, PySem.W.mg_of X G a27, F27.kp, b27, (fun _ hq => nomatch hq), r27.imp (right_imp right_ok), rightC_len⟩
  have F28 := fun_mk (st := s__law_bowl) l28 c28 k28
  have b28 := F28.binds (ps := ["script", "lap"]) fun _ _ _ _ _ _ us hl => match us, hl with | [_, _], _ => rfl
  have r28 := fnOk_ofG (W := W) (Pg := l.prog) (w := w) (mg := mg) (base := base) (k := 0) (G := g__law_bowl) F28 sc__law_bowl rfl ⟨q_int.up (Nat.le_of_ble_eq_true rfl), q_len.up (Nat.le_of_ble_eq_true rfl), q_abs.up (Nat.le_of_ble_eq_true rfl), trivial⟩ (by decide) b__law_bowl
  have q__law_bowl : GF W l.prog w K mg base 1 "_law_bowl" (GE.fnG ["script", "lap"] bowlC) := ⟨f28, _, 1, Nat.le_refl _, PySem.W.mg_of X G a28, F28.kp, b28, r28.imp bowl_imp, bowlC_len⟩
  have F29 := fun_mk (st := s_law) l29 c29 k29
  have r29 := fnOk_of (W := W) (Pg := l.prog) (w := w) (mg := mg) (base := base) (k := 7) (G := g_law) F29 sc_law rfl ⟨q_all.up (Nat.le_of_ble_eq_true rfl), q_range.up (Nat.le_of_ble_eq_true rfl), q_max.up (Nat.le_of_ble_eq_true rfl), q_min.up (Nat.le_of_ble_eq_true rfl), q_len.up (Nat.le_of_ble_eq_true rfl), q__law_right.up (Nat.le_of_ble_eq_true rfl), q__law_bowl.up (Nat.le_of_ble_eq_true rfl), trivial⟩ (by decide) b_law
  exact r29
end
end K54
open PySem PySem.W PyProof.Rows
set_option maxHeartbeats 0 in
theorem PySem.Challenge.cw_turnedpairs_k54_whole_deals_counted_holds : PySem.Challenge.rw_turnedpairs_k54_whole_deals_counted.Holds := by
  w_on; o_law; k_head; (case hw => w_witness2)
  k_fill
  refine L2.walk_of (l := PySem.Challenge.rw_turnedpairs_k54_whole_deals_counted) (n := 63) (k := 8) (x := "script") (CX := fun _ => L2.CX0) (sp := fun w => MP.spOf ⟨_, [], []⟩ 1 (MP.callOf 1 2 MP.lawB)) rfl (by decide) rfl ⟨rfl, by decide, by decide⟩ (fun w h Y => PySem.W.kIn_of Y) ?F (fun _ H a ns hl hO hS => MP.law_sp rfl hl hO hS) (fun _ _ _ _ _ h => h)
  case F =>
    intro w mg fa h KX G hmg
    refine' K54.all_mk KX G hmg ?a0 ?l0 ?c0 ?k0 ?a1 ?l1 ?c1 ?k1 ?a2 ?l2 ?c2 ?k2 ?a3 ?l3 ?c3 ?k3 ?a4 ?l4 ?c4 ?k4 ?a5 ?l5 ?c5 ?k5 ?a6 ?l6 ?c6 ?k6 ?a7 ?l7 ?c7 ?k7 ?a8 ?l8 ?c8 ?k8 ?a9 ?l9 ?c9 ?k9 ?a10 ?l10 ?c10 ?k10 ?a11 ?l11 ?c11 ?k11 ?a12 ?l12 ?c12 ?k12 ?a13 ?l13 ?c13 ?k13 ?a14 ?l14 ?c14 ?k14 ?a15 ?l15 ?c15 ?k15 ?a16 ?l16 ?c16 ?k16 ?a17 ?l17 ?c17 ?k17 ?a18 ?l18 ?c18 ?k18 ?a19 ?l19 ?c19 ?k19 ?a20 ?l20 ?c20 ?k20 ?a21 ?l21 ?c21 ?k21 ?a22 ?l22 ?c22 ?k22 ?a23 ?l23 ?c23 ?k23 ?a24 ?l24 ?c24 ?k24 ?a25 ?l25 ?c25 ?k25 ?a26 ?l26 ?c26 ?k26 ?a27 ?l27 ?c27 ?k27 ?a28 ?l28 ?c28 ?k28 ?a29 ?l29 ?c29 ?k29 ?z0 ?z1 ?z2 ?z3 ?z4 ?z5 ?z6 ?z7 ?z8 ?z9 ?z10 ?z11 ?z12 ?z13 ?z14 ?z15 ?u0 ?u1 ?u2 ?v2 ?x2 ?u3 ?v3 ?x3 ?u4 ?u5
    (case a0 => k_is); (case l0 => k_is); (case c0 => k_is); (case k0 => k_is); (case a1 => k_is); (case l1 => k_is); (case c1 => k_is); (case k1 => k_is); (case a2 => k_is); (case l2 => k_is); (case c2 => k_is); (case k2 => k_is); (case a3 => k_is); (case l3 => k_is); (case c3 => k_is); (case k3 => k_is); (case a4 => k_is); (case l4 => k_is); (case c4 => k_is); (case k4 => k_is); (case a5 => k_is); (case l5 => k_is); (case c5 => k_is); (case k5 => k_is); (case a6 => k_is); (case l6 => k_is); (case c6 => k_is); (case k6 => k_is); (case a7 => k_is); (case l7 => k_is); (case c7 => k_is); (case k7 => k_is); (case a8 => k_is); (case l8 => k_is); (case c8 => k_is); (case k8 => k_is); (case a9 => k_is); (case l9 => k_is); (case c9 => k_is); (case k9 => k_is); (case a10 => k_is); (case l10 => k_is); (case c10 => k_is); (case k10 => k_is); (case a11 => k_is); (case l11 => k_is); (case c11 => k_is); (case k11 => k_is); (case a12 => k_is); (case l12 => k_is); (case c12 => k_is); (case k12 => k_is); (case a13 => k_is); (case l13 => k_is); (case c13 => k_is); (case k13 => k_is); (case a14 => k_is); (case l14 => k_is); (case c14 => k_is); (case k14 => k_is); (case a15 => k_is); (case l15 => k_is); (case c15 => k_is); (case k15 => k_is); (case a16 => k_is); (case l16 => k_is); (case c16 => k_is); (case k16 => k_is); (case a17 => k_is); (case l17 => k_is); (case c17 => k_is); (case k17 => k_is); (case a18 => k_is); (case l18 => k_is); (case c18 => k_is); (case k18 => k_is); (case a19 => k_is); (case l19 => k_is); (case c19 => k_is); (case k19 => k_is); (case a20 => k_is); (case l20 => k_is); (case c20 => k_is); (case k20 => k_is); (case a21 => k_is); (case l21 => k_is); (case c21 => k_is); (case k21 => k_is); (case a22 => k_is); (case l22 => k_is); (case c22 => k_is); (case k22 => k_is); (case a23 => k_is); (case l23 => k_is); (case c23 => k_is); (case k23 => k_is); (case a24 => k_is); (case l24 => k_is); (case c24 => k_is); (case k24 => k_is); (case a25 => k_is); (case l25 => k_is); (case c25 => k_is); (case k25 => k_is); (case a26 => k_is); (case l26 => k_is); (case c26 => k_is); (case k26 => k_is); (case a27 => k_is); (case l27 => k_is); (case c27 => k_is); (case k27 => k_is); (case a28 => k_is); (case l28 => k_is); (case c28 => k_is); (case k28 => k_is); (case a29 => k_is); (case l29 => k_is); (case c29 => k_is); (case k29 => k_is); (case z0 => k_is); (case z1 => k_is); (case z2 => k_is); (case z3 => k_is); (case z4 => k_is); (case z5 => k_is); (case z6 => k_is); (case z7 => k_is); (case z8 => k_is); (case z9 => k_is); (case z10 => k_is); (case z11 => k_is); (case z12 => k_is); (case z13 => k_is); (case z14 => k_is); (case z15 => k_is); (case u0 => k_is); (case u1 => k_is); (case u2 => k_is); (case v2 => k_is); (case x2 => exact .cons ⟨_, rfl⟩ (.cons ⟨_, rfl⟩ (.cons ⟨_, rfl⟩ (.nil)))); (case u3 => k_is); (case v3 => k_is); (case x3 => exact .cons ⟨_, rfl⟩ (.cons ⟨_, rfl⟩ (.cons ⟨_, rfl⟩ (.cons ⟨_, rfl⟩ (.cons ⟨_, rfl⟩ (.cons ⟨_, rfl⟩ (.cons ⟨_, rfl⟩ (.cons ⟨_, rfl⟩ (.nil))))))))); (case u4 => k_is); (case u5 => k_is)

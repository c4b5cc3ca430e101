import PyProof.Rows.All
import Wide.All
import OpenK.AllK
import Wide.FinOn
import HandS.Base
import HandS.Call
import HandS.List
import HandS.Dict
import HandS.Words
import HandS.ForMost
import HandS.Exc
import HandS.TryOnly
import HandS.TryMany
import HandS.WordsExc
import HandS.CallSlots
import HandS.Walk
import HandS.FStr
import HandS.TupAny
import HandS.Deep
import HandS.Wide
import HandS.Style
import KE.KDictKeyed
import HandS.IsInst
import HandS.More
import HandS.ExcOwn
import KE.GoesMore
import HandS.Ends
import HandS.HeadEnd
import HandS.Defaults
import HandS.Text
import HandS.Head0
import HandS.Head1
import HandS.Head2
import HandS.HeadHook1
import HandS.HeadHook2
import HandS.HeadHook3
import HandS.HeadHook4
import PySem.Challenge.RW_tidehold_k93_outlines
section
set_option Elab.async false
set_option linter.all false
set_option maxRecDepth 100000
set_option autoImplicit false
/-! MpA: data as trees (P), values (W), cells; how they lie in the abstract heap; the step from one state to the next. -/
namespace Mp
open PySem PySem.Spec PyProof.Rows L2

/-- data as a whole -/
inductive P where
  | non | bl (b : Bool) | int (i : Int) | str (s : Str) | tup (ds : List P) | lst (ds : List P) | fro (ds : List P) | dic (ks vs : List P)

/-- a value: data, or an object of the store -/
inductive W where
  | p (d : P) | o (id : Nat)

/-- what an object of the store holds -/
inductive Cell where
  | lst (ws : List W) | dic (ks : List P) (ws : List W) | ins (c : Str) (fs : List (Str × W)) | fz (d : P) | dead

abbrev Store := List Cell
def Cell.live : Cell → Bool
  | .lst _ => true
  | .dic _ _ => true
  | .ins _ _ => true
  | _ => false

def keyP : Key → P
  | .inl i => .int i
  | .inr s => .str s

mutual
/-- the key that a datum is in a dict with tuple keys -/
def nk : P → Option NestedKey
  | .non => some .none
  | .bl b => some (.num (if b then 1 else 0))
  | .int i => some (.num i)
  | .str s => some (.text s)
  | .tup ds => (nks ds).map .tup
  | _ => none
def nks : List P → Option (List NestedKey)
  | [] => some []
  | d :: ds => match nk d, nks ds with
    | some k, some r => some (k :: r)
    | _, _ => none
end

section
variable (Pr : Program) (w : World)
/-- a dict with tuple keys, its object alone -/
def phiN (a : Addr) (l : List (NestedKey × Addr × V)) (h : Heap) : Prop :=
  l.length ≤ sizeLine ∧ (a == sysModules) = false ∧ (l.map (·.1)).Nodup ∧ ∃ xs : List (NestedKey × Addr × Value), Paired (fun (p : NestedKey × Addr × V) (q : NestedKey × Addr × Value) => p.1 = q.1 ∧ p.2.1 = q.2.1 ∧ RelV p.2.2 q.2.2) l xs ∧
    ∃ o es ep, h.get? a = some o ∧ o.ExactDict ∧ o.data = .dict es ep ∧ es.toList = xs.map (entryOfKey (nestedKind Pr w))
end

/-- what is fixed through a law -/
structure Fx where
  Pr : Program
  w : World
  K : PySem.W.Frag
  mg : Str → Option Value
  base : Heap

section
variable (F : Fx) (G : Hp)
mutual
def Is : P → V → Prop
  | .non, v => v = .non
  | .bl b, v => v = .bl b
  | .int i, v => v = .int i
  | .str s, v => v = .str s
  | .tup ds, v => ∃ a vs, v = .ref a ∧ SqT F.K G a vs ∧ IsL ds vs
  | .lst ds, v => ∃ a vs, v = .ref a ∧ G a = some (.lst vs) ∧ IsL ds vs
  | .fro ds, v => ∃ a vs, v = .ref a ∧ SqL F.K G a vs ∧ IsL ds vs
  | .dic ks ds, v => ∃ a, v = .ref a ∧ ((∃ l : List (Key × V), G a = some (.dK l) ∧ l.map (fun p => keyP p.1) = ks ∧ IsL ds (l.map (·.2))) ∨
      ∃ l : List (NestedKey × Addr × V), G a = some (.ext (phiN F.Pr F.w a l)) ∧ nks ks = some (l.map (·.1)) ∧ IsL ks (l.map fun x => .ref x.2.1) ∧ IsL ds (l.map (·.2.2)))
def IsL : List P → List V → Prop
  | [], vs => vs = []
  | d :: ds, vs => ∃ v r, vs = v :: r ∧ Is d v ∧ IsL ds r
end
/-- n: how many objects the store has -/
def IsW (m : Nat → Addr) (n : Nat) : W → V → Prop
  | .p d, v => Is F G d v
  | .o id, v => id < n ∧ v = .ref (m id)
def IsWL (m : Nat → Addr) (n : Nat) : List W → List V → Prop
  | [], vs => vs = []
  | d :: ds, vs => ∃ v r, vs = v :: r ∧ IsW F G m n d v ∧ IsWL m n ds r
/-- fields, aligned -/
def FsIs (m : Nat → Addr) (n : Nat) : List (Str × W) → List (Str × V) → Prop
  | [], vs => vs = []
  | p :: ps, vs => ∃ v r, vs = (p.1, v) :: r ∧ IsW F G m n p.2 v ∧ FsIs m n ps r
end

theorem rd_mono {G G' : Hp} {a : Addr} {u : HO} (e : Same G G') (h : Rd G a u) : Rd G' a u := by
  rcases h with h | ⟨o, h⟩
  · exact .inl (e a _ h)
  · exact .inr ⟨o, e a _ h⟩
theorem sqL_mono {K : PySem.W.Frag} {G G' : Hp} {a : Addr} {xs : List V} (e : Same G G') (h : SqL K G a xs) : SqL K G' a xs := e.seq h
theorem sqT_mono {K : PySem.W.Frag} {G G' : Hp} {a : Addr} {xs : List V} (e : Same G G') (h : SqT K G a xs) : SqT K G' a xs := by
  rcases h with h | h
  · exact .inl (rd_mono e h)
  · exact .inr h

section
variable {F : Fx} {G G' : Hp}
mutual
theorem Is.mono (e : Same G G') : ∀ {d : P} {v : V}, Is F G d v → Is F G' d v
  | .non, _, h => h
  | .bl _, _, h => h
  | .int _, _, h => h
  | .str _, _, h => h
  | .tup ds, v, h => by
    simp only [Is] at h ⊢
    obtain ⟨a, vs, e1, e2, e3⟩ := h
    exact ⟨a, vs, e1, sqT_mono e e2, IsL.mono e e3⟩
  | .lst ds, v, h => by
    simp only [Is] at h ⊢
    obtain ⟨a, vs, e1, e2, e3⟩ := h
    exact ⟨a, vs, e1, e _ _ e2, IsL.mono e e3⟩
  | .fro ds, v, h => by
    simp only [Is] at h ⊢
    obtain ⟨a, vs, e1, e2, e3⟩ := h
    exact ⟨a, vs, e1, sqL_mono e e2, IsL.mono e e3⟩
  | .dic ks ds, v, h => by
    simp only [Is] at h ⊢
    obtain ⟨a, e1, h⟩ := h
    refine ⟨a, e1, ?_⟩
    rcases h with ⟨l, h1, h2, h3⟩ | ⟨l, h1, h2, h3, h4⟩
    · exact .inl ⟨l, e _ _ h1, h2, IsL.mono e h3⟩
    · exact .inr ⟨l, e _ _ h1, h2, IsL.mono e h3, IsL.mono e h4⟩
theorem IsL.mono (e : Same G G') : ∀ {ds : List P} {vs : List V}, IsL F G ds vs → IsL F G' ds vs
  | [], _, h => h
  | d :: ds, vs, h => by
    simp only [IsL] at h ⊢
    obtain ⟨v, r, h1, h2, h3⟩ := h
    exact ⟨v, r, h1, Is.mono e h2, IsL.mono e h3⟩
end
variable {m m' : Nat → Addr} {n n' : Nat}
theorem IsW.mono (e : Same G G') (hn : n ≤ n') (hm : ∀ i, i < n → m' i = m i) : ∀ {d : W} {v : V}, IsW F G m n d v → IsW F G' m' n' d v
  | .p _, _, h => Is.mono e (show Is F G _ _ from h)
  | .o id, v, h => by
    obtain ⟨h1, h2⟩ := (show id < n ∧ v = .ref (m id) from h)
    exact ⟨Nat.lt_of_lt_of_le h1 hn, by rw [h2, hm id h1]⟩
theorem IsWL.mono (e : Same G G') (hn : n ≤ n') (hm : ∀ i, i < n → m' i = m i) : ∀ {ds : List W} {vs : List V}, IsWL F G m n ds vs → IsWL F G' m' n' ds vs
  | [], _, h => h
  | d :: ds, vs, h => by
    simp only [IsWL] at h ⊢
    obtain ⟨v, r, h1, h2, h3⟩ := h
    exact ⟨v, r, h1, IsW.mono e hn hm h2, IsWL.mono e hn hm h3⟩
theorem FsIs.mono (e : Same G G') (hn : n ≤ n') (hm : ∀ i, i < n → m' i = m i) : ∀ {ds : List (Str × W)} {vs : List (Str × V)}, FsIs F G m n ds vs → FsIs F G' m' n' ds vs
  | [], _, h => h
  | d :: ds, vs, h => by
    simp only [FsIs] at h ⊢
    obtain ⟨v, r, h1, h2, h3⟩ := h
    exact ⟨v, r, h1, IsW.mono e hn hm h2, FsIs.mono e hn hm h3⟩
theorem IsL.length : ∀ {ds : List P} {vs : List V}, IsL F G ds vs → vs.length = ds.length
  | [], _, h => by simp only [IsL] at h; rw [h]; rfl
  | d :: ds, vs, h => by
    simp only [IsL] at h
    obtain ⟨v, r, h1, _, h3⟩ := h
    rw [h1, List.length_cons, List.length_cons, IsL.length h3]
theorem IsWL.length : ∀ {ds : List W} {vs : List V}, IsWL F G m n ds vs → vs.length = ds.length
  | [], _, h => by simp only [IsWL] at h; rw [h]; rfl
  | d :: ds, vs, h => by
    simp only [IsWL] at h
    obtain ⟨v, r, h1, _, h3⟩ := h
    rw [h1, List.length_cons, List.length_cons, IsWL.length h3]
theorem IsL.append : ∀ {ds es : List P} {vs us : List V}, IsL F G ds vs → IsL F G es us → IsL F G (ds ++ es) (vs ++ us)
  | [], es, _, us, h, h' => by simp only [IsL] at h; rw [h]; exact h'
  | d :: ds, es, vs, us, h, h' => by
    simp only [IsL] at h
    obtain ⟨v, r, h1, h2, h3⟩ := h
    subst h1
    simp only [List.cons_append, IsL]
    exact ⟨v, _, rfl, h2, IsL.append h3 h'⟩
theorem IsWL.append : ∀ {ds es : List W} {vs us : List V}, IsWL F G m n ds vs → IsWL F G m n es us → IsWL F G m n (ds ++ es) (vs ++ us)
  | [], es, _, us, h, h' => by simp only [IsWL] at h; rw [h]; exact h'
  | d :: ds, es, vs, us, h, h' => by
    simp only [IsWL] at h
    obtain ⟨v, r, h1, h2, h3⟩ := h
    subst h1
    simp only [List.cons_append, IsWL]
    exact ⟨v, _, rfl, h2, IsWL.append h3 h'⟩
theorem IsL.get : ∀ {ds : List P} {vs : List V} {i : Nat} {d : P}, IsL F G ds vs → ds[i]? = some d → ∃ v, vs[i]? = some v ∧ Is F G d v
  | [], _, _, _, _, e => by simp at e
  | d :: ds, vs, i, d', h, e => by
    simp only [IsL] at h
    obtain ⟨v, r, h1, h2, h3⟩ := h
    subst h1
    cases i with
    | zero =>
      simp at e
      subst e
      exact ⟨v, rfl, h2⟩
    | succ i =>
      obtain ⟨u, g1, g2⟩ := IsL.get (i := i) h3 (by simpa using e)
      exact ⟨u, by simpa using g1, g2⟩
theorem IsWL.get : ∀ {ds : List W} {vs : List V} {i : Nat} {d : W}, IsWL F G m n ds vs → ds[i]? = some d → ∃ v, vs[i]? = some v ∧ IsW F G m n d v
  | [], _, _, _, _, e => by simp at e
  | d :: ds, vs, i, d', h, e => by
    simp only [IsWL] at h
    obtain ⟨v, r, h1, h2, h3⟩ := h
    subst h1
    cases i with
    | zero =>
      simp at e
      subst e
      exact ⟨v, rfl, h2⟩
    | succ i =>
      obtain ⟨u, g1, g2⟩ := IsWL.get (i := i) h3 (by simpa using e)
      exact ⟨u, by simpa using g1, g2⟩
/-- the other way round -/
theorem IsWL.get' : ∀ {ds : List W} {vs : List V} {i : Nat} {v : V}, IsWL F G m n ds vs → vs[i]? = some v → ∃ d, ds[i]? = some d ∧ IsW F G m n d v
  | [], _, _, _, h, e => by simp only [IsWL] at h; rw [h] at e; simp at e
  | d :: ds, vs, i, v', h, e => by
    simp only [IsWL] at h
    obtain ⟨v, r, h1, h2, h3⟩ := h
    subst h1
    cases i with
    | zero =>
      simp at e
      subst e
      exact ⟨d, rfl, h2⟩
    | succ i =>
      obtain ⟨u, g1, g2⟩ := IsWL.get' (i := i) h3 (by simpa using e)
      exact ⟨u, by simpa using g1, g2⟩
theorem IsL.get' : ∀ {ds : List P} {vs : List V} {i : Nat} {v : V}, IsL F G ds vs → vs[i]? = some v → ∃ d, ds[i]? = some d ∧ Is F G d v
  | [], _, _, _, h, e => by simp only [IsL] at h; rw [h] at e; simp at e
  | d :: ds, vs, i, v', h, e => by
    simp only [IsL] at h
    obtain ⟨v, r, h1, h2, h3⟩ := h
    subst h1
    cases i with
    | zero =>
      simp at e
      subst e
      exact ⟨d, rfl, h2⟩
    | succ i =>
      obtain ⟨u, g1, g2⟩ := IsL.get' (i := i) h3 (by simpa using e)
      exact ⟨u, by simpa using g1, g2⟩
theorem IsWL.set {x : W} {v : V} (hx : IsW F G m n x v) : ∀ {ds : List W} {vs : List V} (i : Nat), IsWL F G m n ds vs → IsWL F G m n (ds.set i x) (vs.set i v)
  | [], _, i, h => by simp only [IsWL] at h; rw [h]; simp [IsWL]
  | d :: ds, vs, i, h => by
    simp only [IsWL] at h
    obtain ⟨u, r, h1, h2, h3⟩ := h
    subst h1
    cases i with
    | zero => simp only [List.set_cons_zero, IsWL]; exact ⟨_, _, rfl, hx, h3⟩
    | succ i => simp only [List.set_cons_succ, IsWL]; exact ⟨_, _, rfl, h2, IsWL.set hx i h3⟩
theorem IsL.toW : ∀ {ds : List P} {vs : List V}, IsL F G ds vs → IsWL F G m n (ds.map W.p) vs
  | [], _, h => h
  | d :: ds, vs, h => by
    simp only [IsL] at h
    obtain ⟨v, r, h1, h2, h3⟩ := h
    simp only [List.map_cons, IsWL]
    exact ⟨v, r, h1, h2, IsL.toW h3⟩
theorem IsL.ofW : ∀ {ds : List P} {vs : List V}, IsWL F G m n (ds.map W.p) vs → IsL F G ds vs
  | [], _, h => h
  | d :: ds, vs, h => by
    simp only [List.map_cons, IsWL] at h
    obtain ⟨v, r, h1, h2, h3⟩ := h
    simp only [IsL]
    exact ⟨v, r, h1, h2, IsL.ofW h3⟩
theorem FsIs.lookup {f : Str} {x : W} : ∀ {fs : List (Str × W)} {vs : List (Str × V)}, FsIs F G m n fs vs → fs.lookup f = some x → ∃ v, vs.lookup f = some v ∧ IsW F G m n x v
  | [], _, _, e => by simp at e
  | (g, y) :: fs, vs, h, e => by
    simp only [FsIs] at h
    obtain ⟨v, r, h1, h2, h3⟩ := h
    subst h1
    rw [List.lookup_cons] at e
    rw [List.lookup_cons]
    cases q : f == g with
    | true =>
      rw [q] at e
      cases e
      exact ⟨v, rfl, h2⟩
    | false =>
      rw [q] at e
      exact FsIs.lookup h3 e
theorem FsIs.lookupN {f : Str} : ∀ {fs : List (Str × W)} {vs : List (Str × V)}, FsIs F G m n fs vs → fs.lookup f = none → vs.lookup f = none
  | [], _, h, _ => by simp only [FsIs] at h; rw [h]; rfl
  | (g, y) :: fs, vs, h, e => by
    simp only [FsIs] at h
    obtain ⟨v, r, h1, h2, h3⟩ := h
    subst h1
    rw [List.lookup_cons] at e
    rw [List.lookup_cons]
    cases q : f == g with
    | true => rw [q] at e; cases e
    | false =>
      rw [q] at e
      exact FsIs.lookupN h3 e
theorem FsIs.length : ∀ {ds : List (Str × W)} {vs : List (Str × V)}, FsIs F G m n ds vs → vs.length = ds.length
  | [], _, h => by simp only [FsIs] at h; rw [h]; rfl
  | d :: ds, vs, h => by
    simp only [FsIs] at h
    obtain ⟨v, r, h1, _, h3⟩ := h
    rw [h1, List.length_cons, List.length_cons, FsIs.length h3]
end

/-- a field stored -/
def putW (f : Str) (x : W) : List (Str × W) → List (Str × W)
  | [] => [(f, x)]
  | (g, y) :: r => if g = f then (g, x) :: r else (g, y) :: putW f x r

theorem FsIs.put {F : Fx} {G : Hp} {m : Nat → Addr} {n : Nat} {f : Str} {x : W} {v : V} (hx : IsW F G m n x v) : ∀ {fs : List (Str × W)} {vs : List (Str × V)}, FsIs F G m n fs vs → FsIs F G m n (putW f x fs) (putF f v vs)
  | [], _, h => by
    simp only [FsIs] at h
    subst h
    simp only [putW, FsIs]
    exact ⟨v, [], rfl, hx, rfl⟩
  | (g, y) :: fs, vs, h => by
    simp only [FsIs] at h
    obtain ⟨u, r, h1, h2, h3⟩ := h
    subst h1
    unfold putW
    show FsIs F G m n _ (if g = f then (g, v) :: r else (g, u) :: putF f v r)
    split
    · simp only [FsIs]
      exact ⟨_, _, rfl, hx, h3⟩
    · simp only [FsIs]
      exact ⟨_, _, rfl, h2, FsIs.put hx h3⟩

/-! ### the state -/
section
variable (F : Fx)
def CellAt (m : Nat → Addr) (n : Nat) (G H : Hp) (a : Addr) : Cell → Prop
  | .lst ws => ∃ vs, H a = some (.lst vs) ∧ IsWL F G m n ws vs
  | .dic ks ws => (∃ l : List (Key × V), H a = some (.dK l) ∧ l.map (fun p => keyP p.1) = ks ∧ IsWL F G m n ws (l.map (·.2))) ∨
      ∃ l : List (NestedKey × Addr × V), H a = some (.ext (phiN F.Pr F.w a l)) ∧ nks ks = some (l.map (·.1)) ∧ IsL F G ks (l.map fun x => .ref x.2.1) ∧ IsWL F G m n ws (l.map (·.2.2))
  | .ins c fs => ∃ C dx vs, H a = some (.ins C dx vs) ∧ F.mg c = some (.ref C) ∧ FsIs F G m n fs vs
  | .fz d => Is F G d (.ref a)
  | .dead => True

/-- an address of a live cell -/
def Live (m : Nat → Addr) (S : Store) (b : Addr) : Prop := ∃ id c, S[id]? = some c ∧ c.live = true ∧ m id = b

structure Rel (m : Nat → Addr) (G H : Hp) (S : Store) : Prop where
  ex : Same G H
  cells : ∀ id c, S[id]? = some c → CellAt F m S.length G H (m id) c
  out : ∀ id c, S[id]? = some c → c.live = true → G (m id) = none
  inj : ∀ i j c c', S[i]? = some c → S[j]? = some c' → c.live = true → c'.live = true → m i = m j → i = j
end

/-- from one state to a later one -/
structure Stp (m : Nat → Addr) (G H : Hp) (S : Store) (m' : Nat → Addr) (G' H' : Hp) (S' : Store) : Prop where
  len : S.length ≤ S'.length
  mm : ∀ i, i < S.length → m' i = m i
  gg : Same G G'
  keep : ∀ b o, H b = some o → ¬ Live m S b → H' b = some o
  gnew : ∀ b, G' b ≠ none → G b ≠ none ∨ Live m S b ∨ H b = none
  lnew : ∀ b, Live m' S' b → Live m S b ∨ H b = none

section
variable {m m1 m2 m3 : Nat → Addr} {G G1 G2 G3 H H1 H2 H3 : Hp} {S S1 S2 S3 : Store}
theorem Stp.refl : Stp m G H S m G H S := ⟨Nat.le_refl _, fun _ _ => rfl, fun _ _ h => h, fun _ _ h _ => h, fun _ h => .inl h, fun _ h => .inl h⟩
theorem Stp.trans (a : Stp m1 G1 H1 S1 m2 G2 H2 S2) (b : Stp m2 G2 H2 S2 m3 G3 H3 S3) : Stp m1 G1 H1 S1 m3 G3 H3 S3 where
  len := Nat.le_trans a.len b.len
  mm := fun i h => (b.mm i (Nat.lt_of_lt_of_le h a.len)).trans (a.mm i h)
  gg := fun c o h => b.gg c o (a.gg c o h)
  keep := fun c o h n => b.keep c o (a.keep c o h n) fun l => by
    rcases a.lnew c l with l | l
    · exact n l
    · rw [h] at l; cases l
  gnew := fun c h => by
    have back : H2 c = none → Live m1 S1 c ∨ H1 c = none := fun z => by
      cases q : H1 c with
      | none => exact .inr rfl
      | some o =>
        by_cases l : Live m1 S1 c
        · exact .inl l
        · rw [a.keep c o q l] at z; cases z
    rcases b.gnew c h with z | z | z
    · exact a.gnew c z
    · exact .inr (a.lnew c z)
    · exact .inr (back z)
  lnew := fun c h => by
    rcases b.lnew c h with z | z
    · exact a.lnew c z
    · cases q : H1 c with
      | none => exact .inr rfl
      | some o =>
        by_cases l : Live m1 S1 c
        · exact .inl l
        · rw [a.keep c o q l] at z; cases z
theorem Stp.is {F : Fx} (a : Stp m G H S m1 G1 H1 S1) {d : P} {v : V} (h : Is F G d v) : Is F G1 d v := h.mono a.gg
theorem Stp.isW {F : Fx} (a : Stp m G H S m1 G1 H1 S1) {d : W} {v : V} (h : IsW F G m S.length d v) : IsW F G1 m1 S1.length d v := h.mono a.gg a.len a.mm
theorem Stp.isWL {F : Fx} (a : Stp m G H S m1 G1 H1 S1) {d : List W} {v : List V} (h : IsWL F G m S.length d v) : IsWL F G1 m1 S1.length d v := h.mono a.gg a.len a.mm
end
end Mp
end
section
set_option Elab.async false
set_option linter.all false
set_option maxRecDepth 100000
set_option autoImplicit false
/-! MpB: what the text's expressions and statements make of data: a reading of the syntax over P, W and a store. -/
namespace Mp
open PySem PySem.Spec PyProof.Rows L2

mutual
def eqP : P → P → Bool
  | .non, .non => true
  | .bl a, .bl b => a == b
  | .int a, .int b => a == b
  | .str a, .str b => a == b
  | .tup a, .tup b => eqPs a b
  | .lst a, .lst b => eqPs a b
  | .fro a, .fro b => eqPs a b
  | .dic a b, .dic c d => eqPs a c && eqPs b d
  | _, _ => false
def eqPs : List P → List P → Bool
  | [], [] => true
  | a :: r, b :: q => eqP a b && eqPs r q
  | _, _ => false
end
mutual
theorem eqP_of : ∀ (a b : P), eqP a b = true → a = b
  | .non, b, h => by cases b <;> first | rfl | cases h
  | .bl a, b, h => by cases b <;> first | (rw [eq_of_beq (show (a == _) = true from h)]) | cases h
  | .int a, b, h => by cases b <;> first | (rw [eq_of_beq (show (a == _) = true from h)]) | cases h
  | .str a, b, h => by cases b <;> first | (rw [eq_of_beq (show (a == _) = true from h)]) | cases h
  | .tup a, b, h => by cases b <;> first | (rw [eqPs_of a _ h]) | cases h
  | .lst a, b, h => by cases b <;> first | (rw [eqPs_of a _ h]) | cases h
  | .fro a, b, h => by cases b <;> first | (rw [eqPs_of a _ h]) | cases h
  | .dic a c, b, h => by
    cases b <;> first
      | (rename_i b d
         have h : (eqPs a b && eqPs c d) = true := h
         rw [Bool.and_eq_true] at h
         rw [eqPs_of a _ h.1, eqPs_of c _ h.2])
      | cases h
theorem eqPs_of : ∀ (a b : List P), eqPs a b = true → a = b
  | [], b, h => by cases b <;> first | rfl | cases h
  | a :: r, [], h => by cases h
  | a :: r, b :: q, h => by
    have h : (eqP a b && eqPs r q) = true := h
    rw [Bool.and_eq_true] at h
    rw [eqP_of a b h.1, eqPs_of r q h.2]
end
mutual
theorem eqP_refl : ∀ a : P, eqP a a = true
  | .non => rfl
  | .bl a => beq_self_eq_true a
  | .int a => beq_self_eq_true a
  | .str a => beq_self_eq_true a
  | .tup a => eqPs_refl a
  | .lst a => eqPs_refl a
  | .fro a => eqPs_refl a
  | .dic a b => by
    show (eqPs a a && eqPs b b) = true
    rw [eqPs_refl a, eqPs_refl b]
    rfl
theorem eqPs_refl : ∀ a : List P, eqPs a a = true
  | [] => rfl
  | a :: r => by
    show (eqP a a && eqPs r r) = true
    rw [eqP_refl a, eqPs_refl r]
    rfl
end
instance : DecidableEq P := fun a b => if h : eqP a b = true then isTrue (eqP_of a b h) else isFalse fun e => h (by rw [e]; exact eqP_refl b)
instance : DecidableEq W := fun a b => match a, b with
  | .p a, .p b => if h : a = b then isTrue (by rw [h]) else isFalse fun e => h (by cases e; rfl)
  | .o a, .o b => if h : a = b then isTrue (by rw [h]) else isFalse fun e => h (by cases e; rfl)
  | .p _, .o _ => isFalse fun e => by cases e
  | .o _, .p _ => isFalse fun e => by cases e
/-- a list's cell, these items -/
def isCell (c : Option Cell) (ws : List W) : Bool := match c with
  | some (.lst vs) => decide (vs = ws)
  | _ => false
theorem isCell_iff {c : Option Cell} {ws : List W} : isCell c ws = true ↔ c = some (.lst ws) := by
  unfold isCell
  split
  · rw [decide_eq_true_eq]
    exact ⟨fun h => by rw [h], fun h => by cases h; rfl⟩
  · rename_i h
    exact ⟨fun z => (by cases z), fun z => absurd z (h ws)⟩
instance {c : Option Cell} {ws : List W} : Decidable (c = some (Cell.lst ws)) := decidable_of_iff _ isCell_iff
structure Exc where
  cls : Str
  fs : List (Str × P)
inductive Res (α : Type) where
  | bad | ok (a : α) (S : Store) | exc (x : Exc) (S : Store)
/-- Res β, its type told by what follows (so simp leaves that alone) -/
abbrev Ret {α β : Type} (_ : α → Store → Res β) : Type := Res β
def Res.andThen {α β : Type} (r : Res α) (f : α → Store → Res β) : Ret f := match r with
  | .bad => .bad
  | .ok a S => f a S
  | .exc x S => .exc x S
abbrev En := List (Option W)
inductive SR where
  | bad | nx (E : En) (S : Store) | rt (w : W) (S : Store) | bk (E : En) (S : Store) | ct (E : En) (S : Store) | exc (x : Exc) (E : En) (S : Store)
/-- an expression, then a statement's rest -/
abbrev RetS {α : Type} (_ : α → Store → SR) : Type := SR
def Res.thenS {α : Type} (E : En) (r : Res α) (f : α → Store → SR) : RetS f := match r with
  | .bad => .bad
  | .ok a S => f a S
  | .exc x S => .exc x E S

/-- where an expression stands -/
structure Ctx where
  N : List Str
  sc : Scope
  box : List Str
  exOk : Bool
  cw : Str → Bool
  retAs : Bool
/-- a def -/
structure Fn where
  key : Str × Option Str
  qual : Str
  ps : List Str
  N : List Str
  st : Stmt
  box : List Str
  asis : List Bool
  retAs : Bool
structure Cf where
  fns : List Fn
  globs : List (Str × P)
  tabs : List (Str × List (Str × P))
  boxF : List Str

/-! ### freezing -/
def frzL (f : W → Store → Option (P × Store)) : List W → Store → Option (List P × Store)
  | [], S => some ([], S)
  | w :: ws, S => match f w S with
    | some (d, S1) => match frzL f ws S1 with
      | some (ds, S2) => some (d :: ds, S2)
      | none => none
    | none => none
def frz : Nat → W → Store → Option (P × Store)
  | 0, .p d, S => some (d, S)
  | 0, .o _, _ => none
  | _ + 1, .p d, S => some (d, S)
  | n + 1, .o id, S => match S[id]? with
    | some (.fz d) => some (d, S)
    | some (.lst ws) => (match frzL (frz n) ws S with
      | some (ds, S1) => if S1[id]? = some (.lst ws) then some (.lst ds, S1.set id (.fz (.lst ds))) else none
      | none => none)
    | _ => none
def frzR (r : Res W) : Res P := r.andThen fun w S => match frz 4 w S with
  | some (d, S1) => .ok d S1
  | none => .bad

/-! ### reading -/
/-- a list's or a tuple's items, not changed -/
def seqOf (S : Store) : W → Option (List W)
  | .p (.lst ds) => some (ds.map .p)
  | .p (.tup ds) => some (ds.map .p)
  | .p (.fro ds) => some (ds.map .p)
  | .o id => match S[id]? with
    | some (.lst ws) => some ws
    | some (.fz (.lst ds)) => some (ds.map .p)
    | _ => none
  | _ => none
/-- what stands for a value, if it is data -/
def datOf (S : Store) : W → Option P
  | .p d => some d
  | .o id => match S[id]? with
    | some (.fz d) => some d
    | _ => none
def truOf (S : Store) : W → Option Bool
  | .p .non => some false
  | .p (.bl b) => some b
  | .p (.int i) => some (i != 0)
  | .p (.str s) => if s.length ≤ sizeLine then some ((s.length : Int) != 0) else none
  | w => (seqOf S w).map fun ws => !ws.isEmpty

/-! ### data that are compared -/
mutual
def pd : P → PyData
  | .non => .none
  | .bl b => .bool b
  | .int i => .int i
  | .str s => .str s
  | .tup ds => .tuple (pds ds)
  | .lst ds => .list (pds ds)
  | .fro ds => .list (pds ds)
  | .dic _ _ => .none
def pds : List P → List PyData
  | [] => []
  | d :: ds => pd d :: pds ds
end
mutual
/-- no dict in it, not deeper than n -/
def low : Nat → P → Bool
  | _, .non => true
  | _, .bl _ => true
  | _, .int _ => true
  | _, .str s => PyData.strOk s
  | 0, .tup _ => false
  | 0, .lst _ => false
  | 0, .fro _ => false
  | n + 1, .tup ds => lows n ds
  | n + 1, .lst ds => lows n ds
  | n + 1, .fro ds => lows n ds
  | _, .dic _ _ => false
def lows : Nat → List P → Bool
  | _, [] => true
  | n, d :: ds => low n d && lows n ds
end
theorem lows_cons {n : Nat} {d : P} {ds : List P} (h : lows n (d :: ds) = true) : low n d = true ∧ lows n ds = true := by
  have h : (low n d && lows n ds) = true := by cases n <;> exact h
  simpa using h
def peq (a b : P) : Bool := PyData.eqv (pd a) (pd b)

/-! ### operators on data -/
def binop : Operator → P → P → Option P
  | .Add, .int i, .int j => some (.int (i + j))
  | .Add, .str a, .str b => if a.length + b.length ≤ sizeLine then some (.str (a ++ b)) else none
  | .Add, .tup a, .tup b => if a.length + b.length ≤ sizeLine then some (.tup (a ++ b)) else none
  | .Add, .lst a, .lst b => if a.length + b.length ≤ sizeLine then some (.lst (a ++ b)) else none
  | .Sub, .int i, .int j => some (.int (i - j))
  | .Mult, .int i, .int j => if (-(2 ^ 64) < i ∧ i < 2 ^ 64) ∨ (-(2 ^ 64) < j ∧ j < 2 ^ 64) then some (.int (i * j)) else none
  | .Mult, .str z, .int n => if -1000000 < n ∧ n < 1000000 ∧ z.length * n.toNat ≤ sizeLine then some (.str (Txt.mul z n)) else none
  | .Mod, .int i, .int j => if j ≠ 0 then some (.int (i.fmod j)) else none
  | .FloorDiv, .int i, .int j => if j ≠ 0 ∧ j.natAbs < 1073741824 then some (.int (i.fdiv j)) else none
  | _, _, _ => none

def flatP : P → Bool
  | .non => true
  | .bl _ => true
  | .int _ => true
  | .str _ => true
  | _ => false
def cmpop : CmpOp → P → P → Option Bool
  | .Eq, a, b => if low 60 a ∧ low 60 b then some (peq a b) else none
  | .NotEq, a, b => if low 60 a ∧ low 60 b then some (!peq a b) else none
  | .Lt, .int i, .int j => some (decide (i < j))
  | .LtE, .int i, .int j => some (decide (i ≤ j))
  | .Gt, .int i, .int j => some (decide (j < i))
  | .GtE, .int i, .int j => some (decide (j ≤ i))
  | .Is, a, .non => some (match a with | .non => true | _ => false)
  | .IsNot, a, .non => some (match a with | .non => false | _ => true)
  | .Is, a, .bl b => if flatP a = true then some (match a with | .bl c => decide (c = b) | _ => false) else none
  | .In, a, .tup ds => if flatP a = true ∧ ds.all flatP = true then some (ds.any fun z => peq z a) else none
  | .NotIn, a, .tup ds => if flatP a = true ∧ ds.all flatP = true then some (!ds.any fun z => peq z a) else none
  | .In, a, .lst ds => if low 60 a ∧ low 60 (.lst ds) then some (ds.any fun z => peq z a) else none
  | .NotIn, a, .lst ds => if low 60 a ∧ low 60 (.lst ds) then some (!ds.any fun z => peq z a) else none
  | _, _, _ => none

def idxW (S : Store) (w : W) (i : P) : Option W := match i with
  | .int i => match seqOf S w with
    | some ws => atI ws i
    | none => match datOf S w with
      | some (.str z) => if z.length ≤ 16777216 then (atI z.cps.toList i).map fun c => .p (.str ⟨#[c]⟩) else none
      | _ => none
  | _ => none
end Mp
end
section
set_option Elab.async false
set_option linter.all false
set_option maxRecDepth 100000
set_option autoImplicit false
/-! MpD: how the state goes on: freezing, new data, new cells, cells changed; what a reading promises (Post). -/
namespace Mp
open PySem PySem.Spec PyProof.Rows L2

section
variable {F : Fx} {m : Nat → Addr} {G H : Hp} {S : Store}

theorem get_set {α : Type} {l : List α} {i j : Nat} {x y : α} (h : (l.set i x)[j]? = some y) : (i = j ∧ y = x ∧ i < l.length) ∨ (i ≠ j ∧ l[j]? = some y) := by
  by_cases e : i = j
  · subst e
    rw [List.getElem?_set_self'] at h
    cases q : l[i]? with
    | none => rw [q] at h; cases h
    | some z =>
      rw [q] at h
      obtain ⟨hl, _⟩ := List.getElem?_eq_some_iff.mp q
      exact .inl ⟨rfl, (Option.some.inj h).symm, hl⟩
  · rw [List.getElem?_set_ne e] at h
    exact .inr ⟨e, h⟩

theorem CellAt.mono {G' H' : Hp} {m' : Nat → Addr} {n n' : Nat} {a a' : Addr} {c : Cell} (gg : Same G G') (hn : n ≤ n') (hm : ∀ i, i < n → m' i = m i) (ha : a' = a) (hh : c.live = true → H' a = H a) (h : CellAt F m n G H a c) : CellAt F m' n' G' H' a' c := by
  subst ha
  cases c with
  | lst ws =>
    obtain ⟨vs, h1, h2⟩ := h
    exact ⟨vs, (hh rfl).trans h1, h2.mono gg hn hm⟩
  | dic ks ws =>
    rcases h with ⟨l, h1, h2, h3⟩ | ⟨l, h1, h2, h3, h4⟩
    · exact .inl ⟨l, (hh rfl).trans h1, h2, h3.mono gg hn hm⟩
    · exact .inr ⟨l, (hh rfl).trans h1, h2, h3.mono gg, h4.mono gg hn hm⟩
  | ins c fs =>
    obtain ⟨C, dx, vs, h1, h2, h3⟩ := h
    exact ⟨C, dx, vs, (hh rfl).trans h1, h2, h3.mono gg hn hm⟩
  | fz d => exact Is.mono gg (show Is F G d _ from h)
  | dead => trivial

/-- data laid anew: a new tuple, a new list -/
theorem Rel.new {p : Addr} {o : HO} (R : Rel F m G H S) (hp : H p = none) : Rel F m (upd G p o) (upd H p o) S ∧ Stp m G H S m (upd G p o) (upd H p o) S := by
  have gp : G p = none := by
    cases q : G p with
    | none => rfl
    | some u => rw [R.ex p u q] at hp; cases hp
  have gg : Same G (upd G p o) := fun b u e => by rw [upd_ne (ne_of_none e gp)]; exact e
  have nl : ∀ id c, S[id]? = some c → c.live = true → m id ≠ p := fun id c e l z => by
    have k := R.cells id c e
    rw [z] at k
    cases c with
    | lst ws => obtain ⟨vs, h1, _⟩ := k; rw [hp] at h1; cases h1
    | dic ks ws => rcases k with ⟨l, h1, _⟩ | ⟨l, h1, _⟩ <;> (rw [hp] at h1; cases h1)
    | ins c fs => obtain ⟨C, dx, vs, h1, _⟩ := k; rw [hp] at h1; cases h1
    | fz d => cases l
    | dead => cases l
  refine ⟨⟨fun b u e => ?_, fun id c e => ?_, fun id c e l => ?_, R.inj⟩, ⟨Nat.le_refl _, fun _ _ => rfl, gg, fun b u e _ => ?_, fun b e => ?_, fun b l => .inl l⟩⟩
  · by_cases hb : b = p
    · subst hb; rw [upd_same] at e ⊢; exact e
    · rw [upd_ne hb] at e ⊢; exact R.ex b u e
  · exact (R.cells id c e).mono gg (Nat.le_refl _) (fun _ _ => rfl) rfl fun l => by rw [upd_ne (nl id c e l)]
  · rw [upd_ne (nl id c e l)]; exact R.out id c e l
  · rw [upd_ne (ne_of_none e hp)]; exact e
  · by_cases hb : b = p
    · subst hb; exact .inr (.inr hp)
    · rw [upd_ne hb] at e; exact .inl e

/-- something new that nobody knows -/
theorem Rel.junk {p : Addr} {o : HO} (R : Rel F m G H S) (hp : H p = none) : Rel F m G (upd H p o) S ∧ Stp m G H S m G (upd H p o) S := by
  have nl : ∀ id c, S[id]? = some c → c.live = true → m id ≠ p := fun id c e l z => by
    have k := R.cells id c e
    rw [z] at k
    cases c with
    | lst ws => obtain ⟨vs, h1, _⟩ := k; rw [hp] at h1; cases h1
    | dic ks ws => rcases k with ⟨l, h1, _⟩ | ⟨l, h1, _⟩ <;> (rw [hp] at h1; cases h1)
    | ins c fs => obtain ⟨C, dx, vs, h1, _⟩ := k; rw [hp] at h1; cases h1
    | fz d => cases l
    | dead => cases l
  refine ⟨⟨fun b u e => ?_, fun id c e => ?_, R.out, R.inj⟩, ⟨Nat.le_refl _, fun _ _ => rfl, fun _ _ e => e, fun b u e _ => ?_, fun b e => .inl e, fun b l => .inl l⟩⟩
  · rw [upd_ne (ne_of_none (R.ex b u e) hp)]; exact R.ex b u e
  · exact (R.cells id c e).mono (fun _ _ e => e) (Nat.le_refl _) (fun _ _ => rfl) rfl fun l => by rw [upd_ne (nl id c e l)]
  · rw [upd_ne (ne_of_none e hp)]; exact e

/-- what nobody knows becomes data -/
theorem Rel.know {p : Addr} {o : HO} (R : Rel F m G H S) (hp : H p = some o) (gp : G p = none) (nl : ¬ Live m S p) : Rel F m (upd G p o) H S := by
  have gg : Same G (upd G p o) := fun b u e => by rw [upd_ne (ne_of_none e gp)]; exact e
  have nl' : ∀ id c, S[id]? = some c → c.live = true → m id ≠ p := fun id c e l z => nl ⟨id, c, e, l, z⟩
  refine ⟨fun b u e => ?_, fun id c e => ?_, fun id c e l => ?_, R.inj⟩
  · by_cases hb : b = p
    · subst hb; rw [upd_same] at e; rw [hp]; exact e
    · rw [upd_ne hb] at e; exact R.ex b u e
  · exact (R.cells id c e).mono gg (Nat.le_refl _) (fun _ _ => rfl) rfl fun l => rfl
  · rw [upd_ne (nl' id c e l)]; exact R.out id c e l

/-- what nobody knows changes -/
theorem Rel.change {p : Addr} {o : HO} (R : Rel F m G H S) (gp : G p = none) (nl : ¬ Live m S p) : Rel F m G (upd H p o) S := by
  have nl' : ∀ id c, S[id]? = some c → c.live = true → m id ≠ p := fun id c e l z => nl ⟨id, c, e, l, z⟩
  refine ⟨fun b u e => ?_, fun id c e => ?_, R.out, R.inj⟩
  · rw [upd_ne (ne_of_none e gp)]; exact R.ex b u e
  · exact (R.cells id c e).mono (fun _ _ e => e) (Nat.le_refl _) (fun _ _ => rfl) rfl fun l => by rw [upd_ne (nl' id c e l)]

theorem live_of_set {id : Nat} {c : Cell} {b : Addr} (hb : Live m (S.set id c) b) (hl : c.live = true → ∃ c', S[id]? = some c' ∧ c'.live = true) : Live m S b := by
  obtain ⟨j, c', e, l, z⟩ := hb
  rcases get_set e with ⟨rfl, rfl, _⟩ | ⟨_, e'⟩
  · obtain ⟨c2, e2, l2⟩ := hl l
    exact ⟨id, c2, e2, l2, z⟩
  · exact ⟨j, c', e', l, z⟩

/-- a cell becomes data -/
theorem Rel.freeze {id : Nat} {c : Cell} {d : P} {o : HO} (R : Rel F m G H S) (hc : S[id]? = some c) (hl : c.live = true) (ho : H (m id) = some o) (hd : Is F (upd G (m id) o) d (.ref (m id))) :
    Rel F m (upd G (m id) o) H (S.set id (.fz d)) ∧ Stp m G H S m (upd G (m id) o) H (S.set id (.fz d)) := by
  have gp : G (m id) = none := R.out id c hc hl
  have gg : Same G (upd G (m id) o) := fun b u e => by rw [upd_ne (ne_of_none e gp)]; exact e
  have len : (S.set id (.fz d)).length = S.length := List.length_set ..
  refine ⟨⟨fun b u e => ?_, fun j c' e => ?_, fun j c' e l => ?_, fun i j c1 c2 e1 e2 l1 l2 q => ?_⟩, ⟨Nat.le_of_eq len.symm, fun _ _ => rfl, gg, fun b u e _ => e, fun b e => ?_, fun b l => .inl (live_of_set l fun z => by cases z)⟩⟩
  · by_cases hb : b = m id
    · subst hb; rw [upd_same] at e; rw [ho]; exact e
    · rw [upd_ne hb] at e; exact R.ex b u e
  · rcases get_set e with ⟨rfl, rfl, _⟩ | ⟨_, e'⟩
    · exact hd
    · exact (R.cells j c' e').mono gg (Nat.le_of_eq len.symm) (fun _ _ => rfl) rfl fun l => rfl
  · rcases get_set e with ⟨rfl, rfl, _⟩ | ⟨hn, e'⟩
    · cases l
    · rw [upd_ne (fun z => hn (R.inj id j c c' hc e' hl l z.symm))]
      exact R.out j c' e' l
  · rcases get_set e1 with ⟨_, rfl, _⟩ | ⟨_, e1'⟩
    · cases l1
    rcases get_set e2 with ⟨_, rfl, _⟩ | ⟨_, e2'⟩
    · cases l2
    exact R.inj i j c1 c2 e1' e2' l1 l2 q
  · by_cases hb : b = m id
    · exact .inr (.inl ⟨id, c, hc, hl, hb.symm⟩)
    · rw [upd_ne hb] at e; exact .inl e

/-- a cell changes -/
theorem Rel.write {id : Nat} {c c' : Cell} {o : HO} (R : Rel F m G H S) (hc : S[id]? = some c) (hl : c.live = true) (hl' : c'.live = true) (hw : CellAt F m S.length G (upd H (m id) o) (m id) c') :
    Rel F m G (upd H (m id) o) (S.set id c') ∧ Stp m G H S m G (upd H (m id) o) (S.set id c') := by
  have gp : G (m id) = none := R.out id c hc hl
  have len : (S.set id c').length = S.length := List.length_set ..
  have live : Live m S (m id) := ⟨id, c, hc, hl, rfl⟩
  refine ⟨⟨fun b u e => ?_, fun j c2 e => ?_, fun j c2 e l => ?_, fun i j c1 c2 e1 e2 l1 l2 q => ?_⟩, ⟨Nat.le_of_eq len.symm, fun _ _ => rfl, fun _ _ e => e, fun b u e n => ?_, fun b e => .inl e, fun b l => .inl (live_of_set l fun _ => ⟨c, hc, hl⟩)⟩⟩
  · rw [upd_ne (ne_of_none e gp)]; exact R.ex b u e
  · rcases get_set e with ⟨rfl, rfl, _⟩ | ⟨hn, e'⟩
    · rw [len]; exact hw
    · exact (R.cells j c2 e').mono (fun _ _ e => e) (Nat.le_of_eq len.symm) (fun _ _ => rfl) rfl fun l => by
        rw [upd_ne (fun z => hn (R.inj id j c c2 hc e' hl l z.symm))]
  · rcases get_set e with ⟨rfl, rfl, _⟩ | ⟨hn, e'⟩
    · exact gp
    · exact R.out j c2 e' l
  · have back : ∀ {i : Nat} {c1 : Cell}, (S.set id c')[i]? = some c1 → c1.live = true → ∃ c0, S[i]? = some c0 ∧ c0.live = true := fun {i c1} e l => by
      rcases get_set e with ⟨rfl, _, _⟩ | ⟨_, e'⟩
      · exact ⟨c, hc, hl⟩
      · exact ⟨c1, e', l⟩
    obtain ⟨d1, f1, g1⟩ := back e1 l1
    obtain ⟨d2, f2, g2⟩ := back e2 l2
    exact R.inj i j d1 d2 f1 f2 g1 g2 q
  · rw [upd_ne (fun z => n (by rw [z]; exact live))]; exact e

/-- the map with one more place -/
def mAdd (m : Nat → Addr) (n : Nat) (p : Addr) : Nat → Addr := fun i => if i = n then p else m i
theorem mAdd_new {n : Nat} {p : Addr} : mAdd m n p n = p := if_pos rfl
theorem mAdd_old {n i : Nat} {p : Addr} (h : i < n) : mAdd m n p i = m i := if_neg (Nat.ne_of_lt h)
/-- a new cell; o: what lies at p, H' the heap with it -/
theorem Rel.alloc {p : Addr} {c : Cell} {H' : Hp} (R : Rel F m G H S) (hp : H p = none) (k : ∀ b, b ≠ p → H b ≠ none → H' b = H b) (hl : c.live = true) (hw : CellAt F (mAdd m S.length p) (S.length + 1) G H' p c) :
    Rel F (mAdd m S.length p) G H' (S ++ [c]) ∧ Stp m G H S (mAdd m S.length p) G H' (S ++ [c]) := by
  have gp : G p = none := by
    cases q : G p with
    | none => rfl
    | some u => rw [R.ex p u q] at hp; cases hp
  have at_ : ∀ {id : Nat} {c' : Cell}, (S ++ [c])[id]? = some c' → (id < S.length ∧ S[id]? = some c') ∨ (id = S.length ∧ c' = c) := fun {id c'} e => by
    rcases Nat.lt_or_ge id S.length with h | h
    · rw [List.getElem?_append_left h] at e; exact .inl ⟨h, e⟩
    · rw [List.getElem?_append_right h] at e
      obtain ⟨h2, e2⟩ := List.getElem?_eq_some_iff.mp e
      have : id = S.length := by simp at h2; omega
      refine .inr ⟨this, ?_⟩
      subst this
      simpa using e2.symm
  have hk : ∀ id c', S[id]? = some c' → c'.live = true → m id ≠ p ∧ H' (m id) = H (m id) := fun id c' e l => by
    have hn : H (m id) ≠ none := by
      have q := R.cells id c' e
      cases c' with
      | lst ws => obtain ⟨vs, h1, _⟩ := q; rw [h1]; simp
      | dic ks ws => rcases q with ⟨l, h1, _⟩ | ⟨l, h1, _⟩ <;> (rw [h1]; simp)
      | ins c fs => obtain ⟨C, dx, vs, h1, _⟩ := q; rw [h1]; simp
      | fz d => cases l
      | dead => cases l
    have ne : m id ≠ p := fun z => hn (by rw [z]; exact hp)
    exact ⟨ne, k _ ne hn⟩
  have len : (S ++ [c]).length = S.length + 1 := by simp
  refine ⟨⟨fun b u e => ?_, fun j c2 e => ?_, fun j c2 e l => ?_, fun i j c1 c2 e1 e2 l1 l2 q => ?_⟩, ⟨by rw [len]; exact Nat.le_succ _, fun i h => mAdd_old h, fun _ _ e => e, fun b u e n => ?_, fun b e => .inl e, fun b l => ?_⟩⟩
  · have hb := R.ex b u e
    rw [k b (ne_of_none hb hp) (by rw [hb]; simp)]; exact hb
  · rw [len]
    rcases at_ e with ⟨h, e'⟩ | ⟨rfl, rfl⟩
    · exact (R.cells j c2 e').mono (fun _ _ e => e) (Nat.le_succ _) (fun i h => mAdd_old h) (mAdd_old h) fun l => (hk j c2 e' l).2
    · rw [mAdd_new]; exact hw
  · rcases at_ e with ⟨h, e'⟩ | ⟨rfl, rfl⟩
    · rw [mAdd_old h]; exact R.out j c2 e' l
    · rw [mAdd_new]; exact gp
  · rcases at_ e1 with ⟨h1, e1'⟩ | ⟨rfl, rfl⟩ <;> rcases at_ e2 with ⟨h2, e2'⟩ | ⟨rfl, rfl⟩
    · rw [mAdd_old h1, mAdd_old h2] at q; exact R.inj i j c1 c2 e1' e2' l1 l2 q
    · rw [mAdd_old h1, mAdd_new] at q; exact absurd q (hk i c1 e1' l1).1
    · rw [mAdd_old h2, mAdd_new] at q; exact absurd q.symm (hk j c2 e2' l2).1
    · rfl
  · rw [k b (ne_of_none e hp) (by rw [e]; simp)]; exact e
  · obtain ⟨j, c2, e, l, z⟩ := l
    rcases at_ e with ⟨h, e'⟩ | ⟨rfl, rfl⟩
    · rw [mAdd_old h] at z; exact .inl ⟨j, c2, e', l, z⟩
    · rw [mAdd_new] at z; subst z; exact .inr hp
end
end Mp
end
section
set_option Elab.async false
set_option linter.all false
set_option maxRecDepth 100000
set_option autoImplicit false
/-! MpE: what a reading promises (Post); freezing is sound; the slots. -/
namespace Mp
open PySem PySem.Spec PyProof.Rows L2

def flatV' : P → Option V
  | .non => some .non
  | .bl b => some (.bl b)
  | .int i => some (.int i)
  | .str s => some (.str s)
  | _ => none
/-- an exception that was raised, its own dict -/
def ExcAt (F : Fx) (H : Hp) (cls : Value) (d : Option Addr) (x : Exc) : Prop :=
  ∃ C dx fvs, F.mg x.cls = some (.ref C) ∧ cls = .ref C ∧ d = some dx ∧ H dx = some (.xd fvs) ∧ fvs.map (fun p => (p.1, some p.2)) = x.fs.map (fun p => (p.1, flatV' p.2))

section
variable (F : Fx) (Wx : WX) (σ : L2.St)
/-- what a result promises, seen from a state -/
def Post {α : Type} (m : Nat → Addr) (G H : Hp) (S : Store) (r : Res α) (k : α → (Nat → Addr) → Hp → Hp → Store → Prop) : Prop := match r with
  | .bad => False
  | .ok a S' => ∀ m' G' H', Rel F m' G' H' S' → Stp m G H S m' G' H' S' → k a m' G' H' S'
  | .exc x S' => ∀ cls d m' G' H', Rel F m' G' H' S' → Stp m G H S m' G' H' S' → ExcAt F H' cls d x → Wx cls d σ H'
end
section
variable {F : Fx} {Wx : WX} {σ : L2.St} {m : Nat → Addr} {G H : Hp} {S : Store} {α β : Type}
theorem Post.imp {r : Res α} {k k' : α → (Nat → Addr) → Hp → Hp → Store → Prop} (h : Post F Wx σ m G H S r k)
    (i : ∀ a m' G' H' S', Rel F m' G' H' S' → Stp m G H S m' G' H' S' → k a m' G' H' S' → k' a m' G' H' S') : Post F Wx σ m G H S r k' := by
  cases r with
  | bad => exact h
  | ok a S' => exact fun m' G' H' R st => i a m' G' H' S' R st (h m' G' H' R st)
  | exc x S' => exact h
theorem Post.split {r : Res α} {f : α → Store → Res β} {k : β → (Nat → Addr) → Hp → Hp → Store → Prop} (h : Post F Wx σ m G H S (r.andThen f) k) :
    Post F Wx σ m G H S r fun a m' G' H' S' => Post F Wx σ m' G' H' S' (f a S') k := by
  cases r with
  | bad => exact h
  | ok a S1 =>
    intro m1 G1 H1 R1 st1
    have h' : Post F Wx σ m G H S (f a S1) k := h
    cases q : f a S1 with
    | bad => rw [q] at h'; exact h'
    | ok b S2 => rw [q] at h'; exact fun m2 G2 H2 R2 st2 => h' m2 G2 H2 R2 (st1.trans st2)
    | exc x S2 => rw [q] at h'; exact fun cls d m2 G2 H2 R2 st2 => h' cls d m2 G2 H2 R2 (st1.trans st2)
  | exc x S1 => exact h
/-- seen from a later state -/
theorem Post.later {r : Res α} {k : α → (Nat → Addr) → Hp → Hp → Store → Prop} {m1 : Nat → Addr} {G1 H1 : Hp} {S1 : Store} (h : Post F Wx σ m G H S r k) (st : Stp m G H S m1 G1 H1 S1) : Post F Wx σ m1 G1 H1 S1 r k := by
  cases r with
  | bad => exact h
  | ok a S' => exact fun m2 G2 H2 R2 st2 => h m2 G2 H2 R2 (st.trans st2)
  | exc x S' => exact fun cls d m2 G2 H2 R2 st2 => h cls d m2 G2 H2 R2 (st.trans st2)
theorem Post.okO {o : Option α} {k : α → (Nat → Addr) → Hp → Hp → Store → Prop} (h : Post F Wx σ m G H S (match o with | some a => Res.ok a S | none => Res.bad) k) : ∃ a, o = some a ∧ ∀ m' G' H', Rel F m' G' H' S → Stp m G H S m' G' H' S → k a m' G' H' S := by
  cases o with
  | none => exact h.elim
  | some a => exact ⟨a, rfl, h⟩

/-! ### freezing -/
theorem frzL_ok {f : W → Store → Option (P × Store)} (hf : ∀ (w : W) (S : Store) (d : P) (S1 : Store) (m : Nat → Addr) (G : Hp) (v : V), f w S = some (d, S1) → Rel F m G H S → IsW F G m S.length w v →
      ∃ G1, Rel F m G1 H S1 ∧ Stp m G H S m G1 H S1 ∧ Is F G1 d v) :
    ∀ (ws : List W) (S : Store) (ds : List P) (S1 : Store) (m : Nat → Addr) (G : Hp) (vs : List V), frzL f ws S = some (ds, S1) → Rel F m G H S → IsWL F G m S.length ws vs → ∃ G1, Rel F m G1 H S1 ∧ Stp m G H S m G1 H S1 ∧ IsL F G1 ds vs
  | [], S, ds, S1, m, G, vs, e, R, h => by
    simp only [frzL, Option.some.injEq, Prod.mk.injEq] at e
    obtain ⟨rfl, rfl⟩ := e
    exact ⟨G, R, .refl, h⟩
  | w :: ws, S, ds, S1, m, G, vs, e, R, h => by
    simp only [IsWL] at h
    obtain ⟨v, r, rfl, h1, h2⟩ := h
    unfold frzL at e
    cases q : f w S with
    | none => rw [q] at e; cases e
    | some z =>
      obtain ⟨d, S2⟩ := z
      rw [q] at e
      simp only at e
      obtain ⟨G2, R2, st2, i2⟩ := hf w S d S2 m G v q R h1
      cases q2 : frzL f ws S2 with
      | none => rw [q2] at e; cases e
      | some z2 =>
        obtain ⟨ds2, S3⟩ := z2
        rw [q2] at e
        simp only [Option.some.injEq, Prod.mk.injEq] at e
        obtain ⟨rfl, rfl⟩ := e
        obtain ⟨G3, R3, st3, i3⟩ := frzL_ok hf ws S2 ds2 S3 m G2 r q2 R2 (st2.isWL h2)
        exact ⟨G3, R3, st2.trans st3, by simp only [IsL]; exact ⟨v, r, rfl, st3.is i2, i3⟩⟩

theorem frz_ok : ∀ (n : Nat) (w : W) (S : Store) (d : P) (S1 : Store) (m : Nat → Addr) (G : Hp) (v : V), frz n w S = some (d, S1) → Rel F m G H S → IsW F G m S.length w v →
      ∃ G1, Rel F m G1 H S1 ∧ Stp m G H S m G1 H S1 ∧ Is F G1 d v
  | 0, .p d0, S, d, S1, m, G, v, e, R, h => by
    simp only [frz, Option.some.injEq, Prod.mk.injEq] at e
    obtain ⟨rfl, rfl⟩ := e
    exact ⟨G, R, .refl, h⟩
  | 0, .o id, S, d, S1, m, G, v, e, R, h => by simp [frz] at e
  | n + 1, .p d0, S, d, S1, m, G, v, e, R, h => by
    simp only [frz, Option.some.injEq, Prod.mk.injEq] at e
    obtain ⟨rfl, rfl⟩ := e
    exact ⟨G, R, .refl, h⟩
  | n + 1, .o id, S, d, S1, m, G, v, e, R, h => by
    obtain ⟨hi, rfl⟩ := (show id < S.length ∧ v = .ref (m id) from h)
    unfold frz at e
    cases q : S[id]? with
    | none => rw [q] at e; cases e
    | some c =>
      rw [q] at e
      cases c with
      | fz d0 =>
        simp only [Option.some.injEq, Prod.mk.injEq] at e
        obtain ⟨rfl, rfl⟩ := e
        exact ⟨G, R, .refl, R.cells id _ q⟩
      | lst ws =>
        simp only at e
        cases q2 : frzL (frz n) ws S with
        | none => rw [q2] at e; cases e
        | some z =>
          obtain ⟨ds, S2⟩ := z
          rw [q2] at e
          simp only at e
          split at e
          · rename_i hs
            simp only [Option.some.injEq, Prod.mk.injEq] at e
            obtain ⟨rfl, rfl⟩ := e
            obtain ⟨vs, k1, k2⟩ := R.cells id _ q
            obtain ⟨G2, R2, st2, i2⟩ := frzL_ok (fun w S d S1 m G v => frz_ok n w S d S1 m G v) ws S ds S2 m G vs q2 R k2
            obtain ⟨R3, st3⟩ := R2.freeze (d := .lst ds) hs rfl k1 (by
              simp only [Is]
              have gp := R2.out id _ hs rfl
              exact ⟨m id, vs, rfl, upd_same, i2.mono fun b u e => by rw [upd_ne (ne_of_none e gp)]; exact e⟩)
            refine ⟨_, R3, st2.trans st3, ?_⟩
            have len : S2.length = (S2.set id (.fz (.lst ds))).length := (List.length_set ..).symm
            have hi2 : id < S2.length := (List.getElem?_eq_some_iff.mp hs).1
            exact R3.cells id _ (by rw [List.getElem?_set_self hi2])
          · cases e
      | dic _ _ => cases e
      | ins _ _ => cases e
      | dead => cases e

theorem Post.frzR {r : Res W} {k : P → (Nat → Addr) → Hp → Hp → Store → Prop} (h : Post F Wx σ m G H S (frzR r) k) :
    Post F Wx σ m G H S r fun w m' G' H' S' => ∀ v, IsW F G' m' S'.length w v → ∃ d G1 S1, Rel F m' G1 H' S1 ∧ Stp m' G' H' S' m' G1 H' S1 ∧ Is F G1 d v ∧ k d m' G1 H' S1 := by
  have h1 := Post.split h
  refine h1.imp fun w m1 G1 H1 S1 R1 st1 h2 v hv => ?_
  cases q : frz 4 w S1 with
  | none => rw [q] at h2; exact h2.elim
  | some z =>
    obtain ⟨d, S2⟩ := z
    rw [q] at h2
    obtain ⟨G2, R2, st2, i2⟩ := frz_ok 4 w S1 d S2 m1 G1 v q R1 hv
    exact ⟨d, G2, S2, R2, st2, i2, h2 m1 G2 H1 R2 st2⟩

/-! ### the slots -/
def EnvRel (F : Fx) (G : Hp) (m : Nat → Addr) (n : Nat) (σ : L2.St) (E : En) : Prop := σ.length = E.length ∧ ∀ (i : Nat) (w : W), E[i]? = some (some w) → ∃ v, σ[i]? = some (some v) ∧ IsW F G m n w v
theorem EnvRel.mono {E : En} {m1 : Nat → Addr} {G1 H1 : Hp} {S1 : Store} (h : EnvRel F G m S.length σ E) (st : Stp m G H S m1 G1 H1 S1) : EnvRel F G1 m1 S1.length σ E :=
  ⟨h.1, fun i w e => let ⟨v, a, b⟩ := h.2 i w e; ⟨v, a, st.isW b⟩⟩
theorem EnvRel.set {E : En} {n i : Nat} {w : W} {v : V} (h : EnvRel F G m n σ E) (hv : IsW F G m n w v) : EnvRel F G m n (σ.set i (some v)) (E.set i (some w)) := by
  refine ⟨by rw [List.length_set, List.length_set]; exact h.1, fun j w' e => ?_⟩
  rcases get_set e with ⟨rfl, e2, hl⟩ | ⟨hn, e2⟩
  · cases e2
    exact ⟨v, by rw [List.getElem?_set_self (by rw [h.1]; exact hl)], hv⟩
  · obtain ⟨u, a, b⟩ := h.2 j w' e2
    exact ⟨u, by rw [List.getElem?_set_ne hn]; exact a, b⟩
theorem EnvRel.unset {E : En} {n i : Nat} (h : EnvRel F G m n σ E) : EnvRel F G m n (σ.set i none) (E.set i none) := by
  refine ⟨by rw [List.length_set, List.length_set]; exact h.1, fun j w' e => ?_⟩
  rcases get_set e with ⟨rfl, e2, hl⟩ | ⟨hn, e2⟩
  · cases e2
  · obtain ⟨u, a, b⟩ := h.2 j w' e2
    exact ⟨u, by rw [List.getElem?_set_ne hn]; exact a, b⟩
end
end Mp
end
section
set_option Elab.async false
set_option linter.all false
set_option maxRecDepth 100000
set_option autoImplicit false
/-! MpF: syntax at the rules' edges; readings as what the machine does; data compared. -/
namespace Mp
open PySem PySem.Spec PyProof.Rows L2

def noStar : Expr → Bool
  | .Starred _ _ => false
  | _ => true
def noSlice : Expr → Bool
  | .Slice _ _ _ _ => false
  | _ => true
def noSuper : Expr → Bool
  | .Call (.Name _ _) [] [] _ => false
  | _ => true
/-- a test's own form is none of the short-cut ones -/
def plainT : Expr → Bool
  | .UnaryOp .Not _ _ => false
  | .BoolOp _ _ _ => false
  | .IfExp _ _ _ _ => false
  | .Compare _ _ _ _ => false
  | _ => true
def noComp : Expr → Bool
  | .ListComp _ _ _ _ => false
  | .SetComp _ _ _ _ => false
  | .DictComp _ _ _ _ _ => false
  | _ => true
def noSet : Expr → Bool
  | .Set _ _ _ => false
  | _ => true

theorem starEach_cons {e : Expr} {es : List Expr} {env : Env} (h : noStar e = true) : starEach (e :: es) env = (false, eval e env) :: starEach es env := by
  cases e <;> first | rfl | cases h
theorem star_plain {pos : Pos} {env : Env} : ∀ {es : List Expr}, es.all noStar = true → (backTo pos (starEach es env)).any (·.1) = false
  | [], _ => rfl
  | e :: es, h => by
    rw [List.all_cons, Bool.and_eq_true] at h
    rw [starEach_cons h.1]
    have ih := star_plain (pos := pos) (env := env) h.2
    unfold backTo at ih ⊢
    rw [List.map_cons, List.any_cons, ih]
    rfl
theorem plain_ix {b : Expr} (h : noSlice b = true) : PlainIx b := by
  intro o i
  cases b <;> first | rfl | cases h
theorem base_of {o : Expr} {f : Str} {env : Env} {whole : Sem Value} (h : noSuper o = true) : attributeBase o f env whole = whole := by
  unfold attributeBase
  split
  · cases h
  · rfl
theorem test_of {a : Expr} {env : Env} (h : plainT a = true) : ∀ whole, isTrue a env whole = (do let v ← whole; standAt a.pos; holding [v] (truthy v)) := by
  intro whole
  cases a with
  | UnaryOp op x pos => cases op <;> first | rfl | cases h
  | BoolOp _ _ _ => cases h
  | IfExp _ _ _ _ => cases h
  | Compare _ _ _ _ => cases h
  | _ => rfl
theorem swaps_no {e : Expr} {t : Option Expr} {l : Nat} {env : Env} (h : noComp e = true) : swapsWith e t l env = pure false := by
  cases e <;> first | rfl | cases h
theorem folded_no {e : Expr} {env : Env} (h : noSet e = true) : ∀ x, foldedSetIterable e env x = pure x := by
  intro x
  cases e <;> first | rfl | cases h
theorem marks_no {e : Expr} {op : CmpOp} (h : noSet e = true) : behindInMarks op e = false := by
  cases e <;> first | rfl | cases h

abbrev fx (X : Cx) : Fx := ⟨X.prog, X.w, X.K, X.mg, X.base⟩
/-! ### what the machine does, as readings -/
def ER (X : Cx) (e : Expr) : TE := fun σ H Q => ∀ pins s, Inv X pins σ H s → wpAny (model X.prog X.w) X.A (eval e X.env) (EP X pins σ Q) X.xe s
def ETr (X : Cx) (e : Expr) : TT := fun σ H Q => ∀ pins s, Inv X pins σ H s → wpAny (model X.prog X.w) X.A (isTrue e X.env (eval e X.env)) (TP X pins σ Q) X.xe s
def EAr (X : Cx) (es : List Expr) : TA := fun σ H Q => ∀ pos pins s, Inv X pins σ H s → wpAny (model X.prog X.w) X.A (spliced (backTo pos (starEach es X.env))) (AP X pins σ Q) X.xe s
def EXr (X : Cx) (st : Stmt) : TS := fun D σ H => ∀ pins s, Inv X pins σ H s → wpAny (model X.prog X.w) X.A (exec st X.env) (SP X pins D) X.xe s
def EXs (X : Cx) (st : List Stmt) : TS := fun D σ H => ∀ pins s, Inv X pins σ H s → wpAny (model X.prog X.w) X.A (execs st X.env) (SP X pins D) X.xe s
section
variable {X : Cx} {e : Expr} {es : List Expr} {σ : L2.St} {H : Hp}
theorem pe_er : PE X e (ER X e) := ⟨fun pins s _ _ _ I h => h pins s I⟩
theorem pt_er : PT X e (ETr X e) := ⟨fun pins s _ _ _ I h => h pins s I⟩
theorem pa_er : PA X es (EAr X es) := ⟨fun pos pins s _ _ _ I h => h pos pins s I⟩
theorem ps_er {st : Stmt} : PS X st (EXr X st) := ⟨fun pins s _ _ _ I h => h pins s I⟩
theorem pss_er {st : List Stmt} : PSs X st (EXs X st) := ⟨fun pins s _ _ _ I h => h pins s I⟩
theorem er_of {t : TE} (h : PE X e t) {Q : VK} (q : t σ H Q) : ER X e σ H Q := fun pins s I => h.run pins s σ H Q I q
theorem et_of {t : TT} (h : PT X e t) {Q : Bool → Hp → Prop} (q : t σ H Q) : ETr X e σ H Q := fun pins s I => h.run pins s σ H Q I q
theorem ea_of {t : TA} (h : PA X es t) {Q : List V → Hp → Prop} (q : t σ H Q) : EAr X es σ H Q := fun pos pins s I => h.run pos pins s σ H Q I q
theorem ex_of {st : Stmt} {t : TS} {D : Ends} (h : PS X st t) (q : t D σ H) : EXr X st D σ H := fun pins s I => h.run pins s σ H D I q
theorem exs_of {st : List Stmt} {t : TS} {D : Ends} (h : PSs X st t) (q : t D σ H) : EXs X st D σ H := fun pins s I => h.run pins s σ H D I q
theorem EXs.cons {st : Stmt} {r : List Stmt} {D : Ends} (h : EXr X st { D with nx := EXs X r D } σ H) : EXs X (st :: r) D σ H := exs_of (pss_cons ps_er pss_er) h
end

/-! ### data compared -/
mutual
theorem low_lay : ∀ (n : Nat) (d : P), low n d → PyData.canLay0 (pd d) = true ∧ (pd d).depth ≤ n
  | n, .non, _ => by simp [pd, PyData.canLay0, PyData.depth]
  | n, .bl b, _ => by simp [pd, PyData.canLay0, PyData.depth]
  | n, .int i, _ => by simp [pd, PyData.canLay0, PyData.depth]
  | n, .str s, h => by
    have h : PyData.strOk s = true := by cases n <;> exact h
    simp [pd, PyData.canLay0, PyData.depth, h]
  | 0, .tup ds, h => by cases h
  | 0, .lst ds, h => by cases h
  | 0, .fro ds, h => by cases h
  | n + 1, .tup ds, h => by
    have := low_lays n ds h
    simp only [pd, PyData.canLay0, PyData.depth]
    exact ⟨this.1, by omega⟩
  | n + 1, .lst ds, h => by
    have := low_lays n ds h
    simp only [pd, PyData.canLay0, PyData.depth]
    exact ⟨this.1, by omega⟩
  | n + 1, .fro ds, h => by
    have := low_lays n ds h
    simp only [pd, PyData.canLay0, PyData.depth]
    exact ⟨this.1, by omega⟩
  | n, .dic ks vs, h => by cases n <;> cases h
theorem low_lays : ∀ (n : Nat) (ds : List P), lows n ds → PyData.canLayAll0 (pds ds) = true ∧ PyData.depthAll (pds ds) ≤ n
  | n, [], _ => by simp [pds, PyData.canLayAll0, PyData.depthAll]
  | n, d :: ds, h => by
    have h := lows_cons h
    have h1 := low_lay n d h.1
    have h2 := low_lays n ds h.2
    simp only [pds, PyData.canLayAll0, PyData.depthAll]
    exact ⟨by rw [h1.1, h2.1]; rfl, by omega⟩
end
theorem low_shaped {d : P} (h : low 60 d) : SeqAt.shaped (pd d) = true := by
  have := low_lay 60 d h
  unfold SeqAt.shaped
  rw [this.1]
  simp only [Bool.true_and, decide_eq_true_eq]
  omega
section
variable {F : Fx} {G H : Hp}
mutual
theorem Is.dp (e : Same G H) : ∀ {n : Nat} {d : P} {v : V}, low n d → Is F G d v → Dp F.K H v (pd d)
  | n, .non, v, _, h => by simp only [Is] at h; rw [h]; exact .non
  | n, .bl b, v, _, h => by simp only [Is] at h; rw [h]; exact .bl b
  | n, .int i, v, _, h => by simp only [Is] at h; rw [h]; exact .int i
  | n, .str s, v, _, h => by simp only [Is] at h; rw [h]; exact .str s
  | 0, .tup ds, v, l, h => by cases l
  | 0, .lst ds, v, l, h => by cases l
  | 0, .fro ds, v, l, h => by cases l
  | n + 1, .tup ds, v, l, h => by
    simp only [Is] at h
    obtain ⟨a, vs, rfl, h2, h3⟩ := h
    exact .tup (sqT_mono e h2) (IsL.dp e (n := n) l h3)
  | n + 1, .lst ds, v, l, h => by
    simp only [Is] at h
    obtain ⟨a, vs, rfl, h2, h3⟩ := h
    exact .lst (SqL.of (e _ _ h2)) (IsL.dp e (n := n) l h3)
  | n + 1, .fro ds, v, l, h => by
    simp only [Is] at h
    obtain ⟨a, vs, rfl, h2, h3⟩ := h
    exact .lst (sqL_mono e h2) (IsL.dp e (n := n) l h3)
  | n, .dic ks vs, v, l, h => by cases n <;> cases l
theorem IsL.dp (e : Same G H) : ∀ {n : Nat} {ds : List P} {vs : List V}, lows n ds → IsL F G ds vs → DpAll F.K H vs (pds ds)
  | n, [], vs, _, h => by simp only [IsL] at h; rw [h]; exact .nil
  | n, d :: ds, vs, l, h => by
    have l := lows_cons l
    simp only [IsL] at h
    obtain ⟨v, r, rfl, h2, h3⟩ := h
    exact .cons (Is.dp e l.1 h2) (IsL.dp e l.2 h3)
end
theorem flat_is {d : P} {v : V} (hf : flatP d = true) (h : Is F G d v) : flatV v = true := by
  cases d <;> first | (simp only [Is] at h; rw [h]; rfl) | (cases hf; done)
theorem flat_eq {d e : P} {v u : V} (hf : flatP d = true) (hg : flatP e = true) (h : Is F G d v) (h' : Is F G e u) : eqV v u = peq d e := by
  cases d <;> first | (cases hf; done) | (simp only [Is] at h; subst h; cases e <;> first | (cases hg; done) | (simp only [Is] at h'; subst h'; simp [eqV, peq, pd, PyData.eqv]))
theorem flat_all : ∀ {ds : List P} {vs : List V}, ds.all flatP = true → IsL F G ds vs → vs.all flatV = true
  | [], vs, _, h => by simp only [IsL] at h; rw [h]; rfl
  | d :: ds, vs, l, h => by
    rw [List.all_cons, Bool.and_eq_true] at l
    simp only [IsL] at h
    obtain ⟨v, r, rfl, h2, h3⟩ := h
    rw [List.all_cons, flat_is l.1 h2, flat_all l.2 h3]
    rfl
theorem flat_any {x : P} {v : V} (hx : flatP x = true) (h : Is F G x v) : ∀ {ds : List P} {vs : List V}, ds.all flatP = true → IsL F G ds vs → inV v vs = ds.any fun z => peq z x
  | [], vs, _, h => by simp only [IsL] at h; rw [h]; rfl
  | d :: ds, vs, l, k => by
    rw [List.all_cons, Bool.and_eq_true] at l
    simp only [IsL] at k
    obtain ⟨u, r, rfl, h2, h3⟩ := k
    have ih := flat_any hx h l.2 h3
    unfold inV at ih ⊢
    rw [List.any_cons, List.any_cons, ih, flat_eq l.1 hx h2 h]
end
theorem pds_any {x : P} : ∀ ds : List P, ((pds ds).any fun z => PyData.eqv z (pd x)) = ds.any fun z => peq z x
  | [] => rfl
  | d :: ds => by
    simp only [pds]
    rw [List.any_cons, List.any_cons, pds_any ds]
    rfl
end Mp
end
section
set_option Elab.async false
set_option linter.all false
set_option maxRecDepth 100000
set_option autoImplicit false
/-! MpC: the reading of expressions and statements, one level; the levels; the defs. -/
namespace Mp
open PySem PySem.Spec PyProof.Rows L2

structure Lv where
  r : Ctx → Expr → En → Store → Res W
  t : Ctx → Expr → En → Store → Res Bool
  x : Ctx → Stmt → En → Store → SR

def vis (sc : Scope) (x : Str) : Bool := match sc.names.lookup x with
  | some .local => true
  | some .cell => true
  | some .free => true
  | _ => false
def glb (sc : Scope) (x : Str) : Bool := match sc.names.lookup x with
  | some .globalImplicit => true
  | _ => false
def locl (sc : Scope) (x : Str) : Bool := match sc.names.lookup x with
  | some .local => true
  | some .cell => true
  | _ => false
def slot : List Str → Str → Option Nat
  | [], _ => none
  | y :: r, x => if y = x then some 0 else (slot r x).map (· + 1)
def dunder (x : Str) : Bool := (x == ("__debug__" : Str)) || ((x == ("__classdict__" : Str)) || decide (x = "__name__"))

def getE (E : En) (i : Nat) : Option W := match E[i]? with
  | some (some w) => some w
  | _ => none
def okO {α : Type} (o : Option α) (S : Store) : Res α := match o with
  | some a => .ok a S
  | none => .bad
def alloc (c : Cell) (S : Store) : Res W := .ok (.o S.length) (S ++ [c])

/-- a part of a row, as Python cuts it -/
def cutL {α : Type} (xs : List α) (lo hi : Option Int) : List α := (xs.drop (HT.sIx xs.length 0 lo)).take (HT.sIx xs.length xs.length hi - HT.sIx xs.length 0 lo)

section
variable (cf : Cf) (call : Str × Option Str → List W → Store → Res W)

def nameR (ctx : Ctx) (x : Str) (E : En) : Option W :=
  if dunder x then none
  else if vis ctx.sc x then (match slot ctx.N x with
    | some i => getE E i
    | none => none)
  else if glb ctx.sc x then (cf.globs.lookup x).map .p
  else none
def tabOf (ctx : Ctx) (x : Str) : Option (List (Str × P)) := if glb ctx.sc x then cf.tabs.lookup x else none
def constR : Const → Option W
  | .none => some (.p .non)
  | .bool b => some (.p (.bl b))
  | .int i => some (.p (.int i))
  | .str s => some (.p (.str s))
  | _ => none

section
variable (L : Lv)
def Lv.v (ctx : Ctx) (e : Expr) (E : En) (S : Store) : Res P := frzR (L.r ctx e E S)
/-- what goes into an object: an instance as it is, all else as data -/
def keepO (r : Res W) : Res W := r.andThen fun w S => match w with
  | .p d => .ok (.p d) S
  | .o id => match S[id]? with
    | some (.ins c fs) => .ok (.o id) S
    | _ => (frzR (.ok (.o id) S)).andThen fun d S1 => .ok (.p d) S1
def Lv.k (ctx : Ctx) (e : Expr) (E : En) (S : Store) : Res W := keepO (L.r ctx e E S)
def Lv.vs (ctx : Ctx) : List Expr → En → Store → Res (List P)
  | [], _, S => .ok [] S
  | e :: es, E, S => if noStar e = true then (L.v ctx e E S).andThen fun d S1 => (Lv.vs ctx es E S1).andThen fun ds S2 => .ok (d :: ds) S2 else .bad

/-- a target's store -/
def storable (ctx : Ctx) (x : Str) : Bool := match ctx.sc.names.lookup x with
  | some .local => true
  | some .cell => ctx.cw x
  | _ => false
def bind1 (ctx : Ctx) (x : Str) (w : W) (E : En) : Option En :=
  if storable ctx x then (match slot ctx.N x with
    | some i => if i < E.length then some (E.set i (some w)) else none
    | none => none)
  else none
def bindNs (ctx : Ctx) : List Expr → List P → En → Option En
  | [], [], E => some E
  | .Name x _ :: es, d :: ds, E => match bind1 ctx x (.p d) E with
    | some E1 => bindNs ctx es ds E1
    | none => none
  | _, _, _ => none
def bindT (ctx : Ctx) : Expr → W → En → Option En
  | .Name x _, w, E => bind1 ctx x w E
  | .Tuple es _ _, .p (.tup ds), E => bindNs ctx es ds E
  | _, _, _ => none

/-! ### targets, resolved -/
inductive Tg where
  | one (i : Nat) | many (is : List Nat) | no
def slotS (ctx : Ctx) (x : Str) : Option Nat := if storable ctx x then slot ctx.N x else none
def slotsS (ctx : Ctx) : List Expr → Option (List Nat)
  | [] => some []
  | .Name x _ :: es => (match slotS ctx x, slotsS ctx es with
    | some i, some is => some (i :: is)
    | _, _ => none)
  | _ => none
def tgR (ctx : Ctx) : Expr → Tg
  | .Name x _ => (match slotS ctx x with
    | some i => .one i
    | none => .no)
  | .Tuple es _ _ => (match slotsS ctx es with
    | some is => .many is
    | none => .no)
  | _ => .no
def setG (i : Nat) (w : W) (E : En) : Option En := if i < E.length then some (E.set i (some w)) else none
def setsG : List Nat → List P → En → Option En
  | [], [], E => some E
  | i :: is, d :: ds, E => (match setG i (.p d) E with
    | some E1 => setsG is ds E1
    | none => none)
  | _, _, _ => none
def bindG : Tg → W → En → Option En
  | .one i, w, E => setG i w E
  | .many is, w, E => (match w with
    | .p (.tup ds) => setsG is ds E
    | _ => none)
  | .no, _, _ => none
theorem bind1_G {ctx : Ctx} {x : Str} {i : Nat} {w : W} {E : En} (h : slotS ctx x = some i) : bind1 ctx x w E = setG i w E := by
  unfold slotS at h
  unfold bind1 setG
  split at h
  · rename_i hs
    rw [if_pos hs, h]
  · cases h
theorem bindNs_G {ctx : Ctx} : ∀ {es : List Expr} {is : List Nat} {ds : List P} {E E1 : En}, slotsS ctx es = some is → setsG is ds E = some E1 → bindNs ctx es ds E = some E1
  | [], is, ds, E, E1, h, e => by
    cases h
    cases ds with
    | nil => exact e
    | cons d ds => cases e
  | e0 :: es, is, ds, E, E1, h, e => by
    cases e0 with
    | Name x p =>
      unfold slotsS at h
      split at h
      · rename_i i is' h1 h2
        cases h
        cases ds with
        | nil => cases e
        | cons d ds =>
          unfold setsG at e
          unfold bindNs
          simp only [bind1_G h1]
          split at e
          · exact bindNs_G h2 e
          · cases e
      · cases h
    | _ => cases h
theorem bindG_T {ctx : Ctx} {tg : Expr} {w : W} {E E1 : En} (e : bindG (tgR ctx tg) w E = some E1) : bindT ctx tg w E = some E1 := by
  unfold tgR at e
  split at e
  · split at e
    · rename_i h
      show bind1 _ _ _ _ = _
      rw [bind1_G h]; exact e
    · cases e
  · split at e
    · rename_i is h
      cases w with
      | o id => cases e
      | p d =>
        cases d with
        | tup ds => exact bindNs_G h e
        | _ => cases e
    · cases e
  · cases e
/-! ### what is walked: the items; the cell that must stand meanwhile -/
structure Src where
  ws : List W
  gd : Option Nat
def srcOf (S : Store) : W → Option Src
  | .p (.lst ds) => some ⟨ds.map .p, none⟩
  | .p (.fro ds) => some ⟨ds.map .p, none⟩
  | .p (.tup ds) => some ⟨ds.map .p, none⟩
  | .p (.str z) => some ⟨z.cps.toList.map fun c => .p (.str ⟨#[c]⟩), none⟩
  | .o id => match S[id]? with
    | some (.lst ws) => some ⟨ws, some id⟩
    | some (.fz (.lst ds)) => some ⟨ds.map .p, none⟩
    | _ => none
  | _ => none
def rangeP (lo : Int) (n : Nat) : List W := (List.range n).map fun (i : Nat) => W.p (.int (lo + (i : Int)))
def pairsP (i : Nat) : List P → List W
  | [] => []
  | d :: ds => W.p (.tup [.int (i : Int), d]) :: pairsP (i + 1) ds
def isTup : Expr → Bool
  | .Tuple _ _ _ => true
  | _ => false
/-- the source stands -/
def Src.ok (s : Src) (S : Store) : Prop := match s.gd with
  | none => True
  | some id => S[id]? = some (.lst s.ws)
instance {s : Src} {S : Store} : Decidable (s.ok S) := by
  unfold Src.ok
  cases s.gd with
  | none => exact instDecidableTrue
  | some id => exact inferInstance
def srcE (ctx : Ctx) (tg e : Expr) (E : En) (S : Store) : Res Src := match e with
  | .Call (.Name x _) [a] [] _ =>
    if glb ctx.sc x = true ∧ x = "range" then (if noStar a = true then (L.v ctx a E S).andThen fun d S1 => match d with
      | .int j => if -(2 ^ 62) ≤ j ∧ j < 2 ^ 62 then .ok ⟨rangeP 0 j.toNat, none⟩ S1 else .bad
      | _ => .bad else .bad)
    else if glb ctx.sc x = true ∧ x = "enumerate" then (if noStar a = true ∧ isTup tg = true then (L.v ctx a E S).andThen fun d S1 => match d with
      | .lst ds => .ok ⟨pairsP 0 ds, none⟩ S1
      | .tup ds => .ok ⟨pairsP 0 ds, none⟩ S1
      | _ => .bad else .bad)
    else (L.r ctx e E S).andThen fun w S1 => okO (srcOf S1 w) S1
  | .Call (.Name x _) [a, b] [] _ =>
    if glb ctx.sc x = true ∧ x = "range" then (if noStar a = true ∧ noStar b = true then (L.v ctx a E S).andThen fun d S1 => (L.v ctx b E S1).andThen fun d2 S2 => match d, d2 with
      | .int i, .int j => if -(2 ^ 62) ≤ i ∧ i < 2 ^ 62 ∧ -(2 ^ 62) ≤ j ∧ j < 2 ^ 62 then .ok ⟨rangeP i (j - i).toNat, none⟩ S2 else .bad
      | _, _ => .bad else .bad)
    else (L.r ctx e E S).andThen fun w S1 => okO (srcOf S1 w) S1
  | _ => (L.r ctx e E S).andThen fun w S1 => okO (srcOf S1 w) S1

/-! ### comprehensions -/
def nameOwn (N : List Str) : Expr → List (Str × Nat)
  | .Name x _ => match slot N x with
    | some i => [(x, i)]
    | none => []
  | _ => []
def ownOf (N : List Str) : Expr → List (Str × Nat)
  | .Tuple es _ _ => es.flatMap (nameOwn N)
  | e => nameOwn N e
def wipeE (E : En) : List (Str × Nat) → En
  | [] => E
  | p :: r => (wipeE E r).set p.2 none
/-- an item's part of a comprehension -/
def stepG (tg : Tg) (tt : En → Store → Res Bool) (ee : En → Store → Res W) (E : En) (w : W) (S : Store) : Res (Option W) := match bindG tg w E with
  | some E1 => (tt E1 S).andThen fun b S1 => if b = true then (ee E1 S1).andThen fun y S2 => .ok (some y) S2 else .ok none S1
  | none => .bad
def consO (o : Option W) (ys : List W) : List W := match o with
  | some y => y :: ys
  | none => ys
def compS (src : Src) (step : W → Store → Res (Option W)) : List W → Store → Res (List W)
  | [], S => if src.ok S then .ok [] S else .bad
  | w :: ws, S => if src.ok S then (step w S).andThen fun o S1 => (compS src step ws S1).andThen fun ys S2 => .ok (consO o ys) S2 else .bad
def compL (ctx : Ctx) (src : Src) (tg : Expr) (tt : En → Store → Res Bool) (ee : En → Store → Res W) (E : En) : List W → Store → Res (List W)
  | [], S => if src.ok S then .ok [] S else .bad
  | w :: ws, S => if src.ok S then (match bindG (tgR ctx tg) w E with
    | some E1 => (tt E1 S).andThen fun b S1 => if b = true then (ee E1 S1).andThen fun y S2 => (compL ctx src tg tt ee E ws S2).andThen fun ys S3 => .ok (y :: ys) S3 else compL ctx src tg tt ee E ws S1
    | none => .bad) else .bad
theorem andThen_assoc {α β γ : Type} (r : Res α) (f : α → Store → Res β) (g : β → Store → Res γ) : (r.andThen f).andThen g = r.andThen fun a S => (f a S).andThen g := by
  cases r <;> rfl
theorem andThen_ok {α : Type} (r : Res α) : (r.andThen fun a S => .ok a S) = r := by
  cases r <;> rfl
theorem compL_eq {ctx : Ctx} {src : Src} {tg : Expr} {tt : En → Store → Res Bool} {ee : En → Store → Res W} {E : En} : ∀ (ws : List W) (S : Store), compL ctx src tg tt ee E ws S = compS src (stepG (tgR ctx tg) tt ee E) ws S
  | [], S => rfl
  | w :: ws, S => by
    unfold compL compS stepG
    split
    · cases bindG (tgR ctx tg) w E with
      | none => rfl
      | some E1 =>
        dsimp only
        rw [andThen_assoc]
        congr 1
        funext b S1
        cases b with
        | true =>
          rw [if_pos rfl, if_pos rfl, andThen_assoc]
          congr 1
          funext y S2
          rw [compL_eq ws S2]
          rfl
        | false =>
          rw [if_neg Bool.false_ne_true, if_neg Bool.false_ne_true, compL_eq ws S1]
          exact (andThen_ok _).symm
    · rfl
def testsT (ctx : Ctx) : List Expr → En → Store → Res Bool
  | [], _, S => .ok true S
  | [c], E, S => L.t ctx c E S
  | _, _, _ => .bad
/-- a comprehension's block seen from within -/
def blkCtx (ctx : Ctx) (scope : Scope) : Ctx := ⟨ctx.N, relS scope ctx.sc, [], false, fun x => scope.names.lookup x == some .cell, false⟩
def compE (ctx : Ctx) (elt tg it : Expr) (ifs : List Expr) (scope : Scope) (ee : Ctx → Expr → En → Store → Res W) (E : En) (S : Store) : Res (List W) :=
  if blkC ctx.N ctx.sc scope (ownOf ctx.N tg) = true ∧ noSet it = true then (srcE L ctx tg it E S).andThen fun src S1 =>
    (if src.ws.length ≤ sizeLine then compS src (stepG (tgR (blkCtx ctx scope) tg) (testsT L (blkCtx ctx scope) ifs) (ee (blkCtx ctx scope) elt) (wipeE E (ownOf ctx.N tg))) src.ws S1 else .bad)
  else .bad
def datsOf : List W → Option (List P)
  | [] => some []
  | .p d :: r => (datsOf r).map (d :: ·)
  | _ => none

/-! ### an own list made -/
def isTupW : W → Bool
  | .p (.tup _) => true
  | _ => false
def partR (ctx : Ctx) (e : Option Expr) (E : En) (S : Store) : Res (Option Int) := match e with
  | none => .ok none S
  | some e => (L.v ctx e E S).andThen fun d S1 => match d with
    | .int i => .ok (some i) S1
    | _ => .bad
def allocR (ctx : Ctx) (e : Expr) (E : En) (S : Store) : Res W := match e with
  | .List es _ => (L.vs ctx es E S).andThen fun ds S1 => if ds.length ≤ sizeLine then alloc (.lst (ds.map .p)) S1 else .bad
  | .ListComp elt [⟨tg, it, ifs, 0⟩] scope _ => (compE L ctx elt tg it ifs scope L.k E S).andThen fun ys S1 => alloc (.lst ys) S1
  | .Call (.Name x _) [a] [] _ => if glb ctx.sc x = true ∧ x = "list" then (if noStar a = true then (L.r ctx a E S).andThen fun w S1 => match seqOf S1 w with
      | some ws => if ws.length ≤ sizeLine then alloc (.lst ws) S1 else .bad
      | none => .bad else .bad)
    else L.r ctx e E S
  | .BinOp a .Add b _ => (L.v ctx a E S).andThen fun d S1 => (L.v ctx b E S1).andThen fun d2 S2 => (match d, d2 with
    | .lst xs, .lst ys => if xs.length + ys.length ≤ sizeLine then alloc (.lst ((xs ++ ys).map .p)) S2 else .bad
    | _, _ => .bad)
  | .Subscript a (.Slice lo hi none _) _ => (L.r ctx a E S).andThen fun w S1 => (partR L ctx lo E S1).andThen fun l S2 => (partR L ctx hi E S2).andThen fun h S3 => (match isTupW w, seqOf S3 w with
    | false, some ws => alloc (.lst (cutL ws l h)) S3
    | _, _ => .bad)
  | _ => L.r ctx e E S
/-- arguments, each as its parameter wants it -/
def argsR (ctx : Ctx) : List Bool → List Expr → En → Store → Res (List W)
  | _, [], _, S => .ok [] S
  | m :: ms, e :: es, E, S => if noStar e = true then (if m = true then allocR L ctx e E S else (L.v ctx e E S).andThen fun d S1 => .ok (.p d) S1).andThen fun w S1 => (argsR ctx ms es E S1).andThen fun ws S2 => .ok (w :: ws) S2 else .bad
  | [], e :: es, E, S => .bad

def fnOf (key : Str × Option Str) : Option Fn := cf.fns.find? fun f => decide (f.key = key)
def strsOf : List P → Option (List Str)
  | [] => some []
  | .str s :: r => (strsOf r).map (s :: ·)
  | _ => none
def intsOf : List P → Option (List Int)
  | [] => some []
  | .int s :: r => (intsOf r).map (s :: ·)
  | _ => none

/-! ### built-ins -/
def lenR (S : Store) (w : W) : Option P := match seqOf S w with
  | some ws => some (.int (ws.length : Int))
  | none => match datOf S w with
    | some (.str z) => if z.length ≤ sizeLine then some (.int (z.length : Int)) else none
    | _ => none
def listR (S : Store) (w : W) : Option P := match seqOf S w with
  | some ws => if ws.length ≤ sizeLine then (datsOf ws).map .lst else none
  | none => none
def intR : P → Option P
  | .int i => some (.int i)
  | .bl b => some (.int (if b then 1 else 0))
  | _ => none
def strR : P → Option P
  | .int i => if i.natAbs.log2 < 1920 then some (.str (toString i)) else none
  | _ => none
def absR : P → Option P
  | .int i => some (.int (if i < 0 then -i else i))
  | _ => none
def tupleR : P → Option P
  | .lst ds => some (.tup ds)
  | .tup ds => some (.tup ds)
  | _ => none
def maxR : P → P → Option P
  | .int i, .int j => some (.int (if j > i then j else i))
  | _, _ => none
def minR : P → P → Option P
  | .int i, .int j => some (.int (if j < i then j else i))
  | _, _ => none
/-- isinstance against bool, int, str, tuple -/
def tyNm (t : Str) : Option String := if t = "bool" then some "bool" else if t = "int" then some "int" else if t = "str" then some "str" else if t = "tuple" then some "tuple" else none
def isTy (ty : String) : P → Option Bool
  | .bl _ => some (ty == "bool" || ty == "int")
  | .int _ => some (ty == "int")
  | .str _ => some (ty == "str")
  | .non => some false
  | .tup _ => some (ty == "tuple")
  | _ => none
def callB1 (ctx : Ctx) (x : Str) (a : Expr) (E : En) (S : Store) : Res W :=
  if x = "len" then (L.r ctx a E S).andThen fun w S1 => okO ((lenR S1 w).map .p) S1
  else if x = "list" then (L.r ctx a E S).andThen fun w S1 => okO ((listR S1 w).map .p) S1
  else if x = "int" then (L.v ctx a E S).andThen fun d S1 => okO ((intR d).map .p) S1
  else if x = "str" then (L.v ctx a E S).andThen fun d S1 => okO ((strR d).map .p) S1
  else if x = "abs" then (L.v ctx a E S).andThen fun d S1 => okO ((absR d).map .p) S1
  else if x = "tuple" then (L.v ctx a E S).andThen fun d S1 => okO ((tupleR d).map .p) S1
  else .bad
def callB2 (ctx : Ctx) (x : Str) (a b : Expr) (E : En) (S : Store) : Res W :=
  if x = "max" then (L.v ctx a E S).andThen fun d S1 => (L.v ctx b E S1).andThen fun d2 S2 => okO ((maxR d d2).map .p) S2
  else if x = "min" then (L.v ctx a E S).andThen fun d S1 => (L.v ctx b E S1).andThen fun d2 S2 => okO ((minR d d2).map .p) S2
  else if x = "isinstance" then (match b with
    | .Name t _ => if glb ctx.sc t = true then (match tyNm t with
      | some ty => (L.v ctx a E S).andThen fun d S1 => okO (((isTy ty d).map P.bl).map W.p) S1
      | none => .bad) else .bad
    | _ => .bad)
  else .bad
def exGuard (ctx : Ctx) {α : Type} (r : Res α) : Res α := match r with
  | .exc y S => if ctx.exOk then .exc y S else .bad
  | r => r
def isP : W → Bool
  | .p _ => true
  | .o _ => false
/-- a call; where all is data, the callee sees no store -/
def callW (pure : Bool) (key : Str × Option Str) (ws : List W) (S : Store) : Res W :=
  if (pure && ws.all isP) = true then (match call key ws [] with
    | .ok w _ => (match w with
      | .p d => .ok (.p d) S
      | .o _ => .bad)
    | .exc x _ => .exc x S
    | .bad => .bad) else call key ws S
def callN (ctx : Ctx) (x : Str) (args : List Expr) (E : En) (S : Store) : Res W :=
  if glb ctx.sc x = true ∧ dunder x = false then (match fnOf cf (x, none) with
    | some f => if args.all noStar = true then (argsR L ctx f.asis args E S).andThen fun ws S1 => if ws.length = f.ps.length then exGuard ctx (callW call (!f.retAs) (x, none) ws S1) else .bad else .bad
    | none => match args with
      | [a] => if noStar a = true then callB1 L ctx x a E S else .bad
      | [a, b] => if noStar a = true ∧ noStar b = true then callB2 L ctx x a b E S else .bad
      | _ => .bad)
  else .bad

/-! ### methods of built-in kinds -/
def lstAt (S : Store) (id : Nat) : Bool := match S[id]? with
  | some (.lst _) => true
  | _ => false
def methB (ctx : Ctx) (o : Expr) (m : Str) (args : List Expr) (E : En) (S : Store) : Res W := match args with
  | [a] =>
    if noStar a = true ∧ noSuper o = true then (if m = "append" then (L.r ctx o E S).andThen fun w S1 => (match w with
        | .o id => if lstAt S1 id = true then (L.k ctx a E S1).andThen fun y S2 => (match S2[id]? with
          | some (.lst ws) => if ws.length < sizeLine then .ok (.p .non) (S2.set id (.lst (ws ++ [y]))) else .bad
          | _ => .bad) else .bad
        | _ => .bad)
      else if m = "extend" then (L.r ctx o E S).andThen fun w S1 => (match w with
        | .o id => if lstAt S1 id = true then (L.v ctx a E S1).andThen fun y S2 => (match S2[id]?, y with
          | some (.lst ws), .lst ds => if ws.length + ds.length ≤ sizeLine then .ok (.p .non) (S2.set id (.lst (ws ++ ds.map .p))) else .bad
          | _, _ => .bad) else .bad
        | _ => .bad)
      else if m = "join" then (L.v ctx o E S).andThen fun d S1 => (match d with
          | .str z => (L.v ctx a E S1).andThen fun y S2 => (match y with
            | .lst ds => (match strsOf ds with
              | some ys => if (ys.map (·.length)).sum + ys.length * z.length ≤ 16777216 then .ok (.p (.str (Txt.join z ys))) S2 else .bad
              | none => .bad)
            | _ => .bad)
          | _ => .bad)
      else if m = "split" then (L.v ctx o E S).andThen fun d S1 => (match d with
          | .str z => (L.v ctx a E S1).andThen fun y S2 => (match y with
            | .str b => if (b.length == 0) = false ∧ z.length + 2 ≤ sizeLine then .ok (.p (.lst ((Txt.split z b).map .str))) S2 else .bad
            | _ => .bad)
          | _ => .bad)
      else .bad)
    else .bad
  | _ => .bad

/-! ### comparisons -/
def inR (S : Store) (neg : Bool) (d : P) (w : W) : Option Bool := match w with
  | .p (.tup ds) => if flatP d = true ∧ ds.all flatP = true then some (if neg then !(ds.any fun z => peq z d) else ds.any fun z => peq z d) else none
  | w => match seqOf S w with
    | some ws => (match datsOf ws with
      | some ds => if low 60 d ∧ low 60 (.lst ds) then some (if neg then !(ds.any fun z => peq z d) else ds.any fun z => peq z d) else none
      | none => none)
    | none => none
def cmpE (ctx : Ctx) (a : Expr) (op : CmpOp) (b : Expr) (E : En) (S : Store) : Res Bool :=
  if noSet b = true then (match op with
    | .In => (L.v ctx a E S).andThen fun d S1 => (L.r ctx b E S1).andThen fun w S2 => okO (inR S2 false d w) S2
    | .NotIn => (L.v ctx a E S).andThen fun d S1 => (L.r ctx b E S1).andThen fun w S2 => okO (inR S2 true d w) S2
    | _ => (L.v ctx a E S).andThen fun d S1 => (L.v ctx b E S1).andThen fun d2 S2 => okO (cmpop op d d2) S2)
  else .bad
def boolV (ctx : Ctx) (op : BoolOp) : List Expr → En → Store → Res P
  | [], _, _ => .bad
  | [a], E, S => L.v ctx a E S
  | a :: b :: r, E, S => (L.v ctx a E S).andThen fun d S1 => match d, op with
    | .bl true, .And => boolV ctx op (b :: r) E S1
    | .bl false, .And => .ok (.bl false) S1
    | .bl true, .Or => .ok (.bl true) S1
    | .bl false, .Or => boolV ctx op (b :: r) E S1
    | _, _ => .bad
def boolT (ctx : Ctx) (op : BoolOp) : List Expr → En → Store → Res Bool
  | [], _, _ => .bad
  | [a], E, S => L.t ctx a E S
  | a :: b :: r, E, S => (L.t ctx a E S).andThen fun c S1 => match c, op with
    | true, .And => boolT ctx op (b :: r) E S1
    | false, .And => .ok false S1
    | true, .Or => .ok true S1
    | false, .Or => boolT ctx op (b :: r) E S1

/-! ### texts with parts -/
def fmtR (ctx : Ctx) (e : Expr) (E : En) (S : Store) : Res Str := match e with
  | .FormattedValue a (-1) none _ => (L.v ctx a E S).andThen fun d S1 => (match d with
    | .str z => if z.length ≤ sizeLine then .ok z S1 else .bad
    | .int i => if i.natAbs.log2 < 1920 then .ok (toString i) S1 else .bad
    | _ => .bad)
  | .Constant (.str z) _ _ => .ok z S
  | _ => .bad
def fmtsR (ctx : Ctx) : List Expr → Str → En → Store → Res Str
  | [], acc, _, S => .ok acc S
  | e :: es, acc, E, S => (fmtR L ctx e E S).andThen fun z S1 => if (acc ++ z).length ≤ sizeLine then fmtsR ctx es (acc ++ z) E S1 else .bad

def chainE (ctx : Ctx) (a : Expr) (op : CmpOp) (b : Expr) (op' : CmpOp) (c : Expr) (E : En) (S : Store) : Res Bool :=
  if noSet b = true ∧ noSet c = true then (L.v ctx a E S).andThen fun d S1 => (L.v ctx b E S1).andThen fun d2 S2 => (match cmpop op d d2 with
    | some true => (L.v ctx c E S2).andThen fun d3 S3 => okO (cmpop op' d2 d3) S3
    | some false => .ok false S2
    | none => .bad) else .bad
/-! ### an expression -/
def sliceR (S : Store) (w : W) (lo hi : Option Int) : Option P := match w with
  | .p (.tup ds) => some (.tup (cutL ds lo hi))
  | w => match seqOf S w with
    | some ws => (datsOf (cutL ws lo hi)).map .lst
    | none => match datOf S w with
      | some (.str z) => if z.length ≤ sizeLine then some (.str (cutS z lo hi)) else none
      | _ => none
def stepR (ctx : Ctx) (e : Expr) (E : En) (S : Store) : Res W := match e with
  | .Name x _ => okO (nameR cf ctx x E) S
  | .Constant c _ _ => okO (constR c) S
  | .BinOp a op b _ => (L.v ctx a E S).andThen fun d S1 => (L.v ctx b E S1).andThen fun d2 S2 => okO ((binop op d d2).map .p) S2
  | .UnaryOp .Not a _ => (L.v ctx a E S).andThen fun d S1 => (match d with
    | .bl b => .ok (.p (.bl (!b))) S1
    | _ => .bad)
  | .UnaryOp .USub a _ => (L.v ctx a E S).andThen fun d S1 => (match d with
    | .int i => .ok (.p (.int (-i))) S1
    | _ => .bad)
  | .BoolOp op vs _ => (boolV L ctx op vs E S).andThen fun d S1 => .ok (.p d) S1
  | .IfExp t a b _ => (L.t ctx t E S).andThen fun c S1 => if c = true then L.r ctx a E S1 else L.r ctx b E S1
  | .Compare a [op] [b] _ => (cmpE L ctx a op b E S).andThen fun k S1 => .ok (.p (.bl k)) S1
  | .Compare a [op, op'] [b, c] _ => (chainE L ctx a op b op' c E S).andThen fun k S1 => .ok (.p (.bl k)) S1
  | .Subscript a (.Slice lo hi none _) _ => (L.r ctx a E S).andThen fun w S1 => (partR L ctx lo E S1).andThen fun l S2 => (partR L ctx hi E S2).andThen fun h S3 => okO ((sliceR S3 w l h).map .p) S3
  | .Subscript (.Name t _) i _ => (match tabOf cf ctx t with
    | some kvs => if noSlice i = true ∧ dunder t = false then (L.v ctx i E S).andThen fun d S1 => okO ((match d with | .str z => kvs.lookup z | _ => none).map .p) S1 else .bad
    | none => if noSlice i = true then okO (nameR cf ctx t E) S |>.andThen fun w S1 => (L.v ctx i E S1).andThen fun d S2 => okO (idxW S2 w d) S2 else .bad)
  | .Subscript a i _ => if noSlice i = true then (L.r ctx a E S).andThen fun w S1 => (L.v ctx i E S1).andThen fun d S2 => okO (idxW S2 w d) S2 else .bad
  | .Call (.Name x _) args [] _ => callN cf call L ctx x args E S
  | .Call (.Attribute o m apos) args [] pos => if (apos.endLine == pos.line) = true then methB L ctx o m args E S else .bad
  | .ListComp elt [⟨tg, it, ifs, 0⟩] scope _ => (compE L ctx elt tg it ifs scope L.k E S).andThen fun ys S1 => okO ((datsOf ys).map fun ds => .p (.lst ds)) S1
  | .JoinedStr [p] _ => (fmtR L ctx p E S).andThen fun z S1 => .ok (.p (.str z)) S1
  | .JoinedStr ps _ => if 2 ≤ ps.length then (fmtsR L ctx ps Str.empty E S).andThen fun z S1 => .ok (.p (.str z)) S1 else .bad
  | .Tuple es _ _ => (L.vs ctx es E S).andThen fun ds S1 => if ds.length ≤ sizeLine then .ok (.p (.tup ds)) S1 else .bad
  | .List es _ => (L.vs ctx es E S).andThen fun ds S1 => if ds.length ≤ sizeLine then .ok (.p (.lst ds)) S1 else .bad
  | _ => .bad
def stepT (ctx : Ctx) (e : Expr) (E : En) (S : Store) : Res Bool := match e with
  | .UnaryOp .Not a _ => (L.t ctx a E S).andThen fun c S1 => .ok (!c) S1
  | .BoolOp op vs _ => boolT L ctx op vs E S
  | .Compare a [op] [b] _ => cmpE L ctx a op b E S
  | .Compare a [op, op'] [b, c] _ => chainE L ctx a op b op' c E S
  | e => if plainT e = true then (L.r ctx e E S).andThen fun w S1 => okO (truOf S1 w) S1 else .bad
end
end
end Mp
end
section
set_option Elab.async false
set_option linter.all false
set_option maxRecDepth 100000
set_option autoImplicit false
set_option maxHeartbeats 1000000
/-! MpG: the reading of expressions is sound, form by form. -/
namespace Mp
open PySem PySem.Spec PyProof.Rows L2

/-- a context that the reading speaks of -/
structure Sit (k : Nat) (X : Cx) (ctx : Ctx) (Wx : WX) : Prop where
  N : X.N = ctx.N
  sc : X.env.scope = ctx.sc
  nd : X.N.Nodup
  calm : X.calm = true
  room1 : Room (k + 1) X.A
  tk : ctx.exOk = true → Takes X Wx
  fn : ∀ x, ctx.cw x = true → X.fn x = true

theorem Sit.room {k : Nat} {X : Cx} {ctx : Ctx} {Wx : WX} (s : Sit k X ctx Wx) : Room k X.A := s.room1.mono (Nat.le_succ _)
def bNames : List Str := ["len", "list", "int", "str", "abs", "tuple", "max", "min", "isinstance", "range", "enumerate", "bool", "sorted", "sum", "repr", "reversed", "zip", "ord"]
/-- what the module holds -/
structure CfOk (F : Fx) (cf : Cf) : Prop where
  globs : ∀ x d, cf.globs.lookup x = some d → ∃ u v, F.mg x = some u ∧ RelV v u ∧ ∀ G, Is F G d v
  tabs : ∀ x kvs, cf.tabs.lookup x = some kvs → ∃ a, F.mg x = some (.ref a) ∧ ∀ z d, kvs.lookup z = some d → ∃ v, KDct F.K F.w a z v ∧ ∀ G, Is F G d v
  free : ∀ x, x ∈ bNames → F.mg x = none

section
variable {X : Cx} {Wx : WX} {σ : L2.St} {m : Nat → Addr} {G H : Hp} {S : Store}
def SoE (X : Cx) (Wx : WX) (σ : L2.St) (m : Nat → Addr) (G H : Hp) (S : Store) (e : Expr) (r : Res W) : Prop :=
  ∀ Q : VK, Post (fx X) Wx σ m G H S r (fun w m' G' H' S' => ∀ v, IsW (fx X) G' m' S'.length w v → Q v H') → ER X e σ H Q
def SoV (X : Cx) (Wx : WX) (σ : L2.St) (m : Nat → Addr) (G H : Hp) (S : Store) (e : Expr) (r : Res P) : Prop :=
  ∀ Q : VK, Post (fx X) Wx σ m G H S r (fun d m' G' H' S' => ∀ v, Is (fx X) G' d v → Q v H') → ER X e σ H Q
def SoT (X : Cx) (Wx : WX) (σ : L2.St) (m : Nat → Addr) (G H : Hp) (S : Store) (e : Expr) (r : Res Bool) : Prop :=
  ∀ Q : Bool → Hp → Prop, Post (fx X) Wx σ m G H S r (fun b m' G' H' S' => Q b H') → ETr X e σ H Q
def SoA (X : Cx) (Wx : WX) (σ : L2.St) (m : Nat → Addr) (G H : Hp) (S : Store) (es : List Expr) (r : Res (List W)) : Prop :=
  ∀ Q : List V → Hp → Prop, Post (fx X) Wx σ m G H S r (fun ws m' G' H' S' => ∀ vs, IsWL (fx X) G' m' S'.length ws vs → Q vs H') → EAr X es σ H Q
def SoAv (X : Cx) (Wx : WX) (σ : L2.St) (m : Nat → Addr) (G H : Hp) (S : Store) (es : List Expr) (r : Res (List P)) : Prop :=
  ∀ Q : List V → Hp → Prop, Post (fx X) Wx σ m G H S r (fun ws m' G' H' S' => ∀ vs, IsL (fx X) G' ws vs → Q vs H') → EAr X es σ H Q

theorem SoE.v {e : Expr} {r : Res W} (h : SoE X Wx σ m G H S e r) : SoV X Wx σ m G H S e (frzR r) := fun Q q =>
  h Q ((Post.frzR q).imp fun w m1 G1 H1 S1 R1 st1 k v hv => by
    obtain ⟨d, G2, S2, R2, st2, i2, k2⟩ := k v hv
    exact k2 v i2)
end
/-- the levels' soundness -/
def OkR (cf : Cf) (k : Nat) (F : Fx) (L : Lv) : Prop := ∀ ctx e X Wx σ E m G H S, fx X = F → Sit k X ctx Wx → Rel F m G H S → EnvRel F G m S.length σ E → SoE X Wx σ m G H S e (L.r ctx e E S)
def OkT (cf : Cf) (k : Nat) (F : Fx) (L : Lv) : Prop := ∀ ctx e X Wx σ E m G H S, fx X = F → Sit k X ctx Wx → Rel F m G H S → EnvRel F G m S.length σ E → SoT X Wx σ m G H S e (L.t ctx e E S)

section
variable {cf : Cf} {k : Nat} {F : Fx} {L : Lv} {X : Cx} {Wx : WX} {ctx : Ctx} {σ : L2.St} {E : En} {m : Nat → Addr} {G H : Hp} {S : Store}

theorem ok_v (hR : OkR cf k F L) {e : Expr} (hF : fx X = F) (sit : Sit k X ctx Wx) (R : Rel F m G H S) (en : EnvRel F G m S.length σ E) : SoV X Wx σ m G H S e (L.v ctx e E S) := (hR ctx e X Wx σ E m G H S hF sit R en).v

/-- a value, then what follows -/
theorem go_v {e : Expr} (hR : OkR cf k F L) (hF : fx X = F) (sit : Sit k X ctx Wx) (R : Rel F m G H S) (en : EnvRel F G m S.length σ E) {α : Type} {f : P → Store → Res α} {K : α → (Nat → Addr) → Hp → Hp → Store → Prop}
    (h : Post F Wx σ m G H S ((L.v ctx e E S).andThen f) K) {Q : VK} (q : ∀ d m1 G1 H1 S1, Rel F m1 G1 H1 S1 → EnvRel F G1 m1 S1.length σ E → Stp m G H S m1 G1 H1 S1 → Post F Wx σ m1 G1 H1 S1 (f d S1) K → ∀ v, Is F G1 d v → Q v H1) : ER X e σ H Q := by
  subst hF
  exact ok_v hR rfl sit R en Q (h.split.imp fun d m1 G1 H1 S1 R1 st1 h1 v hv => q d m1 G1 H1 S1 R1 (en.mono st1) st1 h1 v hv)
theorem go_r {e : Expr} (hR : OkR cf k F L) (hF : fx X = F) (sit : Sit k X ctx Wx) (R : Rel F m G H S) (en : EnvRel F G m S.length σ E) {α : Type} {f : W → Store → Res α} {K : α → (Nat → Addr) → Hp → Hp → Store → Prop}
    (h : Post F Wx σ m G H S ((L.r ctx e E S).andThen f) K) {Q : VK} (q : ∀ w m1 G1 H1 S1, Rel F m1 G1 H1 S1 → EnvRel F G1 m1 S1.length σ E → Stp m G H S m1 G1 H1 S1 → Post F Wx σ m1 G1 H1 S1 (f w S1) K → ∀ v, IsW F G1 m1 S1.length w v → Q v H1) : ER X e σ H Q := by
  subst hF
  exact hR ctx e X Wx σ E m G H S rfl sit R en Q (h.split.imp fun d m1 G1 H1 S1 R1 st1 h1 v hv => q d m1 G1 H1 S1 R1 (en.mono st1) st1 h1 v hv)
theorem go_t {e : Expr} (hT : OkT cf k F L) (hF : fx X = F) (sit : Sit k X ctx Wx) (R : Rel F m G H S) (en : EnvRel F G m S.length σ E) {α : Type} {f : Bool → Store → Res α} {K : α → (Nat → Addr) → Hp → Hp → Store → Prop}
    (h : Post F Wx σ m G H S ((L.t ctx e E S).andThen f) K) {Q : Bool → Hp → Prop} (q : ∀ b m1 G1 H1 S1, Rel F m1 G1 H1 S1 → EnvRel F G1 m1 S1.length σ E → Stp m G H S m1 G1 H1 S1 → Post F Wx σ m1 G1 H1 S1 (f b S1) K → Q b H1) : ETr X e σ H Q := by
  subst hF
  exact hT ctx e X Wx σ E m G H S rfl sit R en Q (h.split.imp fun d m1 G1 H1 S1 R1 st1 h1 => q d m1 G1 H1 S1 R1 (en.mono st1) st1 h1)

/-- the end of a reading: a value that stands as it is -/
theorem post_ok {α : Type} {a : α} {K : α → (Nat → Addr) → Hp → Hp → Store → Prop} (R : Rel F m G H S) (h : Post F Wx σ m G H S (.ok a S) K) : K a m G H S := h m G H R .refl
theorem post_okO {α : Type} {o : Option α} {K : α → (Nat → Addr) → Hp → Hp → Store → Prop} (R : Rel F m G H S) (h : Post F Wx σ m G H S (okO o S) K) : ∃ a, o = some a ∧ K a m G H S := by
  cases o with
  | none => exact h.elim
  | some a => exact ⟨a, rfl, h m G H R .refl⟩

/-! ### names -/
theorem slot_get : ∀ {N : List Str} {x : Str} {i : Nat}, slot N x = some i → N[i]? = some x
  | [], _, _, h => by cases h
  | y :: r, x, i, h => by
    unfold slot at h
    split at h
    · rename_i e
      cases h
      rw [e]; rfl
    · cases q : slot r x with
      | none => rw [q] at h; cases h
      | some j =>
        rw [q] at h
        cases h
        simpa using slot_get q
theorem vis_of {sc : Scope} {x : Str} (h : vis sc x = true) : Vis sc x := by
  unfold vis at h
  split at h
  · exact .inl (by assumption)
  · exact .inr (.inl (by assumption))
  · exact .inr (.inr (by assumption))
  · cases h
theorem locl_of {sc : Scope} {x : Str} (h : locl sc x = true) : Loc sc x := by
  unfold locl at h
  split at h
  · exact .inl (by assumption)
  · exact .inr (by assumption)
  · cases h
theorem glb_of {X : Cx} {x : Str} (h : glb X.env.scope x = true) : Gl X x := by
  unfold glb at h
  split at h
  · assumption
  · cases h
theorem dunder_of {x : Str} (h : dunder x = false) : (x == ("__debug__" : Str)) = false ∧ (x == ("__classdict__" : Str)) = false ∧ x ≠ "__name__" := by
  unfold dunder at h
  rw [Bool.or_eq_false_iff, Bool.or_eq_false_iff, decide_eq_false_iff_not] at h
  exact ⟨h.1, h.2.1, h.2.2⟩

theorem so_name (hc : CfOk F cf) (hF : fx X = F) (sit : Sit k X ctx Wx) (R : Rel F m G H S) (en : EnvRel F G m S.length σ E) {x : Str} {pos : Pos} : SoE X Wx σ m G H S (.Name x pos) (okO (nameR cf ctx x E) S) := by
  subst hF
  intro Q q
  obtain ⟨w, e, q⟩ := post_okO R q
  unfold nameR at e
  split at e
  · cases e
  rename_i hd
  obtain ⟨d1, d2, d3⟩ := dunder_of (by simpa using hd)
  rw [← sit.sc, ← sit.N] at e
  split at e
  · rename_i hv
    cases hs : slot X.N x with
    | none => rw [hs] at e; cases e
    | some i =>
      rw [hs] at e
      simp only at e
      unfold getE at e
      cases he : E[i]? with
      | none => rw [he] at e; cases e
      | some o =>
        rw [he] at e
        cases o with
        | none => cases e
        | some w' =>
          cases e
          obtain ⟨v, h1, h2⟩ := en.2 i w he
          exact er_of (pe_var (i := i) (slot_get hs) (vis_of hv) d1 d2) ⟨v, h1, q v h2⟩
  · split at e
    · rename_i hg
      cases hl : cf.globs.lookup x with
      | none => rw [hl] at e; cases e
      | some d =>
        rw [hl] at e
        cases e
        obtain ⟨u, v, h1, h2, h3⟩ := hc.globs x d hl
        exact er_of (pe_glob (glb_of hg) h1 h2 d1) (q v (h3 G))
    · cases e
theorem so_const (hF : fx X = F) (R : Rel F m G H S) {c : Const} {j : Nat} {pos : Pos} : SoE X Wx σ m G H S (.Constant c j pos) (okO (constR c) S) := by
  subst hF
  intro Q q
  obtain ⟨w, e, q⟩ := post_okO R q
  cases c with
  | none => cases e; exact er_of pe_non (q _ (by simp [IsW, Is]))
  | bool b => cases e; exact er_of pe_bl (q _ (by simp [IsW, Is]))
  | int i => cases e; exact er_of pe_int (q _ (by simp [IsW, Is]))
  | str s => cases e; exact er_of pe_str (q _ (by simp [IsW, Is]))
  | _ => cases e

/-! ### operators -/
theorem is_tup {d : P} {v : V} {ds : List P} (e : d = .tup ds) (h : Is F G d v) : ∃ a vs, v = .ref a ∧ SqT F.K G a vs ∧ IsL F G ds vs := by
  subst e
  simp only [Is] at h
  exact h
theorem is_lst {d : P} {v : V} {ds : List P} (e : d = .lst ds) (h : Is F G d v) : ∃ a vs, v = .ref a ∧ G a = some (.lst vs) ∧ IsL F G ds vs := by
  subst e
  simp only [Is] at h
  exact h
/-- a new tuple, a new list of data -/
theorem new_tup {ds : List P} {vs : List V} (R : Rel F m G H S) (h : IsL F G ds vs) {p : Addr} (hp : H p = none) :
    ∃ G', Rel F m G' (upd H p (.tup vs)) S ∧ Stp m G H S m G' (upd H p (.tup vs)) S ∧ Is F G' (.tup ds) (.ref p) := by
  obtain ⟨R', st'⟩ := R.new (o := .tup vs) hp
  refine ⟨_, R', st', ?_⟩
  simp only [Is]
  exact ⟨p, vs, rfl, SqT.of upd_same, h.mono st'.gg⟩
theorem new_lst {ds : List P} {vs : List V} (R : Rel F m G H S) (h : IsL F G ds vs) {p : Addr} (hp : H p = none) :
    ∃ G', Rel F m G' (upd H p (.lst vs)) S ∧ Stp m G H S m G' (upd H p (.lst vs)) S ∧ Is F G' (.lst ds) (.ref p) := by
  obtain ⟨R', st'⟩ := R.new (o := .lst vs) hp
  refine ⟨_, R', st', ?_⟩
  simp only [Is]
  exact ⟨p, vs, rfl, upd_same, h.mono st'.gg⟩


/-- what an operator does, by the machine -/
def rSem (X : Cx) (f : Value → Value → Sem Value) : R2 := fun x y H Q => ∀ pins s σ v u, Inv X pins σ H s → RelV x v → RelV y u → wpAny (model X.prog X.w) X.A (f v u) (EP X pins σ Q) X.xe s
theorem rsem_op {f : Value → Value → Sem Value} : OpR X f (rSem X f) := fun pins s σ H x y v u Q I rx ry h => h pins s σ v u I rx ry
theorem rsem_of {f : Value → Value → Sem Value} {r : R2} {x y : V} {Q : VK} (h : OpR X f r) (q : r x y H Q) : rSem X f x y H Q := fun pins s σ v u I rx ry => h pins s σ H x y v u Q I rx ry q
def cSem (X : Cx) (f : Value) : List V → Hp → VK → Prop := fun xs H Q => ∀ pins s σ us, Inv X pins σ H s → Vals xs us → wpAny (model X.prog X.w) X.A (call f us) (EP X pins σ Q) X.xe s
theorem csem_op {f : Value} : CallR X f (cSem X f) := fun pins s σ H xs us Q I r h => h pins s σ us I r
theorem csem_of {f : Value} {r : List V → Hp → VK → Prop} {xs : List V} {Q : VK} (h : CallR X f r) (q : r xs H Q) : cSem X f xs H Q := fun pins s σ us I rx => h pins s σ H xs us Q I rx q
def mSem (X : Cx) (id : String) : V → List V → Hp → VK → Prop := fun x xs H Q => ∀ pins s σ v us, Inv X pins σ H s → RelV x v → Vals xs us → wpAny (model X.prog X.w) X.A (call (.builtin id) (v :: us)) (EP X pins σ Q) X.xe s
theorem msem_op {id : String} : MtR X id (mSem X id) := fun pins s σ H x xs v us Q I rx r h => h pins s σ v us I rx r
theorem msem_of {id : String} {r : V → List V → Hp → VK → Prop} {x : V} {xs : List V} {Q : VK} (h : MtR X id r) (q : r x xs H Q) : mSem X id x xs H Q := fun pins s σ v us I rx r' => h pins s σ H x xs v us Q I rx r' q
def iSem (X : Cx) : R2 := fun x y H Q => ∀ (value slice : Expr) pins s σ v u, Inv X pins σ H s → RelV x v → RelV y u → subscripted slice false v u = operate [v, u] (getItem v u) → wpAny (model X.prog X.w) X.A (subscriptTail value slice v u) (EP X pins σ Q) X.xe s
theorem isem_op : IxR X (iSem X) := fun value slice pins s σ H x y v u Q I rx ry h e => h value slice pins s σ v u I rx ry e
theorem isem_of {r : R2} {x y : V} {Q : VK} (h : IxR X r) (q : r x y H Q) : iSem X x y H Q := fun value slice pins s σ v u I rx ry e => h value slice pins s σ H x y v u Q I rx ry q e
def slSem (X : Cx) : V → Option Int → Option Int → Hp → VK → Prop := fun x lo hi H Q => ∀ pins s σ v vl vu sl, Inv X pins σ H s → RelV x v → s.heap.IsSliceOf sl vl vu .none → IsPart vl lo → IsPart vu hi →
  ∃ T id, typeLookup (.type T) "__getitem__" = pure (some (.builtin id)) ∧ s.TypeIs v T ∧ wpAny (model X.prog X.w) X.A (getItem v (.ref sl)) (EP X pins σ Q) X.xe s
theorem slsem_op : SlR X (slSem X) := fun pins s σ H x v vl vu lo hi sl Q I rx h1 h2 h3 h => h pins s σ v vl vu sl I rx h1 h2 h3
theorem slsem_of {r : V → Option Int → Option Int → Hp → VK → Prop} {x : V} {lo hi : Option Int} {Q : VK} (h : SlR X r) (q : r x lo hi H Q) : slSem X x lo hi H Q := fun pins s σ v vl vu sl I rx h1 h2 h3 => h pins s σ H x v vl vu lo hi sl Q I rx h1 h2 h3 q

theorem optmap {α β : Type} {o : Option α} {f : α → β} {b : β} (h : o.map f = some b) : ∃ a, o = some a ∧ f a = b := by
  cases o with
  | none => cases h
  | some a => exact ⟨a, rfl, Option.some.inj h⟩

/-- a text, some times -/
theorem op_mulS : OpR X (binaryOp .Mult) (fun x y H Q => ∃ z n, x = .str z ∧ y = .int n ∧ (-1000000 < n ∧ n < 1000000 ∧ z.length * n.toNat ≤ sizeLine) ∧ Q (.str (Txt.mul z n)) H) := by
  intro pins s σ H x y v u Q I rx ry h
  obtain ⟨z, n, rfl, rfl, ⟨h1, h2, h3⟩, q⟩ := h
  obtain ⟨t, rfl⟩ := rx
  obtain ⟨t', rfl⟩ := ry
  refine SB.mul ⟨?_, fun h4 _ => ?_, fun _ _ => ?_⟩ fun t' k => ⟨.str (Txt.mul z n), H, I.tok k, ⟨_, rfl⟩, q⟩
  · rw [decide_eq_false (by omega), decide_eq_false (by omega)]; rfl
  · have hs : (sizeLine : Int) ≤ 2 ^ 63 - 1 := by decide
    have h5 : ((z.length * n.toNat : Nat) : Int) ≤ 2 ^ 63 - 1 := Int.le_trans (Int.ofNat_le.mpr h3) hs
    have h6 : (n.toNat : Int) = n := Int.toNat_of_nonneg (by omega)
    rw [Int.natCast_mul, h6] at h5
    have := (Int.le_ediv_iff_mul_le (show 0 < n by omega)).mpr h5
    omega
  · unfold Builtin.Str.tooLong
    exact decide_eq_false (by omega)
/-- is True, is False -/
theorem op_isBool : OpR X (compareOp .Is) (fun x y H Q => ∃ b, y = .bl b ∧ flatV x = true ∧ Q (.bl (decide (x = .bl b))) H) := by
  intro pins s σ H x y v u Q I rx ry h
  obtain ⟨b, rfl, hf, q⟩ := h
  cases (show u = Value.bool b from ry)
  cases x with
  | bl a =>
    cases (show v = Value.bool a from rx)
    by_cases e : a = b
    · subst e
      exact wpAny_is_self rfl ⟨.bl true, H, I, rfl, by simpa using q⟩
    · exact wpAny_is_other rfl (fun z => e (Value.bool.inj z)) ⟨.bl false, H, I, rfl, by simpa [e] using q⟩
  | non =>
    cases rx
    exact wpAny_is_other rfl (fun z => by cases z) ⟨.bl false, H, I, rfl, by simpa using q⟩
  | int i =>
    obtain ⟨t, rfl⟩ := rx
    exact wpAny_is_other rfl (fun z => by cases z) ⟨.bl false, H, I, rfl, by simpa using q⟩
  | str i =>
    obtain ⟨t, rfl⟩ := rx
    exact wpAny_is_other rfl (fun z => by cases z) ⟨.bl false, H, I, rfl, by simpa using q⟩
  | _ => cases hf
/-- the answer, for data -/
abbrev Ans' (X : Cx) (m : Nat → Addr) (G H : Hp) (S : Store) (z : P) (Q : VK) : Prop := ∀ m' G' H', Rel (fx X) m' G' H' S → Stp m G H S m' G' H' S → ∀ u, Is (fx X) G' z u → Q u H'
theorem bin_ok {op : Operator} {d d2 z : P} {v v2 : V} {Q : VK} (R : Rel (fx X) m G H S) (hv : Is (fx X) G d v) (hv2 : Is (fx X) G d2 v2) (e : binop op d d2 = some z) (q : Ans' X m G H S z Q) : rSem X (binaryOp op) v v2 H Q := by
  unfold binop at e
  split at e
  · cases e; simp only [Is] at hv hv2; subst hv hv2
    exact rsem_of op_add ⟨_, _, rfl, rfl, q m G H R .refl _ (by simp [Is])⟩
  · split at e <;> cases e
    simp only [Is] at hv hv2; subst hv hv2
    exact rsem_of op_add_str ⟨_, _, rfl, rfl, by assumption, q m G H R .refl _ (by simp [Is])⟩
  · split at e <;> cases e
    rename_i hz
    obtain ⟨a, vs, rfl, h1, h2⟩ := is_tup rfl hv
    obtain ⟨b, us, rfl, k1, k2⟩ := is_tup rfl hv2
    refine rsem_of op_catA ⟨a, b, vs, us, rfl, rfl, sqT_mono R.ex h1, sqT_mono R.ex k1, by rw [h2.length, k2.length]; exact hz, fun ev => ?_, fun _ ev => ?_, fun _ _ p hp => ?_⟩
    · refine q m G H R .refl _ ?_
      subst ev
      have e0 := List.eq_nil_of_length_eq_zero (show _ = 0 from h2.length.symm)
      subst e0
      exact hv2
    · refine q m G H R .refl _ ?_
      subst ev
      have e0 := List.eq_nil_of_length_eq_zero (show _ = 0 from k2.length.symm)
      subst e0
      rw [List.append_nil]
      exact hv
    · obtain ⟨G', R', st', i'⟩ := new_tup R (h2.append k2) hp
      exact q m G' _ R' st' _ i'
  · split at e <;> cases e
    rename_i hz
    obtain ⟨a, vs, rfl, h1, h2⟩ := is_lst rfl hv
    obtain ⟨b, us, rfl, k1, k2⟩ := is_lst rfl hv2
    refine rsem_of op_cat ⟨a, b, vs, us, rfl, rfl, R.ex _ _ h1, R.ex _ _ k1, by rw [h2.length, k2.length]; exact hz, fun p hp => ?_⟩
    obtain ⟨G', R', st', i'⟩ := new_lst R (h2.append k2) hp
    exact q m G' _ R' st' _ i'
  · cases e; simp only [Is] at hv hv2; subst hv hv2
    exact rsem_of op_sub ⟨_, _, rfl, rfl, q m G H R .refl _ (by simp [Is])⟩
  · split at e <;> cases e
    rename_i hz
    simp only [Is] at hv hv2; subst hv hv2
    exact rsem_of op_mul ⟨_, _, rfl, rfl, hz, q m G H R .refl _ (by simp [Is])⟩
  · split at e <;> cases e
    rename_i hz
    simp only [Is] at hv hv2; subst hv hv2
    exact rsem_of op_mulS ⟨_, _, rfl, rfl, hz, q m G H R .refl _ (by simp [Is])⟩
  · split at e <;> cases e
    rename_i hz
    simp only [Is] at hv hv2; subst hv hv2
    exact rsem_of op_modN ⟨_, _, rfl, rfl, hz, q m G H R .refl _ (by simp [Is])⟩
  · split at e <;> cases e
    rename_i hz
    simp only [Is] at hv hv2; subst hv hv2
    exact rsem_of op_fdivN ⟨_, _, rfl, rfl, hz, q m G H R .refl _ (by simp [Is])⟩
  · cases e

theorem post_o {α : Type} {o : Option α} {K : α → (Nat → Addr) → Hp → Hp → Store → Prop} (h : Post F Wx σ m G H S (okO o S) K) : ∃ a, o = some a ∧ ∀ m' G' H', Rel F m' G' H' S → Stp m G H S m' G' H' S → K a m' G' H' S := by
  cases o with
  | none => exact h.elim
  | some a => exact ⟨a, rfl, h⟩
/-- data handed back -/
theorem post_p {o : Option P} {Q : VK} (h : Post F Wx σ m G H S (okO (o.map W.p) S) fun w m' G' H' S' => ∀ v, IsW F G' m' S'.length w v → Q v H') :
    ∃ z, o = some z ∧ ∀ m' G' H', Rel F m' G' H' S → Stp m G H S m' G' H' S → ∀ u, Is F G' z u → Q u H' := by
  obtain ⟨w, e, h2⟩ := post_o h
  obtain ⟨z, e1, rfl⟩ := optmap e
  exact ⟨z, e1, fun m' G' H' R st u hu => h2 m' G' H' R st u hu⟩
theorem so_bin (hR : OkR cf k F L) (hF : fx X = F) (sit : Sit k X ctx Wx) (R : Rel F m G H S) (en : EnvRel F G m S.length σ E) {a b : Expr} {op : Operator} {pos : Pos} :
    SoE X Wx σ m G H S (.BinOp a op b pos) ((L.v ctx a E S).andThen fun d S1 => (L.v ctx b E S1).andThen fun d2 S2 => okO ((binop op d d2).map .p) S2) := by
  subst hF
  intro Q q
  refine er_of (pe_op rsem_op pe_er pe_er) (go_v hR rfl sit R en q fun d m1 G1 H1 S1 R1 en1 st1 h1 v hv => go_v hR rfl sit R1 en1 h1 fun d2 m2 G2 H2 S2 R2 en2 st2 h2 v2 hv2 => ?_)
  obtain ⟨z, e, h3⟩ := post_p h2
  exact bin_ok R2 (st2.is hv) hv2 e h3
theorem so_neg (hR : OkR cf k F L) (hF : fx X = F) (sit : Sit k X ctx Wx) (R : Rel F m G H S) (en : EnvRel F G m S.length σ E) {a : Expr} {pos : Pos} :
    SoE X Wx σ m G H S (.UnaryOp .USub a pos) ((L.v ctx a E S).andThen fun d S1 => (match d with
    | .int i => .ok (.p (.int (-i))) S1
    | _ => .bad)) := by
  subst hF
  intro Q q
  refine er_of (pe_un un_neg pe_er) (go_v hR rfl sit R en q fun d m1 G1 H1 S1 R1 en1 st1 h1 v hv => ?_)
  cases d with
  | int i =>
    simp only [Is] at hv
    subst hv
    exact ⟨i, rfl, post_ok R1 h1 _ (by simp [IsW, Is])⟩
  | _ => exact h1.elim
theorem so_not (hR : OkR cf k F L) (hF : fx X = F) (sit : Sit k X ctx Wx) (R : Rel F m G H S) (en : EnvRel F G m S.length σ E) {a : Expr} {pos : Pos} :
    SoE X Wx σ m G H S (.UnaryOp .Not a pos) ((L.v ctx a E S).andThen fun d S1 => (match d with
    | .bl b => .ok (.p (.bl (!b))) S1
    | _ => .bad)) := by
  subst hF
  intro Q q
  refine er_of (pe_not pe_er) (go_v hR rfl sit R en q fun d m1 G1 H1 S1 R1 en1 st1 h1 v hv => ?_)
  cases d with
  | bl b =>
    simp only [Is] at hv
    subst hv
    exact ⟨b, rfl, post_ok R1 h1 _ (by simp [IsW, Is])⟩
  | _ => exact h1.elim
theorem so_ifx (hR : OkR cf k F L) (hT : OkT cf k F L) (hF : fx X = F) (sit : Sit k X ctx Wx) (R : Rel F m G H S) (en : EnvRel F G m S.length σ E) {t a b : Expr} {pos : Pos} :
    SoE X Wx σ m G H S (.IfExp t a b pos) ((L.t ctx t E S).andThen fun c S1 => if c = true then L.r ctx a E S1 else L.r ctx b E S1) := by
  subst hF
  intro Q q
  refine er_of (pe_ifExp pt_er pe_er pe_er) (go_t hT rfl sit R en q fun c m1 G1 H1 S1 R1 en1 st1 h1 => ?_)
  cases c with
  | true => exact hR ctx a X Wx σ E m1 G1 H1 S1 rfl sit R1 en1 Q h1
  | false => exact hR ctx b X Wx σ E m1 G1 H1 S1 rfl sit R1 en1 Q h1

/-! ### and, or -/
theorem so_boolV (hR : OkR cf k (fx X) L) (sit : Sit k X ctx Wx) {op : BoolOp} {pos : Pos} : ∀ (vs : List Expr) {m : Nat → Addr} {G H : Hp} {S : Store}, Rel (fx X) m G H S → EnvRel (fx X) G m S.length σ E →
    SoV X Wx σ m G H S (.BoolOp op vs pos) (boolV L ctx op vs E S)
  | [], m, G, H, S, R, en => fun Q q => q.elim
  | [a], m, G, H, S, R, en => fun Q q => by
    exact er_of (pe_one pe_er) (ok_v hR rfl sit R en Q q)
  | a :: b :: r, m, G, H, S, R, en => fun Q q => by
    have ih := fun {m G H S} => so_boolV (m := m) (G := G) (H := H) (S := S) hR sit (op := op) (pos := pos) (b :: r)
    cases op with
    | And =>
      refine er_of (pe_and pe_er pe_er) (go_v hR rfl sit R en q fun d m1 G1 H1 S1 R1 en1 st1 h1 v hv => ?_)
      cases d with
      | bl c =>
        simp only [Is] at hv
        subst hv
        refine ⟨c, rfl, ?_⟩
        cases c with
        | true => exact ih R1 en1 Q h1
        | false => exact post_ok R1 h1 _ (by simp [Is])
      | _ => exact h1.elim
    | Or =>
      refine er_of (pe_or pe_er pe_er) (go_v hR rfl sit R en q fun d m1 G1 H1 S1 R1 en1 st1 h1 v hv => ?_)
      cases d with
      | bl c =>
        simp only [Is] at hv
        subst hv
        refine ⟨c, rfl, ?_⟩
        cases c with
        | true => exact post_ok R1 h1 _ (by simp [Is])
        | false => exact ih R1 en1 Q h1
      | _ => exact h1.elim
/-- data as a value -/
theorem SoV.p {e : Expr} {r : Res P} (h : SoV X Wx σ m G H S e r) : SoE X Wx σ m G H S e (r.andThen fun d S1 => .ok (.p d) S1) := fun Q q =>
  h Q (q.split.imp fun d m1 G1 H1 S1 R1 st1 h1 v hv => post_ok R1 h1 v hv)

theorem pw_er {e : Expr} {t : TT} (h : PW X e t) {Q : Bool → Hp → Prop} (q : t σ H Q) : ETr X e σ H Q := fun pins s I => h.pt.run pins s σ H Q I q
def WTr (X : Cx) (e : Expr) : TT := fun σ H Q => ∀ (whole : Sem Value) pins s, Inv X pins σ H s → wpAny (model X.prog X.w) X.A (isTrue e X.env whole) (TP X pins σ Q) X.xe s
theorem pw_wr {e : Expr} : PW X e (WTr X e) := ⟨fun whole pins s _ _ _ I h => h whole pins s I⟩
theorem wr_of {e : Expr} {t : TT} (h : PW X e t) {Q : Bool → Hp → Prop} (q : t σ H Q) : WTr X e σ H Q := fun whole pins s I => h.run whole pins s σ H Q I q
theorem so_boolW (hT : OkT cf k (fx X) L) (sit : Sit k X ctx Wx) {op : BoolOp} {pos : Pos} : ∀ (vs : List Expr) {m : Nat → Addr} {G H : Hp} {S : Store}, Rel (fx X) m G H S → EnvRel (fx X) G m S.length σ E → ∀ Q : Bool → Hp → Prop,
    Post (fx X) Wx σ m G H S (boolT L ctx op vs E S) (fun b m' G' H' S' => Q b H') → WTr X (.BoolOp op vs pos) σ H Q
  | [], m, G, H, S, R, en => fun Q q => q.elim
  | [a], m, G, H, S, R, en => fun Q q => by
    have q1 : ETr X a σ H Q := hT ctx a X Wx σ E m G H S rfl sit R en Q q
    cases op with
    | And => exact wr_of (pw_and1 pt_er) q1
    | Or => exact wr_of (pw_or1 pt_er) q1
  | a :: b :: r, m, G, H, S, R, en => fun Q q => by
    have ih := fun {m G H S} => so_boolW (m := m) (G := G) (H := H) (S := S) hT sit (op := op) (pos := pos) (b :: r)
    cases op with
    | And =>
      refine wr_of (pw_and pt_er pw_wr) (go_t hT rfl sit R en q fun c m1 G1 H1 S1 R1 en1 st1 h1 => ?_)
      cases c with
      | true => exact ih R1 en1 Q h1
      | false => exact post_ok R1 h1
    | Or =>
      refine wr_of (pw_or pt_er pw_wr) (go_t hT rfl sit R en q fun c m1 G1 H1 S1 R1 en1 st1 h1 => ?_)
      cases c with
      | true => exact post_ok R1 h1
      | false => exact ih R1 en1 Q h1
theorem WTr.t {e : Expr} {Q : Bool → Hp → Prop} (h : WTr X e σ H Q) : ETr X e σ H Q := fun pins s I => h _ pins s I

/-! ### comparisons -/
theorem cmp_ok (hu : X.A.units + 65 < cLine) {op : CmpOp} {d d2 : P} {z : Bool} {v v2 : V} {Q : VK} (R : Rel (fx X) m G H S) (hv : Is (fx X) G d v) (hv2 : Is (fx X) G d2 v2) (e : cmpop op d d2 = some z) (q : Q (.bl z) H) : rSem X (compareOp op) v v2 H Q := by
  unfold cmpop at e
  split at e
  · split at e <;> cases e
    rename_i hl
    exact rsem_of (op_eqD (by omega)) ⟨_, _, hv.dp R.ex hl.1, hv2.dp R.ex hl.2, low_shaped hl.1, low_shaped hl.2, q⟩
  · split at e <;> cases e
    rename_i hl
    exact rsem_of (op_neD (by omega)) ⟨_, _, hv.dp R.ex hl.1, hv2.dp R.ex hl.2, low_shaped hl.1, low_shaped hl.2, q⟩
  · cases e; simp only [Is] at hv hv2; subst hv hv2
    exact rsem_of op_lt ⟨_, _, rfl, rfl, q⟩
  · cases e; simp only [Is] at hv hv2; subst hv hv2
    exact rsem_of op_le ⟨_, _, rfl, rfl, q⟩
  · cases e; simp only [Is] at hv hv2; subst hv hv2
    exact rsem_of op_gt ⟨_, _, rfl, rfl, q⟩
  · cases e; simp only [Is] at hv hv2; subst hv hv2
    exact rsem_of op_ge ⟨_, _, rfl, rfl, q⟩
  · simp only [Is] at hv2; subst hv2
    refine rsem_of op_isN ⟨rfl, ?_⟩
    have : decide (v = V.non) = z := by
      cases d <;> simp only [Is] at hv <;> first
        | (obtain ⟨a, vs, rfl, _⟩ := hv; simpa using e)
        | (obtain ⟨a, rfl, _⟩ := hv; simpa using e)
        | (subst hv; simpa using e)
    rw [this]; exact q
  · simp only [Is] at hv2; subst hv2
    refine rsem_of op_notN ⟨rfl, ?_⟩
    have : (!decide (v = V.non)) = z := by
      cases d <;> simp only [Is] at hv <;> first
        | (obtain ⟨a, vs, rfl, _⟩ := hv; simpa using e)
        | (obtain ⟨a, rfl, _⟩ := hv; simpa using e)
        | (subst hv; simpa using e)
    rw [this]; exact q
  · rename_i b
    split at e
    · rename_i hf
      simp only [Is] at hv2; subst hv2
      refine rsem_of op_isBool ⟨b, rfl, flat_is hf hv, ?_⟩
      have : decide (v = V.bl b) = z := by
        cases d <;> first | (cases hf; done) | (simp only [Is] at hv; subst hv; simpa using e)
      rw [this]; exact q
    · cases e
  · split at e <;> cases e
    rename_i hf
    obtain ⟨a, vs, rfl, h1, h2⟩ := is_tup rfl hv2
    refine rsem_of op_in_seq ⟨a, vs, rfl, .inr (sqT_mono R.ex h1), flat_is hf.1 hv, flat_all hf.2 h2, ?_⟩
    rw [flat_any hf.1 hv hf.2 h2]; exact q
  · split at e <;> cases e
    rename_i hf
    obtain ⟨a, vs, rfl, h1, h2⟩ := is_tup rfl hv2
    refine rsem_of op_notIn_seq ⟨a, vs, rfl, .inr (sqT_mono R.ex h1), flat_is hf.1 hv, flat_all hf.2 h2, ?_⟩
    rw [flat_any hf.1 hv hf.2 h2]; exact q
  · split at e <;> cases e
    rename_i hl
    refine rsem_of (op_inD hu) ⟨_, _, hv.dp R.ex hl.1, hv2.dp R.ex hl.2, low_shaped hl.1, low_shaped hl.2, ?_⟩
    rw [pds_any]; exact q
  · split at e <;> cases e
    rename_i hl
    refine rsem_of (op_notInD hu) ⟨_, _, hv.dp R.ex hl.1, hv2.dp R.ex hl.2, low_shaped hl.1, low_shaped hl.2, ?_⟩
    rw [pds_any]; exact q
  · cases e
end
end Mp
end
section
set_option Elab.async false
set_option linter.all false
set_option maxRecDepth 100000
set_option autoImplicit false
set_option maxHeartbeats 1000000
/-! MpH: comparisons, subscripts, displays, built-ins, methods. -/
namespace Mp
open PySem PySem.Spec PyProof.Rows L2

section
variable {cf : Cf} {k : Nat} {F : Fx} {L : Lv} {X : Cx} {Wx : WX} {ctx : Ctx} {σ : L2.St} {E : En} {m : Nat → Addr} {G H : Hp} {S : Store}

theorem seq_ok {w : W} {ws : List W} {v : V} (R : Rel F m G H S) (h : IsW F G m S.length w v) (e : seqOf S w = some ws) : ∃ a vs, v = .ref a ∧ IsWL F G m S.length ws vs ∧
    (((∀ ds, w ≠ .p (.tup ds)) ∧ SqL F.K H a vs) ∨ ((∃ ds, w = .p (.tup ds)) ∧ SqT F.K H a vs)) := by
  unfold seqOf at e
  split at e
  · cases e
    obtain ⟨a, vs, rfl, h1, h2⟩ := is_lst rfl (show Is F G _ v from h)
    exact ⟨a, vs, rfl, h2.toW, .inl ⟨fun _ z => (by cases z), SqL.of (R.ex _ _ h1)⟩⟩
  · cases e
    obtain ⟨a, vs, rfl, h1, h2⟩ := is_tup rfl (show Is F G _ v from h)
    exact ⟨a, vs, rfl, h2.toW, .inr ⟨⟨_, rfl⟩, sqT_mono R.ex h1⟩⟩
  · cases e
    have h' : Is F G (.fro _) v := h
    simp only [Is] at h'
    obtain ⟨a, vs, rfl, h1, h2⟩ := h'
    exact ⟨a, vs, rfl, h2.toW, .inl ⟨fun _ z => (by cases z), sqL_mono R.ex h1⟩⟩
  · rename_i id
    obtain ⟨hi, rfl⟩ := (show id < S.length ∧ v = .ref (m id) from h)
    split at e
    · rename_i ws' hc
      cases e
      obtain ⟨vs, h1, h2⟩ := R.cells id _ hc
      exact ⟨m id, vs, rfl, h2, .inl ⟨fun _ z => (by cases z), SqL.of h1⟩⟩
    · rename_i ds hc
      cases e
      obtain ⟨a, vs, e1, h1, h2⟩ := is_lst rfl (show Is F G _ _ from R.cells id _ hc)
      cases e1
      exact ⟨m id, vs, rfl, h2.toW, .inl ⟨fun _ z => (by cases z), SqL.of (R.ex _ _ h1)⟩⟩
    · cases e
  · cases e
theorem seq_any {w : W} {ws : List W} {v : V} (R : Rel F m G H S) (h : IsW F G m S.length w v) (e : seqOf S w = some ws) : ∃ a vs, v = .ref a ∧ IsWL F G m S.length ws vs ∧ (SqL F.K H a vs ∨ SqT F.K H a vs) := by
  obtain ⟨a, vs, e1, e2, e3⟩ := seq_ok R h e
  exact ⟨a, vs, e1, e2, e3.imp (·.2) (·.2)⟩
theorem dat_ok {w : W} {d : P} {v : V} (R : Rel F m G H S) (h : IsW F G m S.length w v) (e : datOf S w = some d) : Is F G d v := by
  unfold datOf at e
  split at e
  · cases e; exact h
  · rename_i id
    obtain ⟨hi, rfl⟩ := (show id < S.length ∧ v = .ref (m id) from h)
    split at e
    · rename_i hc
      cases e
      exact R.cells id _ hc
    · cases e
theorem datsOf_eq : ∀ {ws : List W} {ds : List P}, datsOf ws = some ds → ws = ds.map .p
  | [], ds, h => by cases h; rfl
  | .p d :: r, ds, h => by
    unfold datsOf at h
    obtain ⟨a, e1, rfl⟩ := optmap h
    rw [datsOf_eq e1]; rfl
  | .o id :: r, ds, h => by cases h
theorem dats_ok {ws : List W} {ds : List P} {vs : List V} {n : Nat} (h : IsWL F G m n ws vs) (e : datsOf ws = some ds) : IsL F G ds vs := by
  rw [datsOf_eq e] at h
  exact IsL.ofW h
theorem datsOf_map : ∀ ds : List P, datsOf (ds.map .p) = some ds
  | [] => rfl
  | d :: ds => by
    show (datsOf (ds.map .p)).map (d :: ·) = _
    rw [datsOf_map ds]; rfl

/-! ### membership, comparisons -/
theorem in_ok (hu : X.A.units + 65 < cLine) {neg : Bool} {d : P} {w : W} {z : Bool} {v u : V} {Q : VK} (R : Rel (fx X) m G H S) (hv : Is (fx X) G d v) (hw : IsW (fx X) G m S.length w u) (e : inR S neg d w = some z) (q : Q (.bl z) H) :
    rSem X (compareOp (if neg then .NotIn else .In)) v u H Q := by
  unfold inR at e
  split at e
  · split at e <;> cases e
    rename_i hf
    obtain ⟨a, vs, rfl, h1, h2⟩ := is_tup rfl (show Is (fx X) G _ u from hw)
    cases neg with
    | false =>
      refine rsem_of op_in_seq ⟨a, vs, rfl, .inr (sqT_mono R.ex h1), flat_is hf.1 hv, flat_all hf.2 h2, ?_⟩
      rw [flat_any hf.1 hv hf.2 h2]; exact q
    | true =>
      refine rsem_of op_notIn_seq ⟨a, vs, rfl, .inr (sqT_mono R.ex h1), flat_is hf.1 hv, flat_all hf.2 h2, ?_⟩
      rw [flat_any hf.1 hv hf.2 h2]; exact q
  · rename_i hnt
    split at e
    · rename_i ws hs
      split at e
      · rename_i ds hd
        split at e <;> cases e
        rename_i hl
        obtain ⟨a, vs, rfl, h2, h3⟩ := seq_ok R hw hs
        have h4 := dats_ok h2 hd
        rcases h3 with ⟨_, h3⟩ | ⟨⟨ds', rfl⟩, _⟩
        · have hl2 : lows 59 ds := hl.2
          have dp : Dp (fx X).K H (.ref a) (.list (pds ds)) := .lst h3 (IsL.dp R.ex hl2 h4)
          cases neg with
          | false =>
            refine rsem_of (op_inD hu) ⟨_, _, hv.dp R.ex hl.1, dp, low_shaped hl.1, low_shaped hl.2, ?_⟩
            rw [pds_any]; exact q
          | true =>
            refine rsem_of (op_notInD hu) ⟨_, _, hv.dp R.ex hl.1, dp, low_shaped hl.1, low_shaped hl.2, ?_⟩
            rw [pds_any]; exact q
        · exact absurd rfl (hnt ds')
      · cases e
    · cases e
theorem room65 {k : Nat} {X : Cx} (h : Room k X.A) : X.A.units + 65 < cLine := by
  have := h.un
  omega
/-- a comparison, as its reading asks -/
theorem so_cmp (hR : OkR cf k F L) (hF : fx X = F) (sit : Sit k X ctx Wx) (R : Rel F m G H S) (en : EnvRel F G m S.length σ E) {a b : Expr} {op : CmpOp} {Q : VK}
    (h : Post F Wx σ m G H S (cmpE L ctx a op b E S) fun z m' G' H' S' => Q (.bl z) H') : noSet b = true ∧ tOp (rSem X (compareOp op)) (ER X a) (ER X b) σ H Q := by
  subst hF
  unfold cmpE at h
  split at h
  · rename_i hb
    refine ⟨hb, ?_⟩
    have hu := room65 sit.room
    split at h
    · refine go_v hR rfl sit R en h fun d m1 G1 H1 S1 R1 en1 st1 h1 v hv => go_r hR rfl sit R1 en1 h1 fun w m2 G2 H2 S2 R2 en2 st2 h2 u hu2 => ?_
      obtain ⟨z, e, h3⟩ := post_o h2
      exact in_ok (neg := false) hu R2 (st2.is hv) hu2 e (h3 m2 G2 H2 R2 .refl)
    · refine go_v hR rfl sit R en h fun d m1 G1 H1 S1 R1 en1 st1 h1 v hv => go_r hR rfl sit R1 en1 h1 fun w m2 G2 H2 S2 R2 en2 st2 h2 u hu2 => ?_
      obtain ⟨z, e, h3⟩ := post_o h2
      exact in_ok (neg := true) hu R2 (st2.is hv) hu2 e (h3 m2 G2 H2 R2 .refl)
    · refine go_v hR rfl sit R en h fun d m1 G1 H1 S1 R1 en1 st1 h1 v hv => go_v hR rfl sit R1 en1 h1 fun d2 m2 G2 H2 S2 R2 en2 st2 h2 u hu2 => ?_
      obtain ⟨z, e, h3⟩ := post_o h2
      exact cmp_ok hu R2 (st2.is hv) hu2 e (h3 m2 G2 H2 R2 .refl)
  · exact h.elim
theorem so_cmpE (hR : OkR cf k F L) (hF : fx X = F) (sit : Sit k X ctx Wx) (R : Rel F m G H S) (en : EnvRel F G m S.length σ E) {a b : Expr} {op : CmpOp} {pos : Pos} :
    SoE X Wx σ m G H S (.Compare a [op] [b] pos) ((cmpE L ctx a op b E S).andThen fun z S1 => .ok (.p (.bl z)) S1) := by
  subst hF
  intro Q q
  obtain ⟨hb, h⟩ := so_cmp hR rfl sit R en (Q := Q) (q.split.imp fun z m1 G1 H1 S1 R1 st1 h1 => post_ok R1 h1 _ (by simp [IsW, Is]))
  exact er_of (pe_cmpR rsem_op pe_er pe_er (marks_no hb)) h
theorem so_cmpT (hR : OkR cf k F L) (hF : fx X = F) (sit : Sit k X ctx Wx) (R : Rel F m G H S) (en : EnvRel F G m S.length σ E) {a b : Expr} {op : CmpOp} {pos : Pos} :
    SoT X Wx σ m G H S (.Compare a [op] [b] pos) (cmpE L ctx a op b E S) := by
  subst hF
  intro Q q
  obtain ⟨hb, h⟩ := so_cmp hR rfl sit R en (Q := fun v H' => ∃ z, v = .bl z ∧ Q z H') (q.imp fun z m1 G1 H1 S1 R1 st1 h1 => ⟨z, rfl, h1⟩)
  exact et_of (pt_cmpR rsem_op pe_er pe_er (marks_no hb)) h

/-! ### subscripts -/
theorem atI_ok {n : Nat} {ws : List W} {vs : List V} {i : Int} {w : W} (h : IsWL F G m n ws vs) (e : atI ws i = some w) : ∃ v, atI vs i = some v ∧ IsW F G m n w v := by
  unfold atI at e ⊢
  rw [h.length]
  cases q : ixN ws.length i with
  | none => rw [q] at e; cases e
  | some j =>
    rw [q] at e
    exact IsWL.get h e
theorem ix_ok {w : W} {d : P} {z : W} {v u : V} {Q : VK} (R : Rel (fx X) m G H S) (hw : IsW (fx X) G m S.length w v) (hd : Is (fx X) G d u) (e : idxW S w d = some z) (q : ∀ x, IsW (fx X) G m S.length z x → Q x H) : iSem X v u H Q := by
  unfold idxW at e
  split at e
  · rename_i i
    simp only [Is] at hd
    subst hd
    split at e
    · rename_i ws hs
      obtain ⟨a, vs, rfl, h2, h3⟩ := seq_any R hw hs
      obtain ⟨x, h4, h5⟩ := atI_ok h2 e
      rcases h3 with h3 | h3
      · exact isem_of ix_list ⟨a, vs, i, x, rfl, rfl, h3, h4, q x h5⟩
      · exact isem_of ix_tup ⟨a, vs, i, x, rfl, rfl, h3, h4, q x h5⟩
    · split at e
      · rename_i zz hz
        have hs := dat_ok R hw hz
        simp only [Is] at hs
        subst hs
        split at e
        · rename_i hl
          obtain ⟨c, h1, rfl⟩ := optmap e
          exact isem_of ix_str ⟨zz, i, c, rfl, rfl, by rw [sizeLine_eq]; exact hl, h1, q _ (by simp [IsW, Is])⟩
        · cases e
      · cases e
  · cases e
theorem so_ix (hR : OkR cf k F L) (hF : fx X = F) (sit : Sit k X ctx Wx) (R : Rel F m G H S) (en : EnvRel F G m S.length σ E) {a i : Expr} {pos : Pos} :
    SoE X Wx σ m G H S (.Subscript a i pos) (if noSlice i = true then (L.r ctx a E S).andThen fun w S1 => (L.v ctx i E S1).andThen fun d S2 => okO (idxW S2 w d) S2 else .bad) := by
  subst hF
  intro Q q
  split at q
  · rename_i hi
    refine er_of (pe_ix isem_op pe_er pe_er (plain_ix hi)) (go_r hR rfl sit R en q fun w m1 G1 H1 S1 R1 en1 st1 h1 v hv => go_v hR rfl sit R1 en1 h1 fun d m2 G2 H2 S2 R2 en2 st2 h2 u hu => ?_)
    obtain ⟨z, e, h3⟩ := post_o h2
    exact ix_ok R2 (st2.isW hv) hu e (h3 m2 G2 H2 R2 .refl)
  · exact q.elim

/-- TABLE[key], name[i] -/
theorem so_tab (hc : CfOk (fx X) cf) (hR : OkR cf k (fx X) L) (sit : Sit k X ctx Wx) (R : Rel (fx X) m G H S) (en : EnvRel (fx X) G m S.length σ E) {t : Str} {i : Expr} {p pos : Pos} :
    SoE X Wx σ m G H S (.Subscript (.Name t p) i pos) (match tabOf cf ctx t with
    | some kvs => if noSlice i = true ∧ dunder t = false then (L.v ctx i E S).andThen fun d S1 => okO ((match d with | .str z => kvs.lookup z | _ => none).map .p) S1 else .bad
    | none => if noSlice i = true then okO (nameR cf ctx t E) S |>.andThen fun w S1 => (L.v ctx i E S1).andThen fun d S2 => okO (idxW S2 w d) S2 else .bad) := by
  intro Q q
  split at q
  · rename_i kvs hk
    split at q
    · rename_i hs
      obtain ⟨hi, hd⟩ := hs
      unfold tabOf at hk
      split at hk
      · rename_i hg
        rw [← sit.sc] at hg
        obtain ⟨d1, d2, d3⟩ := dunder_of hd
        obtain ⟨a, h1, h2⟩ := hc.tabs t kvs hk
        have pn : ER X (.Name t p) σ H fun v H' => v = .ref a ∧ H' = H := er_of (pe_glob (v := .ref a) (glb_of hg) h1 rfl d1) ⟨rfl, rfl⟩
        refine er_of (pe_ix isem_op pe_er pe_er (plain_ix hi)) (fun pins s I => wpAny_mono (pn pins s I) (fun u s1 hh => ?_) fun _ _ z => z)
        obtain ⟨v, H1, I1, r1, rfl, rfl⟩ := hh
        refine ⟨_, _, I1, r1, go_v hR rfl sit R en q fun d m2 G2 H2 S2 R2 en2 st2 h3 u hu => ?_⟩
        obtain ⟨z, e, h4⟩ := post_p h3
        cases d with
        | str y =>
          simp only [Is] at hu
          subst hu
          obtain ⟨v, k1, k2⟩ := h2 y z e
          exact isem_of ix_kdict ⟨a, y, v, rfl, rfl, k1, h4 m2 G2 H2 R2 .refl _ (k2 G2)⟩
        | _ => cases e
      · cases hk
    · exact q.elim
  · split at q
    · rename_i hi
      refine er_of (pe_ix isem_op pe_er pe_er (plain_ix hi)) (so_name hc rfl sit R en _ ((Post.split q).imp fun w m1 G1 H1 S1 R1 st1 h1 v hv => go_v hR rfl sit R1 (en.mono st1) h1 fun d m2 G2 H2 S2 R2 en2 st2 h2 u hu => ?_))
      obtain ⟨z, e, h3⟩ := post_o h2
      exact ix_ok R2 (st2.isW hv) hu e (h3 m2 G2 H2 R2 .refl)
    · exact q.elim

/-! ### slices -/
theorem IsWL.drop {n : Nat} : ∀ {ws : List W} {vs : List V} (i : Nat), IsWL F G m n ws vs → IsWL F G m n (ws.drop i) (vs.drop i)
  | _, _, 0, h => h
  | [], vs, i + 1, h => by simp only [IsWL] at h; rw [h]; simp [IsWL]
  | w :: ws, vs, i + 1, h => by
    simp only [IsWL] at h
    obtain ⟨v, r, rfl, h1, h2⟩ := h
    exact IsWL.drop i h2
theorem IsWL.take {n : Nat} : ∀ {ws : List W} {vs : List V} (i : Nat), IsWL F G m n ws vs → IsWL F G m n (ws.take i) (vs.take i)
  | _, _, 0, h => by simp [IsWL]
  | [], vs, i + 1, h => by simp only [IsWL] at h; rw [h]; simp [IsWL]
  | w :: ws, vs, i + 1, h => by
    simp only [IsWL] at h
    obtain ⟨v, r, rfl, h1, h2⟩ := h
    simp only [List.take_succ_cons, IsWL]
    exact ⟨v, _, rfl, h1, IsWL.take i h2⟩
theorem cut_ok {n : Nat} {ws : List W} {vs : List V} {lo hi : Option Int} (h : IsWL F G m n ws vs) : IsWL F G m n (cutL ws lo hi) (cutV vs lo hi) := by
  unfold cutL cutV
  rw [h.length]
  exact (h.drop _).take _
theorem cutL_map {lo hi : Option Int} {ds : List P} : cutL (ds.map W.p) lo hi = (cutL ds lo hi).map W.p := by
  unfold cutL
  rw [List.length_map, List.map_take, List.map_drop]
theorem sl_ok {w : W} {lo hi : Option Int} {z : P} {v : V} {Q : VK} (R : Rel (fx X) m G H S) (hw : IsW (fx X) G m S.length w v) (e : sliceR S w lo hi = some z) (q : Ans' X m G H S z Q) : slSem X v lo hi H Q := by
  unfold sliceR at e
  split at e
  · rename_i ds
    cases e
    obtain ⟨a, vs, rfl, h1, h2⟩ := is_tup rfl (show Is (fx X) G _ v from hw)
    have h3 : IsL (fx X) G (cutL ds lo hi) (cutV vs lo hi) := by
      have := cut_ok (lo := lo) (hi := hi) (h2.toW (m := m) (n := 0))
      rw [cutL_map] at this
      exact IsL.ofW this
    refine slsem_of sl_tupA ⟨a, vs, rfl, sqT_mono R.ex h1, fun hall => ?_, fun _ p hp => ?_⟩
    · refine q m G H R .refl _ ?_
      have e1 : cutL ds lo hi = ds := by
        unfold cutL
        rw [← h2.length, hall.1, hall.2, h2.length]
        simp
      rw [e1]
      exact hw
    · obtain ⟨G', R', st', i'⟩ := new_tup R h3 hp
      exact q m G' _ R' st' _ i'
  · rename_i hnt
    split at e
    · rename_i ws hs
      obtain ⟨ds, hd, rfl⟩ := optmap e
      obtain ⟨a, vs, rfl, h2, h3⟩ := seq_ok R hw hs
      have h4 := dats_ok (cut_ok h2) hd
      rcases h3 with ⟨_, h3⟩ | ⟨⟨ds', rfl⟩, _⟩
      · refine slsem_of sl_list ⟨a, vs, rfl, h3, fun p hp => ?_⟩
        obtain ⟨G', R', st', i'⟩ := new_lst R h4 hp
        exact q m G' _ R' st' _ i'
      · exact absurd rfl (hnt ds')
    · split at e
      · rename_i zz hz
        have hs := dat_ok R hw hz
        simp only [Is] at hs
        subst hs
        split at e <;> cases e
        rename_i hl
        exact slsem_of sl_str ⟨zz, rfl, hl, q m G H R .refl _ (by simp [Is])⟩
      · cases e
def PRd (X : Cx) (e : Option Expr) : TO := fun σ H Q => ∀ pins s, Inv X pins σ H s → wpAny (model X.prog X.w) X.A (evalPart e X.env) (fun u s' => ∃ o H', Inv X pins σ H' s' ∧ IsPart u o ∧ Q o H') X.xe s
theorem po_er {e : Option Expr} : PO X e (PRd X e) := ⟨fun pins s _ _ _ I h => h pins s I⟩
theorem pr_of {e : Option Expr} {t : TO} (h : PO X e t) {Q : Option Int → Hp → Prop} (q : t σ H Q) : PRd X e σ H Q := fun pins s I => h.run pins s σ H Q I q
theorem go_part (hR : OkR cf k F L) (hF : fx X = F) (sit : Sit k X ctx Wx) (R : Rel F m G H S) (en : EnvRel F G m S.length σ E) {e : Option Expr} {α : Type} {f : Option Int → Store → Res α} {K : α → (Nat → Addr) → Hp → Hp → Store → Prop}
    (h : Post F Wx σ m G H S ((partR L ctx e E S).andThen f) K) {Q : Option Int → Hp → Prop} (q : ∀ o m1 G1 H1 S1, Rel F m1 G1 H1 S1 → EnvRel F G1 m1 S1.length σ E → Stp m G H S m1 G1 H1 S1 → Post F Wx σ m1 G1 H1 S1 (f o S1) K → Q o H1) : PRd X e σ H Q := by
  cases e with
  | none => exact pr_of po_none (q none m G H S R en .refl h)
  | some e =>
    refine pr_of (po_some pe_er) (go_v hR hF sit R en h.split fun d m1 G1 H1 S1 R1 en1 st1 h1 v hv => ?_)
    cases d with
    | int i =>
      simp only [Is] at hv
      subst hv
      exact ⟨i, rfl, q _ m1 G1 H1 S1 R1 en1 st1 (post_ok R1 h1)⟩
    | _ => exact h1.elim
theorem so_slice (hR : OkR cf k F L) (hF : fx X = F) (sit : Sit k X ctx Wx) (R : Rel F m G H S) (en : EnvRel F G m S.length σ E) {a : Expr} {lo hi : Option Expr} {pos p2 : Pos} :
    SoE X Wx σ m G H S (.Subscript a (.Slice lo hi none p2) pos) ((L.r ctx a E S).andThen fun w S1 => (partR L ctx lo E S1).andThen fun l S2 => (partR L ctx hi E S2).andThen fun h S3 => okO ((sliceR S3 w l h).map .p) S3) := by
  subst hF
  intro Q q
  refine er_of (pe_slice slsem_op pe_er po_er po_er) (go_r hR rfl sit R en q fun w m1 G1 H1 S1 R1 en1 st1 h1 v hv => go_part hR rfl sit R1 en1 h1 fun l m2 G2 H2 S2 R2 en2 st2 h2 => go_part hR rfl sit R2 en2 h2 fun h m3 G3 H3 S3 R3 en3 st3 h3 => ?_)
  obtain ⟨z, e, h4⟩ := post_p h3
  exact sl_ok R3 ((st2.trans st3).isW hv) e h4

/-! ### arguments, displays -/
theorem so_vs (hR : OkR cf k (fx X) L) (sit : Sit k X ctx Wx) : ∀ (es : List Expr) {m : Nat → Addr} {G H : Hp} {S : Store}, Rel (fx X) m G H S → EnvRel (fx X) G m S.length σ E → SoAv X Wx σ m G H S es (Lv.vs L ctx es E S)
  | [], m, G, H, S, R, en => fun Q q => ea_of pa_nil (post_ok R q [] (by simp [IsL]))
  | e :: es, m, G, H, S, R, en => fun Q q => by
    unfold Lv.vs at q
    split at q
    · rename_i hs
      refine ea_of (pa_cons pe_er pa_er (starEach_cons hs)) (go_v hR rfl sit R en q fun d m1 G1 H1 S1 R1 en1 st1 h1 v hv => so_vs hR sit es R1 en1 _ (h1.split.imp fun ds m2 G2 H2 S2 R2 st2 h2 vs hvs => ?_))
      exact post_ok R2 h2 _ (by simp only [IsL]; exact ⟨v, vs, rfl, st2.is hv, hvs⟩)
    · exact q.elim
theorem so_tup (hR : OkR cf k F L) (hF : fx X = F) (sit : Sit k X ctx Wx) (R : Rel F m G H S) (en : EnvRel F G m S.length σ E) {es : List Expr} {j : Nat} {pos : Pos} :
    SoE X Wx σ m G H S (.Tuple es j pos) ((Lv.vs L ctx es E S).andThen fun ds S1 => if ds.length ≤ sizeLine then .ok (.p (.tup ds)) S1 else .bad) := by
  subst hF
  intro Q q
  refine er_of (pe_tup pa_er) (so_vs hR sit es R en _ (q.split.imp fun ds m1 G1 H1 S1 R1 st1 h1 vs hvs => ?_))
  split at h1
  · rename_i hl
    refine ⟨by rw [hvs.length]; exact hl, fun p hp => ?_⟩
    obtain ⟨G', R', st', i'⟩ := new_tup R1 hvs hp
    exact h1 m1 G' _ R' st' _ i'
  · exact h1.elim
theorem so_lst (hR : OkR cf k F L) (hF : fx X = F) (sit : Sit k X ctx Wx) (R : Rel F m G H S) (en : EnvRel F G m S.length σ E) {es : List Expr} {pos : Pos} :
    SoE X Wx σ m G H S (.List es pos) ((Lv.vs L ctx es E S).andThen fun ds S1 => if ds.length ≤ sizeLine then .ok (.p (.lst ds)) S1 else .bad) := by
  subst hF
  intro Q q
  refine er_of (pe_lst pa_er) (so_vs hR sit es R en _ (q.split.imp fun ds m1 G1 H1 S1 R1 st1 h1 vs hvs => ?_))
  split at h1
  · rename_i hl
    refine ⟨by rw [hvs.length]; exact hl, fun p hp => ?_⟩
    obtain ⟨G', R', st', i'⟩ := new_lst R1 hvs hp
    exact h1 m1 G' _ R' st' _ i'
  · exact h1.elim

/-! ### texts with parts -/
theorem so_fmt (hR : OkR cf k F L) (hF : fx X = F) (sit : Sit k X ctx Wx) (R : Rel F m G H S) (en : EnvRel F G m S.length σ E) {e : Expr} :
    SoV X Wx σ m G H S e ((fmtR L ctx e E S).andThen fun z S1 => .ok (.str z) S1) := by
  subst hF
  intro Q q
  unfold fmtR at q
  split at q
  · refine er_of (pe_fmt pe_er) (go_v hR rfl sit R en q.split fun d m1 G1 H1 S1 R1 en1 st1 h1 v hv => ?_)
    split at h1
    · rename_i z
      simp only [Is] at hv
      subst hv
      split at h1
      · rename_i hl
        exact .inl ⟨z, rfl, hl, post_ok R1 (post_ok R1 h1) _ (by simp [Is])⟩
      · exact h1.elim
    · rename_i i
      simp only [Is] at hv
      subst hv
      split at h1
      · rename_i hl
        exact .inr ⟨i, rfl, hl, post_ok R1 (post_ok R1 h1) _ (by simp [Is])⟩
      · exact h1.elim
    · exact h1.elim
  · exact er_of pe_str (post_ok R (post_ok R q.split) _ (by simp [Is]))
  · exact q.elim
theorem pj_all : ∀ es : List Expr, PJ X es (es.map (ER X))
  | [] => .nil
  | e :: es => .cons pe_er (pj_all es)
theorem so_fmts (hR : OkR cf k (fx X) L) (sit : Sit k X ctx Wx) : ∀ (es : List Expr) (acc : Str) {m : Nat → Addr} {G H : Hp} {S : Store} {Q : Str → Hp → Prop}, Rel (fx X) m G H S → EnvRel (fx X) G m S.length σ E →
    Post (fx X) Wx σ m G H S (fmtsR L ctx es acc E S) (fun z m' G' H' S' => Q z H') → tJs (es.map (ER X)) acc σ H Q
  | [], acc, m, G, H, S, Q, R, en, q => post_ok R q
  | e :: es, acc, m, G, H, S, Q, R, en, q => by
    unfold fmtsR at q
    have q1 := q.split
    refine so_fmt hR rfl sit R en _ ?_
    cases hf : fmtR L ctx e E S with
    | bad => rw [hf] at q1; exact q1
    | exc x S1 => rw [hf] at q1; exact q1
    | ok z S1 =>
      rw [hf] at q1
      intro m1 G1 H1 R1 st1 v hv
      have h1 := q1 m1 G1 H1 R1 st1
      dsimp only at h1
      simp only [Is] at hv
      subst hv
      split at h1
      · rename_i hl
        exact ⟨z, rfl, hl, so_fmts hR sit es (acc ++ z) R1 (en.mono st1) h1⟩
      · exact h1.elim
theorem so_joined1 (hR : OkR cf k F L) (hF : fx X = F) (sit : Sit k X ctx Wx) (R : Rel F m G H S) (en : EnvRel F G m S.length σ E) {e : Expr} {pos : Pos} :
    SoE X Wx σ m G H S (.JoinedStr [e] pos) ((fmtR L ctx e E S).andThen fun z S1 => .ok (.p (.str z)) S1) := by
  subst hF
  intro Q q
  refine er_of (pe_joined1 pe_er) (so_fmt hR rfl sit R en Q ?_)
  cases hf : fmtR L ctx e E S with
  | bad => rw [hf] at q; exact q
  | exc x S1 => rw [hf] at q; exact q
  | ok z S1 => rw [hf] at q; exact fun m1 G1 H1 R1 st1 v hv => q m1 G1 H1 R1 st1 v hv
theorem so_joined (hR : OkR cf k F L) (hF : fx X = F) (sit : Sit k X ctx Wx) (R : Rel F m G H S) (en : EnvRel F G m S.length σ E) {ps : List Expr} {pos : Pos} :
    SoE X Wx σ m G H S (.JoinedStr ps pos) (if 2 ≤ ps.length then (fmtsR L ctx ps Str.empty E S).andThen fun z S1 => .ok (.p (.str z)) S1 else .bad) := by
  subst hF
  intro Q q
  split at q
  · rename_i hl
    match ps, hl with
    | a :: b :: r, _ =>
      exact er_of (pe_joined (pj_all (a :: b :: r))) (so_fmts hR sit (a :: b :: r) Str.empty R en (q.split.imp fun z m1 G1 H1 S1 R1 st1 h1 => post_ok R1 h1 _ (by simp [IsW, Is])))
  · exact q.elim

/-! ### truth -/
theorem tru_ok {w : W} {b : Bool} {v : V} (R : Rel F m G H S) (h : IsW F G m S.length w v) (e : truOf S w = some b) : TruV F.K v H b := by
  have sq : (seqOf S w).map (fun ws => !ws.isEmpty) = some b → TruV F.K v H b := fun e => by
    obtain ⟨ws, e1, rfl⟩ := optmap e
    obtain ⟨a, vs, rfl, h2, h3⟩ := seq_any R h e1
    have : (!ws.isEmpty) = !vs.isEmpty := by
      have := h2.length
      cases ws <;> cases vs <;> first | rfl | cases this
    rw [this]
    rcases h3 with h3 | h3
    · exact .inl ⟨vs, h3, rfl⟩
    · exact .inr (.inl ⟨vs, h3, rfl⟩)
  unfold truOf at e
  split at e
  · cases e; have h' : Is F G .non v := h; simp only [Is] at h'; subst h'; rfl
  · cases e; have h' : Is F G (.bl b) v := h; simp only [Is] at h'; subst h'; rfl
  · cases e; rename_i i; have h' : Is F G (.int i) v := h; simp only [Is] at h'; subst h'; rfl
  · rename_i s
    split at e <;> cases e
    rename_i hl
    have h' : Is F G (.str s) v := h
    simp only [Is] at h'
    subst h'
    exact ⟨hl, rfl⟩
  · exact sq e
theorem so_tru (hR : OkR cf k F L) (hF : fx X = F) (sit : Sit k X ctx Wx) (R : Rel F m G H S) (en : EnvRel F G m S.length σ E) {e : Expr} (hp : plainT e = true) :
    SoT X Wx σ m G H S e ((L.r ctx e E S).andThen fun w S1 => okO (truOf S1 w) S1) := by
  subst hF
  intro Q q
  refine et_of (pt_truth pe_er (test_of hp)) (go_r hR rfl sit R en q fun w m1 G1 H1 S1 R1 en1 st1 h1 v hv => ?_)
  obtain ⟨b, e1, h2⟩ := post_o h1
  exact ⟨b, tru_ok R1 hv e1, h2 m1 G1 H1 R1 .refl⟩
end
end Mp
end
section
set_option Elab.async false
set_option linter.all false
set_option maxRecDepth 100000
set_option autoImplicit false
set_option maxHeartbeats 1000000
/-! MpI: arguments, calls of built-ins and of the text's defs, methods of built-in kinds. -/
namespace Mp
open PySem PySem.Spec PyProof.Rows L2

/-- what a def keeps: what its reading says -/
def spRun (F : Fx) (n : Nat) (f : List W → Store → Res W) : Sp := fun vs H Q E => vs.length = n ∧ ∃ m G S ws, Rel F m G H S ∧ IsWL F G m S.length ws vs ∧
  Post F (fun cls d _ H' => E cls d H') [] m G H S (f ws S) fun w m' G' H' S' => ∀ v, IsW F G' m' S'.length w v → Q v H'
/-- the defs keep their promises -/
structure CallsOk (F : Fx) (cf : Cf) (k : Nat) (call : Str × Option Str → List W → Store → Res W) : Prop where
  fn : ∀ x f, fnOf cf (x, none) = some f → ∃ a fd, F.mg x = some (.ref a) ∧ PySem.W.keepIn F.K (.ref a) = true ∧ Binds F.K fd f.ps [] ∧ FnOk F.Pr F.w F.K F.mg F.base (L2.CX F.Pr F.w) k a fd f.ps (spRun F f.ps.length (call (x, none)))

section
variable {cf : Cf} {k : Nat} {F : Fx} {L : Lv} {X : Cx} {Wx : WX} {ctx : Ctx} {σ : L2.St} {E : En} {m : Nat → Addr} {G H : Hp} {S : Store} {call : Str × Option Str → List W → Store → Res W}

/-- a new own list -/
theorem new_cell {ws : List W} {vs : List V} (R : Rel F m G H S) (h : IsWL F G m S.length ws vs) {p : Addr} (hp : H p = none) :
    ∃ m', Rel F m' G (upd H p (.lst vs)) (S ++ [.lst ws]) ∧ Stp m G H S m' G (upd H p (.lst vs)) (S ++ [.lst ws]) ∧ IsW F G m' (S ++ [Cell.lst ws]).length (.o S.length) (.ref p) := by
  obtain ⟨R', st'⟩ := R.alloc (c := .lst ws) (H' := upd H p (.lst vs)) hp (fun b hb _ => upd_ne hb) rfl ⟨vs, upd_same, h.mono (fun _ _ e => e) (Nat.le_succ _) fun i hi => mAdd_old hi⟩
  exact ⟨_, R', st', by simp, by rw [mAdd_new]⟩
theorem IsW.keep {n : Nat} {w : W} {v : V} (h : IsW F G m n w v) : IsW F G m n w v := h

/-- what goes into an object -/
theorem go_keep {r : Res W} {Q : W → (Nat → Addr) → Hp → Hp → Store → Prop} (h : Post F Wx σ m G H S (keepO r) Q) :
    Post F Wx σ m G H S r fun w m1 G1 H1 S1 => Rel F m1 G1 H1 S1 → ∀ v, IsW F G1 m1 S1.length w v → ∃ w' G2 S2, Rel F m1 G2 H1 S2 ∧ Stp m1 G1 H1 S1 m1 G2 H1 S2 ∧ IsW F G2 m1 S2.length w' v ∧ Q w' m1 G2 H1 S2 := by
  refine (Post.split h).imp fun w m1 G1 H1 S1 R1 st1 h1 R1' v hv => ?_
  cases w with
  | p d => exact ⟨_, G1, S1, R1, .refl, hv, h1 m1 G1 H1 R1 .refl⟩
  | o id =>
    dsimp only at h1
    split at h1
    · exact ⟨_, G1, S1, R1, .refl, hv, h1 m1 G1 H1 R1 .refl⟩
    · obtain ⟨d, G2, S2, R2, st2, i2, k2⟩ := (Post.frzR (Post.split h1)) m1 G1 H1 R1 .refl v hv
      exact ⟨.p d, G2, S2, R2, st2, i2, k2 m1 G2 H1 R2 .refl⟩
theorem so_k (hR : OkR cf k (fx X) L) (sit : Sit k X ctx Wx) (R : Rel (fx X) m G H S) (en : EnvRel (fx X) G m S.length σ E) {e : Expr} : SoE X Wx σ m G H S e (L.k ctx e E S) := fun Q q =>
  hR ctx e X Wx σ E m G H S rfl sit R en Q ((go_keep q).imp fun w m1 G1 H1 S1 R1 st1 h1 v hv => by
    obtain ⟨w', G2, S2, R2, st2, i2, k2⟩ := h1 R1 v hv
    exact k2 v i2)

/-! ### built-ins -/
theorem so_lenR {w : W} {z : P} {v : V} {Q : VK} (R : Rel (fx X) m G H S) (hw : IsW (fx X) G m S.length w v) (e : lenR S w = some z) (q : ∀ u, Is (fx X) G z u → Q u H) : cSem X (.builtin "len") [v] H Q := by
  unfold lenR at e
  split at e
  · rename_i ws hs
    cases e
    obtain ⟨a, vs, rfl, h2, h3⟩ := seq_any R hw hs
    refine csem_of call_len_seq ⟨a, vs, rfl, h3, ?_⟩
    rw [h2.length]
    exact q _ (by simp [Is])
  · split at e
    · rename_i zz hz
      have hs := dat_ok R hw hz
      simp only [Is] at hs
      subst hs
      split at e <;> cases e
      rename_i hl
      exact csem_of call_len ⟨.str zz, zz.length, rfl, ⟨hl, rfl⟩, q _ (by simp [Is])⟩
    · cases e
theorem so_b1 (hc : CfOk (fx X) cf) (hR : OkR cf k (fx X) L) (sit : Sit k X ctx Wx) (R : Rel (fx X) m G H S) (en : EnvRel (fx X) G m S.length σ E) {x : Str} {a : Expr} {pos p : Pos} (hg : glb ctx.sc x = true) (hd : dunder x = false) (ha : noStar a = true) :
    SoE X Wx σ m G H S (.Call (.Name x p) [a] [] pos) (callB1 L ctx x a E S) := by
  intro Q q
  obtain ⟨d1, d2, d3⟩ := dunder_of hd
  rw [← sit.sc] at hg
  have gl := glb_of hg
  unfold callB1 at q
  split at q
  · rename_i hx
    subst hx
    refine er_of (pe_callB csem_op gl (hc.free _ (by decide +kernel)) PySem.boot_len (pa_cons pe_er pa_nil (starEach_cons ha)) d3 d1 (starEach_cons ha) (star_plain rfl)) (go_r hR rfl sit R en q fun w m1 G1 H1 S1 R1 en1 st1 h1 v hv => ?_)
    obtain ⟨z, e, h3⟩ := post_p h1
    exact so_lenR R1 hv e (h3 m1 G1 H1 R1 .refl)
  split at q
  · rename_i hx
    subst hx
    refine er_of (pe_callTy csem_op gl (hc.free _ (by decide +kernel)) boot_list (pa_cons pe_er pa_nil (starEach_cons ha)) d3 d1 (starEach_cons ha) (star_plain rfl)) (go_r hR rfl sit R en q fun w m1 G1 H1 S1 R1 en1 st1 h1 v hv => ?_)
    obtain ⟨z, e, h3⟩ := post_p h1
    unfold listR at e
    split at e
    · rename_i ws hs
      split at e
      · rename_i hl
        obtain ⟨ds, hds, rfl⟩ := optmap e
        obtain ⟨a, vs, rfl, h5, h6⟩ := seq_any R1 hv hs
        refine csem_of call_list_of ⟨a, vs, rfl, h6, fun l hl' => ?_⟩
        obtain ⟨G', R', st', i'⟩ := new_lst R1 (dats_ok h5 hds) hl'
        exact h3 m1 G' _ R' st' _ i'
      · cases e
    · cases e
  split at q
  · rename_i hx
    subst hx
    refine er_of (pe_callTy csem_op gl (hc.free _ (by decide +kernel)) boot_int (pa_cons pe_er pa_nil (starEach_cons ha)) d3 d1 (starEach_cons ha) (star_plain rfl)) (go_v hR rfl sit R en q fun d m1 G1 H1 S1 R1 en1 st1 h1 v hv => ?_)
    obtain ⟨z, e, h3⟩ := post_p h1
    have h4 := h3 m1 G1 H1 R1 .refl
    unfold intR at e
    split at e
    · cases e; simp only [Is] at hv; subst hv
      exact csem_of call_int1 (.inl ⟨_, rfl, h4 _ (by simp [Is])⟩)
    · cases e; simp only [Is] at hv; subst hv
      exact csem_of call_int1 (.inr ⟨_, rfl, h4 _ (by simp [Is])⟩)
    · cases e
  split at q
  · rename_i hx
    subst hx
    refine er_of (pe_callTy csem_op gl (hc.free _ (by decide +kernel)) boot_str (pa_cons pe_er pa_nil (starEach_cons ha)) d3 d1 (starEach_cons ha) (star_plain rfl)) (go_v hR rfl sit R en q fun d m1 G1 H1 S1 R1 en1 st1 h1 v hv => ?_)
    obtain ⟨z, e, h3⟩ := post_p h1
    have h4 := h3 m1 G1 H1 R1 .refl
    unfold strR at e
    split at e
    · split at e <;> cases e
      rename_i hl
      simp only [Is] at hv; subst hv
      exact csem_of call_str_int ⟨_, rfl, hl, h4 _ (by simp [Is])⟩
    · cases e
  split at q
  · rename_i hx
    subst hx
    refine er_of (pe_callB csem_op gl (hc.free _ (by decide +kernel)) boot_abs (pa_cons pe_er pa_nil (starEach_cons ha)) d3 d1 (starEach_cons ha) (star_plain rfl)) (go_v hR rfl sit R en q fun d m1 G1 H1 S1 R1 en1 st1 h1 v hv => ?_)
    obtain ⟨z, e, h3⟩ := post_p h1
    have h4 := h3 m1 G1 H1 R1 .refl
    unfold absR at e
    split at e
    · cases e; simp only [Is] at hv; subst hv
      exact csem_of call_abs ⟨_, rfl, h4 _ (by simp [Is])⟩
    · cases e
  split at q
  · rename_i hx
    subst hx
    refine er_of (pe_callTy csem_op gl (hc.free _ (by decide +kernel)) boot_tuple (pa_cons pe_er pa_nil (starEach_cons ha)) d3 d1 (starEach_cons ha) (star_plain rfl)) (go_v hR rfl sit R en q fun d m1 G1 H1 S1 R1 en1 st1 h1 v hv => ?_)
    obtain ⟨z, e, h3⟩ := post_p h1
    unfold tupleR at e
    split at e
    · cases e
      obtain ⟨a, vs, rfl, h5, h6⟩ := is_lst rfl hv
      refine csem_of call_tuple_of ⟨a, vs, rfl, .inl ⟨SqL.of (R1.ex _ _ h5), fun l hl' => ?_⟩⟩
      obtain ⟨G', R', st', i'⟩ := new_tup R1 h6 hl'
      exact h3 m1 G' _ R' st' _ i'
    · cases e
      obtain ⟨a, vs, rfl, h5, h6⟩ := is_tup rfl hv
      exact csem_of call_tupleT ⟨a, vs, rfl, sqT_mono R1.ex h5, h3 m1 G1 H1 R1 .refl _ hv⟩
    · cases e
  · exact q.elim
theorem tyNm_ok {t : Str} {ty : String} (h : tyNm t = some ty) : (ty = "bool" ∨ ty = "int" ∨ ty = "str" ∨ ty = "tuple") ∧ t ∈ bNames ∧ bootBuiltins t = some (.type ty) ∧ t ≠ "__name__" ∧ (t == ("__debug__" : Str)) = false := by
  unfold tyNm at h
  split at h
  · rename_i e; cases h; subst e; exact ⟨.inl rfl, by decide +kernel, boot_bool, by decide +kernel, by decide +kernel⟩
  split at h
  · rename_i e; cases h; subst e; exact ⟨.inr (.inl rfl), by decide +kernel, boot_int, by decide +kernel, by decide +kernel⟩
  split at h
  · rename_i e; cases h; subst e; exact ⟨.inr (.inr (.inl rfl)), by decide +kernel, boot_str, by decide +kernel, by decide +kernel⟩
  split at h
  · rename_i e; cases h; subst e; exact ⟨.inr (.inr (.inr rfl)), by decide +kernel, boot_tuple, by decide +kernel, by decide +kernel⟩
  · cases h
theorem isTy_ok {K : PySem.W.Frag} {ty : String} (ht : ty = "bool" ∨ ty = "int" ∨ ty = "str" ∨ ty = "tuple") {d : P} {v : V} {b : Bool} (e : Same G H) (hF : F.K = K) (h : Is F G d v) (hb : isTy ty d = some b) : ∃ t, TyX K H v t ∧ PySem.W.kitOne K t (.type ty) = some b := by
  subst hF
  cases d with
  | non => simp only [Is] at h; subst h; exact ⟨_, .base .non, by rcases ht with rfl | rfl | rfl | rfl <;> (cases hb; exact kit_ty (by decide +kernel))⟩
  | bl k => simp only [Is] at h; subst h; exact ⟨_, .base (.bl k), by rcases ht with rfl | rfl | rfl | rfl <;> (cases hb; exact kit_ty (by decide +kernel))⟩
  | int i => simp only [Is] at h; subst h; exact ⟨_, .base (.int i), by rcases ht with rfl | rfl | rfl | rfl <;> (cases hb; exact kit_ty (by decide +kernel))⟩
  | str z => simp only [Is] at h; subst h; exact ⟨_, .base (.str z), by rcases ht with rfl | rfl | rfl | rfl <;> (cases hb; exact kit_ty (by decide +kernel))⟩
  | tup ds =>
    obtain ⟨a, vs, rfl, h1, h2⟩ := is_tup rfl h
    refine ⟨.type "tuple", ?_, by rcases ht with rfl | rfl | rfl | rfl <;> (cases hb; exact kit_ty (by decide +kernel))⟩
    rcases sqT_mono e h1 with (h1 | ⟨o, h1⟩) | ⟨o, its, n, h1, h2, _⟩
    · exact .base (.tup h1)
    · exact .fTuple h1
    · exact .kTuple h1 h2
  | _ => cases hb
theorem so_b2 (hc : CfOk (fx X) cf) (hR : OkR cf k (fx X) L) (sit : Sit k X ctx Wx) (R : Rel (fx X) m G H S) (en : EnvRel (fx X) G m S.length σ E) {x : Str} {a b : Expr} {pos p : Pos} (hg : glb ctx.sc x = true) (hd : dunder x = false) (ha : noStar a = true) (hb : noStar b = true) :
    SoE X Wx σ m G H S (.Call (.Name x p) [a, b] [] pos) (callB2 L ctx x a b E S) := by
  intro Q q
  obtain ⟨d1, d2, d3⟩ := dunder_of hd
  rw [← sit.sc] at hg
  have gl := glb_of hg
  have hbp : [b].all noStar = true := by rw [List.all_cons, hb]; rfl
  unfold callB2 at q
  split at q
  · rename_i hx
    subst hx
    refine er_of (pe_callB csem_op gl (hc.free _ (by decide +kernel)) (show bootBuiltins "max" = some (.builtin "max") by decide +kernel) (pa_cons pe_er (pa_cons pe_er pa_nil (starEach_cons hb)) (starEach_cons ha)) d3 d1 (starEach_cons ha) (star_plain hbp)) (go_v hR rfl sit R en q fun d m1 G1 H1 S1 R1 en1 st1 h1 v hv => go_v hR rfl sit R1 en1 h1 fun d2 m2 G2 H2 S2 R2 en2 st2 h2 v2 hv2 => ?_)
    obtain ⟨z, e, h3⟩ := post_p h2
    have h4 := h3 m2 G2 H2 R2 .refl
    unfold maxR at e
    split at e
    · cases e; simp only [Is] at hv hv2; subst hv hv2
      exact csem_of (call_max2 sit.calm) ⟨_, _, rfl, h4 _ (by simp [Is])⟩
    · cases e
  split at q
  · rename_i hx
    subst hx
    refine er_of (pe_callB csem_op gl (hc.free _ (by decide +kernel)) (show bootBuiltins "min" = some (.builtin "min") by decide +kernel) (pa_cons pe_er (pa_cons pe_er pa_nil (starEach_cons hb)) (starEach_cons ha)) d3 d1 (starEach_cons ha) (star_plain hbp)) (go_v hR rfl sit R en q fun d m1 G1 H1 S1 R1 en1 st1 h1 v hv => go_v hR rfl sit R1 en1 h1 fun d2 m2 G2 H2 S2 R2 en2 st2 h2 v2 hv2 => ?_)
    obtain ⟨z, e, h3⟩ := post_p h2
    have h4 := h3 m2 G2 H2 R2 .refl
    unfold minR at e
    split at e
    · cases e; simp only [Is] at hv hv2; subst hv hv2
      exact csem_of (call_min2 sit.calm) ⟨_, _, rfl, h4 _ (by simp [Is])⟩
    · cases e
  split at q
  · rename_i hx
    subst hx
    split at q
    · rename_i t tp
      split at q
      · rename_i ht
        rw [← sit.sc] at ht
        split at q
        · rename_i ty hty
          obtain ⟨t1, t2, t3, t4, t5⟩ := tyNm_ok hty
          refine er_of (pe_callB csem_op gl (hc.free _ (by decide +kernel)) boot_isinstance (pa_cons pe_er (pa_cons (pe_bltn (v := .ty ty) (glb_of ht) (hc.free _ t2) t3 rfl t4 t5) pa_nil (starEach_cons rfl)) (starEach_cons ha)) d3 d1 (starEach_cons ha) (star_plain hbp)) (go_v hR rfl sit R en q fun d m1 G1 H1 S1 R1 en1 st1 h1 v hv => ?_)
          obtain ⟨z, e, h3⟩ := post_p h1
          obtain ⟨b', e1, rfl⟩ := optmap e
          obtain ⟨t', k1, k2⟩ := isTy_ok (H := H1) t1 R1.ex rfl hv e1
          exact csem_of call_isi ⟨v, .ty ty, t', _, b', rfl, .ty ty, k1, k2, h3 m1 G1 H1 R1 .refl _ (by simp [Is])⟩
        · exact q.elim
      · exact q.elim
    · exact q.elim
  · exact q.elim
end
end Mp
end
section
set_option Elab.async false
set_option linter.all false
set_option maxRecDepth 100000
set_option autoImplicit false
set_option maxHeartbeats 2000000
/-! MpN: enumerate over a tuple. -/
namespace Mp
open PySem PySem.Spec PyProof.Rows L2
section
open PySem.Sem (wp)
open PySem.AutoSeq1 (wpAny_loadPart')
def tIt (l : Addr) : Obj := { cls := .type "tuple_iterator", data := .fields #[.ref l, .int 0 0] }
def enO (p : Addr) : Obj := { cls := .type "enumerate", data := .fields #[.none, .bool false, .ref p, rawInt 0, .none, .none] }
theorem enum_new_tup (l : Addr) (items : Array Value) : Meets (Builtin.«enumerate.__new__» ⟨[.type "enumerate", .ref l], []⟩) (fun _ R s => s.heap.IsTuple l items ∧
      R (.ok (.ret (.ref (s.heap.push (tIt l)).objs.size))) { s with heap := (s.heap.push (tIt l)).push (enO s.heap.objs.size) }) :=
  .of_wp fun prog w A R s h => by
    obtain ⟨hp, g, d, tk, os⟩ := s
    obtain ⟨hL, h⟩ := h
    have q1 := sub_enumerate
    wp_walk
    refine wpAny_stack_any fun st => wpAny_pure ?_
    split
    · rename_i c _ _ _ _ _
      by_cases e : (c == Value.type "enumerate") = true
      all_goals (simp only [e]; wp_walk using wpAny_pyIter_tuple hL; exact ⟨_, rfl, h⟩)
    · wp_walk using wpAny_pyIter_tuple hL
      exact ⟨_, rfl, h⟩
variable {prog : Program} {w : World} {A : Around} {E : Value → Shared → Prop} {s : Shared}
theorem call_enum_tup {l : Addr} {items : Array Value} {Q : Value → Shared → Prop} (hL : s.heap.IsTuple l items)
    (h : ∀ h', IsEnum h' (s.heap.objs.size + 1) s.heap.objs.size 0 .none → h'.IsTupleIter s.heap.objs.size l 0 → (∀ b o, s.heap.get? b = some o → h'.get? b = some o) → Q (.ref (s.heap.objs.size + 1)) { s with heap := h' }) :
    wpAny (model prog w) A (call (.type "enumerate") [.ref l]) Q E s := by
  have z1 : (s.heap.push (tIt l)).objs.size = s.heap.objs.size + 1 := Heap.size_push ..
  have en : ((s.heap.push (tIt l)).push (enO s.heap.objs.size)).get? (s.heap.objs.size + 1) = some (enO s.heap.objs.size) := by
    have q := Heap.get?_push_size (s.heap.push (tIt l)) (o := enO s.heap.objs.size) rfl
    rw [z1] at q
    exact q
  refine callType_new F.called_enumerate (by decide) (F.typeCall_enumerate_1 _) (F.newCall_enumerate_1 _) (fun obj => F.args_object_init_2 obj _) F.entry_enumerate_new (enum_new_tup l items) ⟨hL, ?_⟩
  rw [z1]
  exact ⟨⟨_, en, rfl⟩, h _ en ⟨_, Heap.get?_push_of_some _ (Heap.get?_push_size _ rfl), rfl, rfl⟩ fun b o x => Heap.get?_push_of_some _ (Heap.get?_push_of_some _ x)⟩
end
section
variable {prog : Program} {w : World} {A : Around} {E : Value → Shared → Prop} {s : Shared}
theorem enumT_end {e it l : Addr} {i : Nat} {items : Array Value} {old : Value} {Q : Option Value → Shared → Prop} (hh : A.handled = none) (he : IsEnum s.heap e it i old) (hit : s.heap.IsTupleIter it l i) (hl : s.heap.IsTuple l items)
    (hx : items[i]? = none) (hQ : ∀ h', Heap.ExtBut it s.heap h' → Q none { s with heap := h' }) : wpAny (model prog w) A (pyNext (.ref e)) Q E s := by
  have tt : s.TypeIs (.ref e) "enumerate" := ⟨_, he, rfl⟩
  unfold pyNext
  refine wpAny_bind (wpAny_attempt ?_)
  refine wpAny_callSpecial?_slot (name := Str.ofString "__next__") tt F.slot_enumerate_next ?_
  refine wpAny_call_entry F.slot_enumerate_next tt F.entry_enumerate_next ?_ (F.args_enumerate_next_1 _)
  show wpAny _ _ (field (.ref e) 2 >>= _) _ _ s
  refine wpAny_bind (wpAny_field he rfl (x := .ref it) rfl (wpAny_bind (wpAny_nextOf_tuple_end hh hit hl hx fun h' x k1 k2 => ?_)))
  obtain ⟨o, ho, hc⟩ := k2
  exact wpAny_bind (wpAny_isInstance (T := "StopIteration") (b := true) ⟨o, ho, hc⟩ isSubtype_stop (wpAny_pure (hQ _ k1)))
end
/-- the tuple at a, each item in a new pair -/
def IteT (K : PySem.W.Frag) (a : Addr) : It where
  go i H := ∃ (xs : List V) (x : V), SqT K H a xs ∧ xs[i]? = some x
  yld i H v H' := ∃ T x, v = .ref T ∧ H T = none ∧ H' = upd H T (.tup [.int (i : Nat), x]) ∧ ∀ xs, SqT K H a xs → xs[i]? = some x
  stop i H := ∃ xs : List V, SqT K H a xs ∧ xs.length ≤ i
theorem turn_enumT {P : Program} {w : World} {K : PySem.W.Frag} {elts : List Expr} {kk : Nat} {tpos : Pos} (a e it : Addr) :
    Turn P w K (.Tuple elts kk tpos) (IteT K a) [e, it] e (fun i h => (∃ old, IsEnum h e it ((i : Nat) : Int) old) ∧ h.IsTupleIter it a i ∧ e ≠ it) where
  mem := by simp
  obj := fun i h st b hb => by
    obtain ⟨⟨old, he⟩, ⟨o, ho, hc, hd⟩, _⟩ := st
    rcases (show b = e ∨ b = it by simpa using hb) with rfl | rfl
    · exact ⟨_, he, fun v q => nomatch q⟩
    · refine ⟨o, ho, fun v q => ?_⟩
      rw [hd] at q
      cases q
  keep := fun i h h' st kp => by
    obtain ⟨⟨old, he⟩, hi, hne⟩ := st
    exact ⟨⟨old, kp e (by simp) _ he⟩, hi.at fun o q => kp it (by simp) o q, hne⟩
  item := by
    intro X hP hw hK hc i pins s σ H E I hf st hg
    subst hP hw hK
    obtain ⟨⟨old, he⟩, hit, hne⟩ := st
    obtain ⟨xs, x, hq, hx⟩ := hg
    obtain ⟨its, rv, tp, hz⟩ := I.tuple hq
    obtain ⟨u, hu, ru⟩ := rv.get hx
    have hel : e < s.heap.objs.size := Heap.lt_size he
    have hil : it < s.heap.objs.size := by
      obtain ⟨_, q, _⟩ := hit
      exact Heap.lt_size q
    have htp : s.heap.IsTuple a its.toArray := tp
    obtain ⟨oa, hoa, hca, na, hda⟩ := htp
    have nai : a ≠ it := by
      rintro rfl
      obtain ⟨_, q, q2, _⟩ := hit
      rw [hoa] at q
      cases q
      rw [hca] at q2
      injection q2 with q2
      exact absurd q2 (by decide)
    have nae : e ∉ [it, a] := by
      intro hm
      rcases (show e = it ∨ e = a by simpa using hm) with z | z
      · exact hne z
      · subst z
        rw [he] at hoa
        cases hoa
        injection hca with q2
        exact absurd q2 (by decide)
    have hlt : i < its.toArray.size := by
      have := (List.getElem?_eq_some_iff.mp hu).1
      simpa using this
    refine wpAny_pyNext_enum_itemD (Draws.tuple (A := X.A.in1) (I.ok.hd hc) it a nai its.toArray) he ⟨hit, ⟨oa, hoa, hca, na, hda⟩⟩ hlt hne nae fun x' h' tk hpx ho hst hT hsz hk => ?_
    have ex : x' = u := by
      have := hpx.symm.trans (show its.toArray[i]? = some u by simpa using hu)
      exact Option.some.inj this
    subst ex
    refine ⟨_, rfl, wpAny_letOwnedTupleGo_enum (s := { s with heap := h', toks := tk + 1 }) ho fun h2 he2 sb => ?_⟩
    have hT2 : h2.get? s.heap.objs.size = some { cls := .type "tuple", data := .seq #[.int i tk, x'] } := (sb.2 _ (Nat.ne_of_gt hel)).trans hT
    have nw : ObjOk X.prog X.w (upd H s.heap.objs.size (.tup [.int (i : Nat), x])) h2 s.heap.objs.size (.tup [.int (i : Nat), x]) :=
      ⟨by show 2 ≤ sizeLine; decide, [.int i tk, x'], .cons ⟨_, rfl⟩ (.cons ru .nil), ⟨_, hT2, rfl, _, rfl⟩⟩
    have I1 : Inv X pins σ (upd H s.heap.objs.size (.tup [.int (i : Nat), x])) { s with heap := h2, toks := tk + 1 } :=
      I.turnedNew (ch := [e, it]) (fun b ob hb q => (sb.2 b (fun z => hb (by simp [z]))).trans (hk b ob (fun z => hb (by simp [z])) (fun z => hb (by simp [z])) q)) hf (Nat.le_refl _) nw
    refine ⟨.ref s.heap.objs.size, _, I1, rfl, ⟨_, x, rfl, I.hok.fresh (Nat.le_refl _), rfl, fun ys hy => ?_⟩, ⟨⟨x', ?_⟩, hst.1.at fun o q => (sb.2 it (Ne.symm hne)).trans q, hne⟩, fun b hb => ?_⟩
    · rw [I.tuple_inj hy hq]
      exact hx
    · rw [show ((i + 1 : Nat) : Int) = (i : Int) + 1 by omega]
      exact he2
    · have lt : b < s.heap.objs.size := by
        rcases (show b = e ∨ b = it by simpa using hb) with z | z
        · rw [z]; exact hel
        · rw [z]; exact hil
      rw [upd_ne (Nat.ne_of_lt lt)]
      exact (hf b hb).1
  done := by
    intro X hP hw hK hc i pins s σ H E I hf st hg
    subst hP hw hK
    obtain ⟨⟨old, he⟩, hit, hne⟩ := st
    obtain ⟨xs, hq, hx⟩ := hg
    obtain ⟨its, rv, tp, hz⟩ := I.tuple hq
    obtain ⟨f0, f1, f2, f3, f4, f5⟩ := hf it (by simp)
    have hl := rv.length
    exact enumT_end (I.ok.hd hc) he hit tp (by simp; omega) fun h' eb => ⟨rfl, I.turned (t' := s.toks) (fun b o hb q => eb b o hb q) f0 f1 f3 f4 f5⟩
  self := fun A i s Q E st h => let ⟨⟨_, he⟩, _⟩ := st; wpAny_pyIter_enum he h
def iEnumT (K : PySem.W.Frag) (ta : TA) : TI := fun σ H R => ta σ H fun vs H1 => ∃ a xs, vs = [.ref a] ∧ SqT K H1 a xs ∧ R (IteT K a) H1
theorem pi_enumT {X : Cx} {e : Expr} {ta : TA} {p pos tpos : Pos} {elts : List Expr} {kk : Nat} (hg : Gl X "enumerate") (hm : X.mg "enumerate" = none) (ha : PA X [e] ta) (hs : starEach [e] X.env = [(false, eval e X.env)]) :
    PI X (.Tuple elts kk tpos) (.Call (.Name "enumerate" p) [e] [] pos) (iEnumT X.K ta) := by
  refine ⟨fun pins s σ H R I h => Call_ (ld_blt I hg hm boot_enumerate (PyProof.Rows.callWith_type1 (thn (ha.run pos pins s σ H _ I h) fun us s1 z => ?_) hs rfl))⟩
  obtain ⟨vs, H1, I1, r1, a, xs, ex, hq, q⟩ := z
  subst ex
  obtain ⟨u, rfl, ru⟩ := vals1 r1
  cases ru
  obtain ⟨its, rv, tp, hz⟩ := I1.tuple hq
  refine call_enum_tup (items := its.toArray) tp fun h' he hit hk => wpAny_pyIter_enum he ?_
  have I2 : Inv X pins σ H1 { s1 with heap := h' } := I1.kept (t' := s1.toks) hk
  refine ⟨s1.heap.objs.size + 1, [s1.heap.objs.size + 1, s1.heap.objs.size], _, _, H1, rfl, I2, turn_enumT a (s1.heap.objs.size + 1) s1.heap.objs.size, ⟨⟨.none, he⟩, hit, Nat.succ_ne_self _⟩, fun b hb => ?_, q⟩
  have le : s1.heap.objs.size ≤ b := by
    rcases (show b = s1.heap.objs.size + 1 ∨ b = s1.heap.objs.size by simpa using hb) with z | z
    · rw [z]; exact Nat.le_succ _
    · rw [z]; exact Nat.le_refl _
  exact I1.fpOk le (I1.hok.fresh le)
theorem walk_enumT {K : PySem.W.Frag} {a : Addr} {xs : List V} : Walk (IteT K a) xs.length (fun H => SqT K H a xs) (YPair (fun i => some (.int (i : Nat))) (fun i => xs[i]?)) where
  goes i _ hi q := ⟨xs, xs[i], q, by simp [hi]⟩
  stops _ q := ⟨xs, q, Nat.le_refl _⟩
  yields i H v H' _ q y := by
    obtain ⟨T, x, h1, h2, h3, h4⟩ := y
    exact ⟨T, .int (i : Nat), x, h1, h2, h3, rfl, h4 xs q⟩
end Mp
end
section
set_option Elab.async false
set_option linter.all false
set_option maxRecDepth 100000
set_option autoImplicit false
set_option maxHeartbeats 1000000
/-! MpJ: targets, what is walked, comprehensions. -/
namespace Mp
open PySem PySem.Spec PyProof.Rows L2

/-! ### targets -/
def PGr (X : Cx) (tg : Expr) : TG := fun v σ H Q => ∀ pins s u, Inv X pins σ H s → RelV v u → wpAny (model X.prog X.w) X.A (assign tg X.env u) (fun _ s' => ∃ σ' H', Inv X pins σ' H' s' ∧ Q σ' H') X.xe s
theorem pg_run {X : Cx} {tg : Expr} {g : TG} (h : PG X tg g) {v : V} {σ : L2.St} {H : Hp} {Q : L2.St → Hp → Prop} (q : g v σ H Q) : PGr X tg v σ H Q := fun pins s u I ru => h.run pins s σ H v u Q I ru q

section
variable {cf : Cf} {k : Nat} {F : Fx} {L : Lv} {X : Cx} {Wx : WX} {ctx : Ctx} {σ : L2.St} {E : En} {m : Nat → Addr} {G H : Hp} {S : Store}
/-- the slots of a target's names -/
def tgSlots (N : List Str) (tg : Expr) : List Nat := (ownOf N tg).map (·.2)
/-- a slot list with other values at some places -/
def SetIn (σ σ1 : L2.St) (is : List Nat) : Prop := σ1.length = σ.length ∧ ∀ j : Nat, j ∉ is → σ1[j]? = σ[j]?

theorem storable_of {X : Cx} {ctx : Ctx} {x : Str} (sc : X.env.scope = ctx.sc) (fn : ∀ x, ctx.cw x = true → X.fn x = true) (h : storable ctx x = true) : Loc X.env.scope x ∧ (X.fn x = true ∨ X.env.scope.names.lookup x = some .local) := by
  unfold storable at h
  rw [← sc] at h
  split at h
  · rename_i e; exact ⟨.inl e, .inr e⟩
  · rename_i e; exact ⟨.inr e, .inl (fn _ h)⟩
  · cases h
theorem bind1_ok (sit : Sit k X ctx Wx) {x : Str} {w : W} {E1 : En} {n : Nat} {v : V} (en : EnvRel (fx X) G m n σ E) (hv : IsW (fx X) G m n w v) (e : bind1 ctx x w E = some E1) :
    ∃ i, slot ctx.N x = some i ∧ EnvRel (fx X) G m n (σ.set i (some v)) E1 ∧ E1.length = E.length ∧ ∀ pos, PG X (.Name x pos) (gName i) := by
  unfold bind1 at e
  split at e
  · rename_i hs
    cases hl : slot ctx.N x with
    | none => rw [hl] at e; cases e
    | some i =>
      rw [hl] at e
      dsimp only at e
      split at e <;> cases e
      obtain ⟨h1, h2⟩ := storable_of sit.sc sit.fn hs
      exact ⟨i, rfl, en.set hv, List.length_set .., fun pos => pg_name sit.nd (by rw [sit.N]; exact slot_get hl) h1 h2⟩
  · cases e
theorem setIn_refl {is : List Nat} : SetIn σ σ is := ⟨rfl, fun _ _ => rfl⟩
theorem setIn_set {i : Nat} {x : Option V} {is : List Nat} (h : i ∈ is) : SetIn σ (σ.set i x) is :=
  ⟨List.length_set .., fun j hj => List.getElem?_set_ne (by rintro rfl; exact hj h)⟩
theorem SetIn.trans {σ1 σ2 : L2.St} {is : List Nat} (a : SetIn σ σ1 is) (b : SetIn σ1 σ2 is) : SetIn σ σ2 is := ⟨b.1.trans a.1, fun j hj => (b.2 j hj).trans (a.2 j hj)⟩
theorem SetIn.sub {σ1 : L2.St} {is js : List Nat} (a : SetIn σ σ1 is) (h : ∀ i ∈ is, i ∈ js) : SetIn σ σ1 js := ⟨a.1, fun j hj => a.2 j fun z => hj (h j z)⟩

theorem names_plain (sit : Sit k X ctx Wx) : ∀ (es : List Expr) (ds : List P) (E E1 : En), bindNs ctx es ds E = some E1 → (assignEach es X.env).length = es.length ∧ (assignEach es X.env).findIdx? (·.1) = none
  | [], ds, E, E1, e => ⟨rfl, rfl⟩
  | e0 :: es, [], E, E1, e => by cases e0 <;> simp [bindNs] at e
  | e0 :: es, d :: ds, E, E1, e => by
    cases e0 with
    | Name x pos =>
      unfold bindNs at e
      cases hb : bind1 ctx x (.p d) E with
      | none => rw [hb] at e; cases e
      | some E2 =>
        rw [hb] at e
        obtain ⟨h1, h2⟩ := names_plain sit es ds E2 E1 e
        have e1 : assignEach (.Name x pos :: es) X.env = (false, assign (.Name x pos) X.env) :: assignEach es X.env := rfl
        rw [e1]
        refine ⟨by rw [List.length_cons, List.length_cons, h1], ?_⟩
        rw [List.findIdx?_cons, h2]
        rfl
    | _ => simp [bindNs] at e
def PGrs (X : Cx) (ts : List Expr) : TGs := fun vs σ H Q => ∀ pins s us, Inv X pins σ H s → Vals vs us → ∃ t, PGs X ts t ∧ t vs σ H Q
theorem bindNs_ok (sit : Sit k X ctx Wx) {n : Nat} {H : Hp} : ∀ (es : List Expr) (ds : List P) (vs : List V) (σ : L2.St) (E E1 : En), EnvRel (fx X) G m n σ E → IsL (fx X) G ds vs → bindNs ctx es ds E = some E1 →
    es.length = ds.length ∧ ∃ σ1, EnvRel (fx X) G m n σ1 E1 ∧ SetIn σ σ1 ((es.flatMap (nameOwn ctx.N)).map (·.2)) ∧ ∃ t, PGs X es t ∧ ∀ Q : L2.St → Hp → Prop, Q σ1 H → t vs σ H Q
  | [], [], vs, σ, E, E1, en, h, e => by
    cases e
    simp only [IsL] at h
    subst h
    exact ⟨rfl, σ, en, setIn_refl, gNil, pgs_nil, fun Q q => ⟨rfl, q⟩⟩
  | .Name x pos :: es, d :: ds, vs, σ, E, E1, en, h, e => by
    simp only [IsL] at h
    obtain ⟨v, r, rfl, h1, h2⟩ := h
    unfold bindNs at e
    cases hb : bind1 ctx x (.p d) E with
    | none => rw [hb] at e; cases e
    | some E2 =>
      rw [hb] at e
      obtain ⟨i, k1, k2, _, k3⟩ := bind1_ok sit en (show IsW (fx X) G m n (.p d) v from h1) hb
      obtain ⟨l1, σ1, l2, l3, t, l4, l5⟩ := bindNs_ok sit es ds r (σ.set i (some v)) E2 E1 k2 h2 e
      have own : nameOwn ctx.N (.Name x pos) = [(x, i)] := by simp [nameOwn, k1]
      refine ⟨by simp [l1], σ1, l2, ?_, gCons (gName i) t, pgs_cons (k3 pos) l4, fun Q q => ⟨v, r, rfl, l5 Q q⟩⟩
      rw [List.flatMap_cons, own]
      refine SetIn.trans (setIn_set (by simp)) (l3.sub fun j hj => ?_)
      simp only [List.singleton_append, List.map_cons, List.mem_cons]
      exact .inr hj
  | [], _ :: _, vs, σ, E, E1, en, h, e => by simp [bindNs] at e
  | a :: es, [], vs, σ, E, E1, en, h, e => by cases a <;> simp [bindNs] at e
theorem bindT_ok (sit : Sit k X ctx Wx) (ex : Same G H) {tg : Expr} {w : W} {v : V} {E1 : En} {n : Nat} (en : EnvRel (fx X) G m n σ E) (hv : IsW (fx X) G m n w v) (e : bindT ctx tg w E = some E1) :
    ∃ σ1, EnvRel (fx X) G m n σ1 E1 ∧ SetIn σ σ1 (tgSlots ctx.N tg) ∧ ∀ Q : L2.St → Hp → Prop, Q σ1 H → PGr X tg v σ H Q := by
  unfold bindT at e
  split at e
  · rename_i x pos
    obtain ⟨i, k1, k2, _, k3⟩ := bind1_ok sit en hv e
    refine ⟨_, k2, ?_, fun Q q => pg_run (k3 pos) q⟩
    have own : ownOf ctx.N (.Name x pos) = [(x, i)] := by simp [ownOf, nameOwn, k1]
    exact setIn_set (by simp [tgSlots, own])
  · rename_i es j pos ds
    obtain ⟨a, vs, rfl, h1, h2⟩ := is_tup rfl (show Is (fx X) G _ v from hv)
    obtain ⟨l1, σ1, l2, l3, t, l4, l5⟩ := bindNs_ok sit (H := H) es ds vs σ E E1 en h2 e
    refine ⟨σ1, l2, l3, fun Q q => pg_run (pg_tup (n := es.length) sit.calm l4 (names_plain sit es ds E E1 e).1 (names_plain sit es ds E E1 e).2) ⟨a, vs, rfl, sqT_mono ex h1, by rw [h2.length, l1], l5 Q q⟩⟩
  · cases e
end
end Mp
end
section
set_option Elab.async false
set_option linter.all false
set_option maxRecDepth 100000
set_option autoImplicit false
set_option maxHeartbeats 1000000
/-! MpK: what is walked; comprehensions. -/
namespace Mp
open PySem PySem.Spec PyProof.Rows L2

def PIr (X : Cx) (tg it : Expr) : TI := fun σ H R => ∀ pins s, Inv X pins σ H s → wpAny (model X.prog X.w) X.A (eval it X.env) (fun v s1 => wpAny (model X.prog X.w) X.A (pyIter v) (PIE X pins σ tg R) X.xe s1) X.xe s
theorem pi_er {X : Cx} {tg it : Expr} : PI X tg it (PIr X tg it) := ⟨fun pins s _ _ _ I h => h pins s I⟩
theorem pir_of {X : Cx} {tg it : Expr} {w : TI} (h : PI X tg it w) {σ : L2.St} {H : Hp} {R : It → Hp → Prop} (q : w σ H R) : PIr X tg it σ H R := fun pins s I => h.run pins s σ H R I q

/-- an iterator goes through the source's items, from a state on, as long as the source stands -/
def WalkOk (F : Fx) (J : It) (src : Src) (m0 : Nat → Addr) (G0 H0 : Hp) (S0 : Store) : Prop := ∃ (Gd : Hp → Prop) (Y : Nat → Hp → V → Hp → Prop), Walk J src.ws.length Gd Y ∧
  (∀ m G H S, Rel F m G H S → Stp m0 G0 H0 S0 m G H S → src.ok S → Gd H) ∧
  ∀ i H x H', i < src.ws.length → Y i H x H' → ∀ m G S, Rel F m G H S → Stp m0 G0 H0 S0 m G H S → src.ok S → ∃ G' w, src.ws[i]? = some w ∧ Rel F m G' H' S ∧ Stp m G H S m G' H' S ∧ IsW F G' m S.length w x

section
variable {cf : Cf} {k : Nat} {F : Fx} {L : Lv} {X : Cx} {Wx : WX} {ctx : Ctx} {σ : L2.St} {E : En} {m : Nat → Addr} {G H : Hp} {S : Store}

/-- a list as it stands at each turn -/
theorem walkLn {K : PySem.W.Frag} {a : Addr} {n : Nat} : Walk (Itl K a) n (fun H => ∃ vs, SqL K H a vs ∧ vs.length = n) (fun i H x H' => H' = H ∧ ∀ vs, SqL K H a vs → vs[i]? = some x) where
  goes i H hi := fun ⟨vs, h, e⟩ => ⟨vs, vs[i]'(by omega), h, by simp⟩
  stops H := fun ⟨vs, h, e⟩ => ⟨vs, h, by omega⟩
  yields i H x H' hi _ y := ⟨y.1, y.2⟩
theorem walk_cell {id : Nat} {ws : List W} (R : Rel F m G H S) (hc : S[id]? = some (.lst ws)) : WalkOk F (Itl F.K (m id)) ⟨ws, some id⟩ m G H S := by
  have hid : id < S.length := (List.getElem?_eq_some_iff.mp hc).1
  refine ⟨_, _, walkLn, fun m1 G1 H1 S1 R1 st1 ok => ?_, fun i H1 x H2 hi y m1 G1 S1 R1 st1 ok => ?_⟩
  · obtain ⟨vs, h1, h2⟩ := R1.cells id _ ok
    rw [st1.mm id hid] at h1
    exact ⟨vs, SqL.of h1, h2.length⟩
  · obtain ⟨vs, h1, h2⟩ := R1.cells id _ ok
    rw [st1.mm id hid] at h1
    obtain ⟨rfl, y⟩ := y
    obtain ⟨w, k1, k2⟩ := IsWL.get' h2 (y vs (SqL.of h1))
    exact ⟨G1, w, k1, R1, .refl, k2⟩
theorem walk_lstG {a : Addr} {ds : List P} {vs : List V} (h : SqL F.K G a vs) (hd : IsL F G ds vs) : WalkOk F (Itl F.K a) ⟨ds.map .p, none⟩ m G H S := by
  refine ⟨fun H => SqL F.K H a vs, YAt vs, ?_, fun m1 G1 H1 S1 R1 st1 ok => sqL_mono R1.ex (sqL_mono st1.gg h), fun i H1 x H2 hi y m1 G1 S1 R1 st1 ok => ?_⟩
  · have e : (Src.mk (ds.map W.p) none).ws.length = vs.length := by simp [hd.length]
    rw [e]
    exact walk_list
  · obtain ⟨rfl, y⟩ := y
    obtain ⟨d, k1, k2⟩ := IsL.get' hd y
    exact ⟨G1, .p d, by simp [k1], R1, .refl, st1.is k2⟩
theorem walk_tupG {a : Addr} {ds : List P} {vs : List V} (h : SqT F.K G a vs) (hd : IsL F G ds vs) : WalkOk F (Itt F.K a) ⟨ds.map .p, none⟩ m G H S := by
  refine ⟨fun H => SqT F.K H a vs, YAt vs, ?_, fun m1 G1 H1 S1 R1 st1 ok => sqT_mono R1.ex (sqT_mono st1.gg h), fun i H1 x H2 hi y m1 G1 S1 R1 st1 ok => ?_⟩
  · have e : (Src.mk (ds.map W.p) none).ws.length = vs.length := by simp [hd.length]
    rw [e]
    exact walk_tup
  · obtain ⟨rfl, y⟩ := y
    obtain ⟨d, k1, k2⟩ := IsL.get' hd y
    exact ⟨G1, .p d, by simp [k1], R1, .refl, st1.is k2⟩
theorem walk_strG {z : Str} : WalkOk F (Its z) ⟨z.cps.toList.map fun c => .p (.str ⟨#[c]⟩), none⟩ m G H S := by
  refine ⟨fun _ => True, fun i H v H' => H' = H ∧ ∃ c, z.cps[i]? = some c ∧ v = .str ⟨#[c]⟩, ?_, fun _ _ _ _ _ _ _ => trivial, fun i H1 x H2 hi y m1 G1 S1 R1 st1 ok => ?_⟩
  · have e : (Src.mk (z.cps.toList.map fun c => W.p (.str ⟨#[c]⟩)) none).ws.length = z.cps.size := by simp
    rw [e]
    exact walk_str
  · obtain ⟨rfl, c, y1, rfl⟩ := y
    refine ⟨G1, .p (.str ⟨#[c]⟩), ?_, R1, .refl, by simp [IsW, Is]⟩
    rw [List.getElem?_map, Array.getElem?_toList, y1]
    rfl
theorem walk_rng {lo : Int} {n : Nat} : WalkOk F (Itr lo n) ⟨rangeP lo n, none⟩ m G H S := by
  refine ⟨fun _ => True, YFn (fun i => .int (lo + i)), ?_, fun _ _ _ _ _ _ _ => trivial, fun i H1 x H2 hi y m1 G1 S1 R1 st1 ok => ?_⟩
  · have e : (Src.mk (rangeP lo n) none).ws.length = n := by simp [rangeP]
    rw [e]
    exact walk_range
  · obtain ⟨rfl, rfl⟩ := y
    have hi' : i < n := by simpa [rangeP] using hi
    refine ⟨G1, .p (.int (lo + (i : Int))), ?_, R1, .refl, by simp [IsW, Is]⟩
    simp [rangeP, hi']
theorem pairsP_get : ∀ (ds : List P) (j i : Nat) (d : P), ds[i]? = some d → (pairsP j ds)[i]? = some (.p (.tup [.int ((j + i : Nat) : Int), d]))
  | [], j, i, d, e => by simp at e
  | d0 :: ds, j, 0, d, e => by
    simp at e
    subst e
    rfl
  | d0 :: ds, j, i + 1, d, e => by
    have := pairsP_get ds (j + 1) i d (by simpa using e)
    rw [show j + 1 + i = j + (i + 1) by omega] at this
    simpa [pairsP] using this
theorem pairsP_len : ∀ (ds : List P) (j : Nat), (pairsP j ds).length = ds.length
  | [], _ => rfl
  | d :: ds, j => by simp [pairsP, pairsP_len ds (j + 1)]
theorem enum_turn {ds : List P} {vs : List V} (hd : IsL F G ds vs) {i : Nat} {H1 H2 : Hp} {x : V} (y : YPair (fun i => some (.int (i : Nat))) (fun i => vs[i]?) i H1 x H2) {m1 : Nat → Addr} {G1 : Hp} {S1 : Store} (R1 : Rel F m1 G1 H1 S1) (st1 : Stp m G H S m1 G1 H1 S1) :
    ∃ G' w, (pairsP 0 ds)[i]? = some w ∧ Rel F m1 G' H2 S1 ∧ Stp m1 G1 H1 S1 m1 G' H2 S1 ∧ IsW F G' m1 S1.length w x := by
  obtain ⟨T, a, b, rfl, hT, rfl, e1, e2⟩ := y
  cases e1
  obtain ⟨d, k1, k2⟩ := IsL.get' hd e2
  obtain ⟨G', R', st', i'⟩ := new_tup (ds := [.int (i : Int), d]) R1 (by simp only [IsL]; exact ⟨_, _, rfl, rfl, _, _, rfl, st1.is k2, rfl⟩) hT
  have := pairsP_get ds 0 i d k1
  rw [Nat.zero_add] at this
  exact ⟨G', _, this, R', st', i'⟩
theorem walk_enumL {a : Addr} {ds : List P} {vs : List V} (h : SqL F.K G a vs) (hd : IsL F G ds vs) : WalkOk F (Ite F.K a) ⟨pairsP 0 ds, none⟩ m G H S := by
  refine ⟨fun H => SqL F.K H a vs, _, ?_, fun m1 G1 H1 S1 R1 st1 ok => sqL_mono R1.ex (sqL_mono st1.gg h), fun i H1 x H2 hi y m1 G1 S1 R1 st1 ok => enum_turn hd y R1 st1⟩
  have e : (Src.mk (pairsP 0 ds) none).ws.length = vs.length := by simp [pairsP_len, hd.length]
  rw [e]
  exact walk_enum
theorem walk_enumTG {a : Addr} {ds : List P} {vs : List V} (h : SqT F.K G a vs) (hd : IsL F G ds vs) : WalkOk F (IteT F.K a) ⟨pairsP 0 ds, none⟩ m G H S := by
  refine ⟨fun H => SqT F.K H a vs, _, ?_, fun m1 G1 H1 S1 R1 st1 ok => sqT_mono R1.ex (sqT_mono st1.gg h), fun i H1 x H2 hi y m1 G1 S1 R1 st1 ok => enum_turn hd y R1 st1⟩
  have e : (Src.mk (pairsP 0 ds) none).ws.length = vs.length := by simp [pairsP_len, hd.length]
  rw [e]
  exact walk_enumT

/-! ### the value that is walked -/
/-- the iterator of a value -/
def ISem (X : Cx) (tg : Expr) : V → Hp → (It → Hp → Prop) → Prop := fun x H R => ∀ pins s σ v, Inv X pins σ H s → RelV x v → wpAny (model X.prog X.w) X.A (pyIter v) (PIE X pins σ tg R) X.xe s
theorem pi_sem {tg it : Expr} : PI X tg it (fun σ H R => ER X it σ H fun x H1 => ISem X tg x H1 R) := ⟨fun pins s σ H R I h => thn (h pins s I) fun v s1 z => by
  obtain ⟨x, H1, I1, r1, q⟩ := z
  exact q pins s1 σ v I1 r1⟩
theorem isem_list {tg : Expr} {a : Addr} {xs : List V} {R : It → Hp → Prop} (h : SqL X.K H a xs) (q : R (Itl X.K a) H) : ISem X tg (.ref a) H R := by
  intro pins s σ v I rv
  cases rv
  obtain ⟨its, r', p, hz⟩ := I.list h
  refine wpAny_pyIter_list p.isList ⟨s.heap.objs.size, [s.heap.objs.size], _, _, H, rfl, I.kept (t' := s.toks) fun b o e => Heap.get?_push_of_some _ e, turn_list a _, ⟨_, Heap.get?_push_size _ rfl, rfl, rfl⟩, fun b hb => ?_, q⟩
  rw [List.mem_singleton.mp hb]
  exact I.fpOk (Nat.le_refl _) (I.hok.fresh (Nat.le_refl _))
theorem isem_tup {tg : Expr} {a : Addr} {xs : List V} {R : It → Hp → Prop} (h : SqT X.K H a xs) (q : R (Itt X.K a) H) : ISem X tg (.ref a) H R := by
  intro pins s σ v I rv
  cases rv
  obtain ⟨its, r', p, hz⟩ := I.tuple h
  refine wpAny_pyIter_tuple (items := its.toArray) p ⟨s.heap.objs.size, [s.heap.objs.size], _, _, H, rfl, I.kept (t' := s.toks) fun b o e => Heap.get?_push_of_some _ e, turn_tuple a _, ⟨_, Heap.get?_push_size _ rfl, rfl, rfl⟩, fun b hb => ?_, q⟩
  rw [List.mem_singleton.mp hb]
  exact I.fpOk (Nat.le_refl _) (I.hok.fresh (Nat.le_refl _))
theorem isem_str {tg : Expr} {z : Str} {R : It → Hp → Prop} (q : R (Its z) H) : ISem X tg (.str z) H R := by
  intro pins s σ v I rv
  obtain ⟨t, rfl⟩ := rv
  by_cases ha : z.cps.all (· < 128) = true
  · exact wpAny_pyIter_ascii ha (pi_one (tk := s.toks) I _ (turn_str _ z t "str_ascii_iterator" (.inl rfl)) ⟨_, Heap.get?_push_size _ rfl, rfl, rfl⟩ q)
  · exact wpAny_pyIter_wide (by simpa using ha) (pi_one (tk := s.toks) I _ (turn_str _ z t "str_iterator" (.inr rfl)) ⟨_, Heap.get?_push_size _ rfl, rfl, rfl⟩ q)
theorem src_ok {tg : Expr} {w : W} {src : Src} {v : V} {R : It → Hp → Prop} (Rl : Rel (fx X) m G H S) (hw : IsW (fx X) G m S.length w v) (e : srcOf S w = some src) (q : ∀ J, WalkOk (fx X) J src m G H S → R J H) : ISem X tg v H R := by
  unfold srcOf at e
  split at e
  · cases e
    obtain ⟨a, vs, rfl, h1, h2⟩ := is_lst rfl (show Is (fx X) G _ v from hw)
    exact isem_list (SqL.of (Rl.ex _ _ h1)) (q _ (walk_lstG (SqL.of h1) h2))
  · cases e
    have h' : Is (fx X) G (.fro _) v := hw
    simp only [Is] at h'
    obtain ⟨a, vs, rfl, h1, h2⟩ := h'
    exact isem_list (sqL_mono Rl.ex h1) (q _ (walk_lstG h1 h2))
  · cases e
    obtain ⟨a, vs, rfl, h1, h2⟩ := is_tup rfl (show Is (fx X) G _ v from hw)
    exact isem_tup (sqT_mono Rl.ex h1) (q _ (walk_tupG h1 h2))
  · cases e
    have h' : Is (fx X) G (.str _) v := hw
    simp only [Is] at h'
    subst h'
    exact isem_str (q _ walk_strG)
  · rename_i id
    obtain ⟨hi, rfl⟩ := (show id < S.length ∧ v = .ref (m id) from hw)
    split at e
    · rename_i ws hc
      cases e
      obtain ⟨vs, h1, h2⟩ := Rl.cells id _ hc
      exact isem_list (SqL.of h1) (q _ (walk_cell Rl hc))
    · rename_i ds hc
      cases e
      obtain ⟨a, vs, e1, h1, h2⟩ := is_lst rfl (show Is (fx X) G _ _ from Rl.cells id _ hc)
      cases e1
      exact isem_list (SqL.of (Rl.ex _ _ h1)) (q _ (walk_lstG (SqL.of h1) h2))
    · cases e
  · cases e
theorem so_srcD (hR : OkR cf k (fx X) L) (sit : Sit k X ctx Wx) (Rl : Rel (fx X) m G H S) (en : EnvRel (fx X) G m S.length σ E) {tg e : Expr} {R : It → Hp → Prop}
    (q : Post (fx X) Wx σ m G H S ((L.r ctx e E S).andThen fun w S1 => okO (srcOf S1 w) S1) fun src m1 G1 H1 S1 => ∀ J, WalkOk (fx X) J src m1 G1 H1 S1 → R J H1) : PIr X tg e σ H R := by
  refine pir_of pi_sem (go_r hR rfl sit Rl en q fun w m1 G1 H1 S1 R1 en1 st1 h1 v hv => ?_)
  obtain ⟨src, e1, h2⟩ := post_o h1
  exact src_ok R1 hv e1 (h2 m1 G1 H1 R1 .refl)
theorem so_src (hc : CfOk (fx X) cf) (hR : OkR cf k (fx X) L) (sit : Sit k X ctx Wx) (Rl : Rel (fx X) m G H S) (en : EnvRel (fx X) G m S.length σ E) {tg e : Expr} {R : It → Hp → Prop}
    (q : Post (fx X) Wx σ m G H S (srcE L ctx tg e E S) fun src m1 G1 H1 S1 => ∀ J, WalkOk (fx X) J src m1 G1 H1 S1 → R J H1) : PIr X tg e σ H R := by
  unfold srcE at q
  split at q
  · rename_i x p a pos
    split at q
    · rename_i hx
      obtain ⟨hg, rfl⟩ := hx
      rw [← sit.sc] at hg
      split at q
      · rename_i ha
        refine pir_of (pi_range1 (glb_of hg) (hc.free _ (by decide +kernel)) (pa_cons pe_er pa_nil (starEach_cons ha)) (by rw [starEach_cons ha]; rfl)) (go_v hR rfl sit Rl en q fun d m1 G1 H1 S1 R1 en1 st1 h1 v hv => ?_)
        split at h1
        · rename_i j
          simp only [Is] at hv
          subst hv
          split at h1
          · rename_i hb
            exact ⟨j, rfl, hb.1, hb.2, post_ok R1 h1 _ walk_rng⟩
          · exact h1.elim
        · exact h1.elim
      · exact q.elim
    split at q
    · rename_i hx
      obtain ⟨hg, rfl⟩ := hx
      rw [← sit.sc] at hg
      split at q
      · rename_i ha
        obtain ⟨ha, ht⟩ := ha
        cases tg with
        | Tuple elts j tp =>
          have hs : starEach [a] X.env = [(false, eval a X.env)] := by rw [starEach_cons ha]; rfl
          -- a list, a tuple: by the outcome
          have sv := ok_v (σ := σ) (E := E) (m := m) (G := G) (H := H) (S := S) hR rfl sit Rl en (e := a)
          cases hv : L.v ctx a E S with
          | bad => rw [hv] at q; exact q.elim
          | exc y S1 =>
            rw [hv] at q sv
            exact pir_of (pi_enum (glb_of hg) (hc.free _ (by decide +kernel)) (pa_cons pe_er pa_nil (starEach_cons ha)) hs) (sv _ q)
          | ok d0 S1 =>
            rw [hv] at q sv
            have q1 := fun m1 G1 H1 R1 st1 => (Post.split q) m1 G1 H1 R1 st1
            dsimp only at q1
            cases d0 with
            | lst ds =>
              refine pir_of (pi_enum (glb_of hg) (hc.free _ (by decide +kernel)) (pa_cons pe_er pa_nil (starEach_cons ha)) hs) (sv _ fun m1 G1 H1 R1 st1 v hv' => ?_)
              obtain ⟨a, vs, rfl, k1, k2⟩ := is_lst rfl hv'
              exact ⟨a, vs, rfl, SqL.of (R1.ex _ _ k1), post_ok R1 (q1 m1 G1 H1 R1 st1) _ (walk_enumL (SqL.of k1) k2)⟩
            | tup ds =>
              refine pir_of (pi_enumT (glb_of hg) (hc.free _ (by decide +kernel)) (pa_cons pe_er pa_nil (starEach_cons ha)) hs) (sv _ fun m1 G1 H1 R1 st1 v hv' => ?_)
              obtain ⟨a, vs, rfl, k1, k2⟩ := is_tup rfl hv'
              exact ⟨a, vs, rfl, sqT_mono R1.ex k1, post_ok R1 (q1 m1 G1 H1 R1 st1) _ (walk_enumTG k1 k2)⟩
            | _ => exact q.elim
        | _ => cases ht
      · exact q.elim
    · exact so_srcD hR sit Rl en q
  · rename_i x p a b pos
    split at q
    · rename_i hx
      obtain ⟨hg, rfl⟩ := hx
      rw [← sit.sc] at hg
      split at q
      · rename_i ha
        refine pir_of (pi_range2 (glb_of hg) (hc.free _ (by decide +kernel)) (pa_cons pe_er (pa_cons pe_er pa_nil (starEach_cons ha.2)) (starEach_cons ha.1)) (by rw [starEach_cons ha.1, starEach_cons ha.2]; rfl) (by rw [starEach_cons ha.2]; rfl)) (go_v hR rfl sit Rl en q fun d m1 G1 H1 S1 R1 en1 st1 h1 v hv => go_v hR rfl sit R1 en1 h1 fun d2 m2 G2 H2 S2 R2 en2 st2 h2 v2 hv2 => ?_)
        split at h2
        · rename_i i j
          simp only [Is] at hv hv2
          subst hv hv2
          split at h2
          · rename_i hb
            exact ⟨i, j, rfl, hb, post_ok R2 h2 _ walk_rng⟩
          · exact h2.elim
        · exact h2.elim
      · exact q.elim
    · exact so_srcD hR sit Rl en q
  · exact so_srcD hR sit Rl en q
end
end Mp
end
section
set_option Elab.async false
set_option linter.all false
set_option maxRecDepth 100000
set_option autoImplicit false
set_option maxHeartbeats 1000000
/-! MpM: list comprehensions. -/
namespace Mp
open PySem PySem.Spec PyProof.Rows L2

/-- a heap without one place -/
def msk (H : Hp) (D : Addr) : Hp := fun b => if b = D then none else H b
theorem msk_at {H : Hp} {D : Addr} : msk H D D = none := if_pos rfl
theorem msk_ne {H : Hp} {D b : Addr} (h : b ≠ D) : msk H D b = H b := if_neg h
theorem upd_msk {H : Hp} {D : Addr} {o : HO} (h : H D = some o) : upd (msk H D) D o = H := by
  funext b
  by_cases e : b = D
  · subst e; rw [upd_same, h]
  · rw [upd_ne e, msk_ne e]
theorem upd_msk' {H : Hp} {D : Addr} {o : HO} : upd (msk H D) D o = upd H D o := by
  funext b
  by_cases e : b = D
  · subst e; rw [upd_same, upd_same]
  · rw [upd_ne e, upd_ne e, msk_ne e]
theorem msk_upd {H : Hp} {D : Addr} {o : HO} (h : H D = none) : msk (upd H D o) D = H := by
  funext b
  by_cases e : b = D
  · subst e; rw [msk_at, h]
  · rw [msk_ne e, upd_ne e]
section
variable {cf : Cf} {k : Nat} {F : Fx} {L : Lv} {X : Cx} {Wx : WX} {ctx : Ctx} {σ : L2.St} {E : En} {m m' : Nat → Addr} {G G' H H' : Hp} {S S' : Store}
theorem Rel.msk {D : Addr} (R : Rel F m G H S) (g : G D = none) (l : ¬ Live m S D) : Rel F m G (Mp.msk H D) S := by
  refine ⟨fun b u e => ?_, fun id c e => ?_, R.out, R.inj⟩
  · rw [msk_ne (ne_of_none e g)]; exact R.ex b u e
  · exact (R.cells id c e).mono (fun _ _ e => e) (Nat.le_refl _) (fun _ _ => rfl) rfl fun lv => msk_ne fun z => l ⟨id, c, e, lv, z⟩
theorem Stp.msk {D : Addr} {o : HO} (st : Stp m G (upd H D o) S m' G' H' S') (h : H D = none) : Stp m G H S m' G' (Mp.msk H' D) S' where
  len := st.len
  mm := st.mm
  gg := st.gg
  keep b u e n := by
    have ne := ne_of_none e h
    rw [msk_ne ne]
    exact st.keep b u (by rw [upd_ne ne]; exact e) n
  gnew b e := (st.gnew b e).imp id fun z => z.imp id fun z => by
    by_cases q : b = D
    · subst q; exact h
    · rw [upd_ne q] at z; exact z
  lnew b e := (st.lnew b e).imp id fun z => by
    by_cases q : b = D
    · subst q; exact h
    · rw [upd_ne q] at z; exact z
/-- what a result promises without one place, seen with it -/
theorem Post.msk {α : Type} {r : Res α} {K : α → (Nat → Addr) → Hp → Hp → Store → Prop} {D : Addr} {o : HO} (h : Post F Wx σ m G H S r K) (hD : H D = none) (gD : G D = none) (lD : ¬ Live m S D) :
    Post F (fun _ _ _ _ => True) σ m G (upd H D o) S r fun a m' G' H' S' => H' D = some o ∧ G' D = none ∧ ¬ Live m' S' D ∧ Rel F m' G' (Mp.msk H' D) S' ∧ Stp m G H S m' G' (Mp.msk H' D) S' ∧ K a m' G' (Mp.msk H' D) S' := by
  cases r with
  | bad => exact h
  | exc x S1 => exact fun _ _ _ _ _ _ _ _ => trivial
  | ok a S1 =>
    intro m1 G1 H1 R1 st1
    have h1 : H1 D = some o := st1.keep D o upd_same lD
    have g1 : G1 D = none := by
      cases q : G1 D with
      | none => rfl
      | some u =>
        rcases st1.gnew D (by rw [q]; simp) with z | z | z
        · exact absurd gD z
        · exact absurd z lD
        · rw [upd_same] at z; cases z
    have l1 : ¬ Live m1 S1 D := fun l => by
      rcases st1.lnew D l with z | z
      · exact lD z
      · rw [upd_same] at z; cases z
    have R2 := R1.msk g1 l1
    exact ⟨h1, g1, l1, R2, st1.msk hD, h m1 G1 _ R2 (st1.msk hD)⟩

theorem wipe_get {σ : L2.St} : ∀ (vs : List Nat) (j : Nat), (wipe σ vs)[j]? = if j ∈ vs ∧ j < σ.length then some none else σ[j]?
  | [], j => by simp [wipe]
  | v :: vs, j => by
    unfold wipe
    by_cases e : v = j
    · subst e
      by_cases hl : v < σ.length
      · rw [List.getElem?_set_self (by rw [wipe_length]; exact hl), if_pos ⟨by simp, hl⟩]
      · rw [List.getElem?_eq_none (by rw [List.length_set, wipe_length]; omega), if_neg (fun z => hl z.2), List.getElem?_eq_none (by omega)]
    · rw [List.getElem?_set_ne e, wipe_get vs j]
      by_cases h : j ∈ vs ∧ j < σ.length
      · rw [if_pos h, if_pos ⟨List.mem_cons_of_mem _ h.1, h.2⟩]
      · rw [if_neg h, if_neg fun z => h ⟨by rcases List.mem_cons.mp z.1 with q | q; exact absurd q.symm e; exact q, z.2⟩]
theorem wipe_setIn {σ σ1 : L2.St} {vs : List Nat} (h : SetIn (wipe σ vs) σ1 vs) : wipe σ1 vs = wipe σ vs := by
  apply List.ext_getElem?
  intro j
  have hl : σ1.length = σ.length := by rw [h.1, wipe_length]
  rw [wipe_get, wipe_get, hl]
  by_cases q : j ∈ vs ∧ j < σ.length
  · rw [if_pos q, if_pos q]
  · rw [if_neg q, if_neg q]
    by_cases hj : j ∈ vs
    · have : σ.length ≤ j := by
        rcases Nat.lt_or_ge j σ.length with z | z
        · exact absurd ⟨hj, z⟩ q
        · exact z
      rw [List.getElem?_eq_none (by omega), List.getElem?_eq_none this]
    · rw [h.2 j hj, wipe_get, if_neg q]
theorem env_wipe {n : Nat} (en : EnvRel F G m n σ E) : ∀ own : List (Str × Nat), EnvRel F G m n (wipe σ (own.map (·.2))) (wipeE E own)
  | [] => en
  | p :: r => (env_wipe en r).unset

/-- a block's context -/
theorem sit_blk (sit : Sit k X ctx Wx) {scope : Scope} (s : Shared) (H0 : Hp) (C : Addr) (cl : List (Str × Addr)) (fp : List Addr) (Wx' : WX) : Sit k (X.blk s H0 scope (compEnvC scope cl C X.env) fp) (blkCtx ctx scope) Wx' where
  N := sit.N
  sc := by
    show relS scope X.env.scope = relS scope ctx.sc
    rw [sit.sc]
  nd := sit.nd
  calm := sit.calm
  room1 := sit.room1
  tk := fun h => by cases h
  fn := fun x h => h

/-- what holds in every block of the comprehension -/
def gAll (X : Cx) (scope : Scope) (tg : Expr) : TG := fun v σ H Q => ∀ s H0 C cl fp, PGr (X.blk s H0 scope (compEnvC scope cl C X.env) fp) tg v σ H Q
def eAll (X : Cx) (scope : Scope) (e : Expr) : TE := fun σ H Q => ∀ s H0 C cl fp, ER (X.blk s H0 scope (compEnvC scope cl C X.env) fp) e σ H Q
def tAll (X : Cx) (scope : Scope) (ifs : List Expr) : TT := fun σ H Q => ∀ s H0 C cl fp, ∃ t, PTs (X.blk s H0 scope (compEnvC scope cl C X.env) fp) ifs t ∧ t σ H Q

theorem so_tests (hT : OkT cf k (fx X) L) (sit : Sit k X ctx Wx) {ifs : List Expr} (R : Rel (fx X) m G H S) (en : EnvRel (fx X) G m S.length σ E) {Q : Bool → Hp → Prop} (q : Post (fx X) Wx σ m G H S (testsT L ctx ifs E S) fun b m' G' H' S' => Q b H') :
    ∃ t, PTs X ifs t ∧ t σ H Q := by
  unfold testsT at q
  split at q
  · exact ⟨_, pts_nil, post_ok R q⟩
  · exact ⟨_, pts_one pt_er, hT ctx _ X Wx σ E m G H S rfl sit R en Q q⟩
  · exact q.elim

/-- the loop of a comprehension -/
theorem so_compL (hT : OkT cf k (fx X) L) (sit : Sit k X ctx Wx) {elt tg : Expr} {ifs : List Expr} {scope : Scope} {ee : Ctx → Expr → En → Store → Res W}
    (hee : ∀ (X' : Cx) (Wx' : WX) (σ' : L2.St) (E' : En) (m : Nat → Addr) (G H : Hp) (S : Store), fx X' = fx X → Sit k X' (blkCtx ctx scope) Wx' → Rel (fx X) m G H S → EnvRel (fx X) G m S.length σ' E' → SoE X' Wx' σ' m G H S elt (ee (blkCtx ctx scope) elt E' S))
    {src : Src} {J : It} {Q : VK} (hw : WalkOk (fx X) J src m G H S) (hl : src.ws.length ≤ sizeLine) (R : Rel (fx X) m G H S) (en : EnvRel (fx X) G m S.length σ E)
    (q : Post (fx X) Wx σ m G H S (compL (blkCtx ctx scope) src tg (testsT L (blkCtx ctx scope) ifs) (ee (blkCtx ctx scope) elt) (wipeE E (ownOf ctx.N tg)) src.ws S) fun ys m' G' H' S' => ∀ D vs, H' D = none → IsWL (fx X) G' m' S'.length ys vs → Q (.ref D) (upd H' D (.lst vs)))
    (D : Addr) (hD : H D = none) :
    ∃ W : Nat → Nat → Hp → Prop, (∃ n, W 0 n (upd H D (.lst []))) ∧ ∀ i n H, W i n H → (J.stop i H ∧ Q (.ref D) H) ∨ (J.go i H ∧ ∃ Nx : Hp → Prop, (∀ H', Nx H' → ∃ n', n' < n ∧ W (i + 1) n' H') ∧
      ∀ x H', J.yld i H x H' → gAll X scope tg x (wipe σ (tgSlots ctx.N tg)) H' fun σ2 H2 => wipe σ2 (tgSlots ctx.N tg) = wipe σ (tgSlots ctx.N tg) ∧ tAll X scope ifs σ2 H2 fun b H3 =>
        if b = true then eAll X scope elt σ2 H3 fun y H4 => ∃ acc, H4 D = some (.lst acc) ∧ acc.length < sizeLine ∧ Nx (upd H4 D (.lst (acc ++ [y]))) else Nx H3) := by
  obtain ⟨Gd, Y, wk, hg, hy⟩ := hw
  refine lc_it wk (g := gAll X scope tg) (tt := tAll X scope ifs) (te := eAll X scope elt) (vs := tgSlots ctx.N tg) (σ := σ) (Qd := fun H => Q (.ref D) H)
    (fun i H1 => ∃ m1 G1 Hm S1 vs ys, H1 = upd Hm D (.lst vs) ∧ Hm D = none ∧ Rel (fx X) m1 G1 Hm S1 ∧ Stp m G H S m1 G1 Hm S1 ∧ IsWL (fx X) G1 m1 S1.length ys vs ∧ ys.length ≤ i ∧
      Post (fx X) Wx σ m1 G1 Hm S1 (compL (blkCtx ctx scope) src tg (testsT L (blkCtx ctx scope) ifs) (ee (blkCtx ctx scope) elt) (wipeE E (ownOf ctx.N tg)) (src.ws.drop i) S1) fun zs m' G' H' S' => ∀ D' vs', H' D' = none → IsWL (fx X) G' m' S'.length (ys ++ zs) vs' → Q (.ref D') (upd H' D' (.lst vs')))
    ?h0 ?hG ?hs ?hd
  case h0 => exact ⟨m, G, H, S, [], [], rfl, hD, R, .refl, by simp [IsWL], Nat.zero_le _, q⟩
  case hG =>
    rintro i H1 hi ⟨m1, G1, Hm, S1, vs, ys, rfl, hm, R1, st1, iw, hz, q1⟩
    obtain ⟨Rj, stj⟩ := R1.junk (o := .lst vs) hm
    refine hg m1 G1 _ S1 Rj (st1.trans stj) ?_
    -- the source stands, or the rest is bad
    unfold compL at q1
    split at q1
    · split at q1
      · assumption
      · exact q1.elim
    · split at q1
      · assumption
      · exact q1.elim
  case hd =>
    rintro H1 ⟨m1, G1, Hm, S1, vs, ys, rfl, hm, R1, st1, iw, hz, q1⟩
    rw [List.drop_length] at q1
    unfold compL at q1
    split at q1
    · exact post_ok R1 q1 D vs hm (by rw [List.append_nil]; exact iw)
    · exact q1.elim
  case hs =>
    rintro i x H1 H2 hi ⟨m1, G1, Hm, S1, vs, ys, rfl, hm, R1, st1, iw, hz, q1⟩ y
    obtain ⟨Rj, stj⟩ := R1.junk (o := .lst vs) hm
    rw [List.drop_eq_getElem_cons hi] at q1
    unfold compL at q1
    split at q1
    · rename_i sok
      obtain ⟨G2, w, k1, R2, st2, iw2⟩ := hy i _ x H2 hi y m1 G1 S1 Rj (st1.trans stj) sok
      have ew : src.ws[i] = w := by
        rw [List.getElem?_eq_getElem hi] at k1
        exact Option.some.inj k1
      rw [ew] at q1
      split at q1
      · rename_i E1 hb
        have gD1 : G1 D = none := by
          cases z : G1 D with
          | none => rfl
          | some u => rw [R1.ex D u z] at hm; cases hm
        have lD1 : ¬ Live m1 S1 D := by
          rintro ⟨id, c, e1, e2, e3⟩
          have kk := R1.cells id c e1
          rw [e3] at kk
          cases c with
          | lst ws => obtain ⟨_, h1, _⟩ := kk; rw [hm] at h1; cases h1
          | dic ks ws => rcases kk with ⟨_, h1, _⟩ | ⟨_, h1, _⟩ <;> (rw [hm] at h1; cases h1)
          | ins c fs => obtain ⟨_, _, _, h1, _⟩ := kk; rw [hm] at h1; cases h1
          | fz d => cases e2
          | dead => cases e2
        -- the state at the item, with the new list and without it
        have h2D : H2 D = some (.lst vs) := st2.keep D _ upd_same lD1
        have g2D : G2 D = none := by
          cases z : G2 D with
          | none => rfl
          | some u =>
            rcases st2.gnew D (by rw [z]; simp) with z | z | z
            · exact absurd gD1 z
            · exact absurd z lD1
            · rw [upd_same] at z; cases z
        have R2m := R2.msk g2D lD1
        have st2m := st2.msk (D := D) hm
        have iw2' : IsW (fx X) G2 m1 S1.length w x := iw2
        have en1 : EnvRel (fx X) G2 m1 S1.length (wipe σ (tgSlots ctx.N tg)) (wipeE E (ownOf ctx.N tg)) := env_wipe (en.mono (st1.trans st2m)) (ownOf ctx.N tg)
        -- what is promised from here, seen with the list
        have q2 := q1.later st2m
        have q3 := (Post.split q2).msk (o := .lst vs) msk_at g2D lD1
        rw [upd_msk h2D] at q3
        intro s0 H0 C cl fp
        obtain ⟨σ1, en2, si, pg⟩ := bindT_ok (sit_blk sit s0 H0 C cl fp fun _ _ _ _ => True) R2.ex en1 iw2' (bindG_T hb)
        refine pg _ ⟨wipe_setIn si, fun s1 H1' C1 cl1 fp1 => so_tests (X := X.blk s1 H1' scope (compEnvC scope cl1 C1 X.env) fp1) hT (sit_blk sit s1 H1' C1 cl1 fp1 fun _ _ _ _ => True) R2 en2 (q3.imp fun b m3 G3 H3 S3 R3 st3 z => ?_)⟩
        obtain ⟨hD3, gD3, lD3, R3m, st3m, q4⟩ := z
        have st13 := (st1.trans st2m).trans st3m
        cases b with
        | false =>
          refine ⟨m3, G3, Mp.msk H3 D, S3, vs, ys, (upd_msk hD3).symm, msk_at, R3m, st13, ((st2m.trans st3m).isWL iw), Nat.le_succ_of_le hz, q4⟩
        | true =>
          intro s2 H2' C2 cl2 fp2
          have q5 := (Post.split q4).msk (o := .lst vs) msk_at gD3 lD3
          rw [upd_msk hD3] at q5
          refine hee (X.blk s2 H2' scope (compEnvC scope cl2 C2 X.env) fp2) (fun _ _ _ _ => True) σ1 E1 m3 G3 H3 S3 rfl (sit_blk sit s2 H2' C2 cl2 fp2 _) R3 (en2.mono st3) _ (q5.imp fun y' m4 G4 H4 S4 R4 st4 z v hv => ?_)
          obtain ⟨hD4, gD4, lD4, R4m, st4m, q6⟩ := z
          have lv : vs.length = ys.length := iw.length
          refine ⟨vs, hD4, by omega, m4, G4, Mp.msk H4 D, S4, vs ++ [v], ys ++ [y'], upd_msk'.symm, msk_at, R4m, st13.trans st4m, ?_, by rw [List.length_append]; exact Nat.succ_le_succ hz, ?_⟩
          · exact (((st2m.trans st3m).trans st4m).isWL iw).append (by simp only [IsWL]; exact ⟨v, [], rfl, hv, rfl⟩)
          · refine (Post.split q6).imp fun zs m5 G5 H5 S5 R5 st5 h5 D' vs' e1 e2 => post_ok R5 h5 D' vs' e1 ?_
            rw [List.append_assoc] at e2
            exact e2
      · exact q1.elim
    · exact q1.elim
end
end Mp
end
section
set_option Elab.async false
set_option linter.all false
set_option maxRecDepth 100000
set_option autoImplicit false
set_option maxHeartbeats 1000000
/-! MpO: arguments, calls, methods; an expression's reading is sound. -/
namespace Mp
open PySem PySem.Spec PyProof.Rows L2

section
variable {cf : Cf} {k : Nat} {F : Fx} {L : Lv} {X : Cx} {Wx : WX} {ctx : Ctx} {σ : L2.St} {E : En} {m m' : Nat → Addr} {G G' H H' : Hp} {S S' : Store} {call : Str × Option Str → List W → Store → Res W}

theorem so_comp (hc : CfOk (fx X) cf) (hR : OkR cf k (fx X) L) (hT : OkT cf k (fx X) L) (sit : Sit k X ctx Wx) {elt tg it : Expr} {ifs : List Expr} {scope : Scope} {pos : Pos} {ee : Ctx → Expr → En → Store → Res W}
    (hee : ∀ (X' : Cx) (Wx' : WX) (σ' : L2.St) (E' : En) (m : Nat → Addr) (G H : Hp) (S : Store), fx X' = fx X → Sit k X' (blkCtx ctx scope) Wx' → Rel (fx X) m G H S → EnvRel (fx X) G m S.length σ' E' → SoE X' Wx' σ' m G H S elt (ee (blkCtx ctx scope) elt E' S))
    (R : Rel (fx X) m G H S) (en : EnvRel (fx X) G m S.length σ E) {Q : VK}
    (q : Post (fx X) Wx σ m G H S (compE L ctx elt tg it ifs scope ee E S) fun ys m' G' H' S' => ∀ D vs, H' D = none → IsWL (fx X) G' m' S'.length ys vs → Q (.ref D) (upd H' D (.lst vs))) : ER X (.ListComp elt [⟨tg, it, ifs, 0⟩] scope pos) σ H Q := by
  unfold compE at q
  split at q
  · rename_i hb
    obtain ⟨hb, hs⟩ := hb
    have ok : BlkOk X.N X.env.scope scope (ownOf ctx.N tg) := by
      rw [sit.N, sit.sc]
      exact blkOk_by hb
    refine er_of (pe_lc (g := gAll X scope tg) (tt := tAll X scope ifs) (te := eAll X scope elt) (wi := PIr X tg it) sit.calm sit.nd pi_er ok ?_ ?_ ?_ (folded_no hs)) ?_
    · exact fun s H0 C cl fp => ⟨fun pins s' σ' H' v u Q' I r h => h s H0 C cl fp pins s' u I r⟩
    · exact fun s H0 C cl fp => ⟨fun pins s' σ' H' Q' I h => by
        obtain ⟨t, ht, q⟩ := h s H0 C cl fp
        exact ht.run pins s' σ' H' Q' I q⟩
    · exact fun s H0 C cl fp => ⟨fun pins s' σ' H' Q' I h => h s H0 C cl fp pins s' I⟩
    · refine so_src hc hR sit R en ((Post.split q).imp fun src m1 G1 H1 S1 R1 st1 h1 J hw D hD => ?_)
      split at h1
      · rename_i hl
        rw [← compL_eq] at h1
        exact so_compL hT sit hee hw hl R1 (en.mono st1) h1 D hD
      · exact h1.elim
  · exact q.elim
theorem hee_k (hR : OkR cf k (fx X) L) {elt : Expr} {scope : Scope} : ∀ (X' : Cx) (Wx' : WX) (σ' : L2.St) (E' : En) (m : Nat → Addr) (G H : Hp) (S : Store), fx X' = fx X → Sit k X' (blkCtx ctx scope) Wx' → Rel (fx X) m G H S → EnvRel (fx X) G m S.length σ' E' → SoE X' Wx' σ' m G H S elt (L.k (blkCtx ctx scope) elt E' S) := by
  intro X' Wx' σ' E' m G H S e sit R en
  rw [← e] at hR R en
  exact so_k hR sit R en
/-- as data -/
theorem so_compP (hc : CfOk (fx X) cf) (hR : OkR cf k (fx X) L) (hT : OkT cf k (fx X) L) (sit : Sit k X ctx Wx) (R : Rel (fx X) m G H S) (en : EnvRel (fx X) G m S.length σ E) {elt tg it : Expr} {ifs : List Expr} {scope : Scope} {pos : Pos} :
    SoE X Wx σ m G H S (.ListComp elt [⟨tg, it, ifs, 0⟩] scope pos) ((compE L ctx elt tg it ifs scope L.k E S).andThen fun ys S1 => okO ((datsOf ys).map fun ds => .p (.lst ds)) S1) := fun Q q =>
  so_comp hc hR hT sit (hee_k hR) R en ((Post.split q).imp fun ys m1 G1 H1 S1 R1 st1 h1 D vs hD hvs => by
    obtain ⟨w, e, h2⟩ := post_o h1
    obtain ⟨ds, e1, rfl⟩ := optmap e
    obtain ⟨G', R', st', i'⟩ := new_lst R1 (dats_ok hvs e1) hD
    exact h2 m1 G' _ R' st' _ i')

/-! ### own lists made -/
theorem so_alloc (hc : CfOk (fx X) cf) (hR : OkR cf k (fx X) L) (hT : OkT cf k (fx X) L) (sit : Sit k X ctx Wx) (R : Rel (fx X) m G H S) (en : EnvRel (fx X) G m S.length σ E) {e : Expr} : SoE X Wx σ m G H S e (allocR L ctx e E S) := by
  intro Q q
  unfold allocR at q
  split at q
  · refine er_of (pe_lst pa_er) (so_vs hR sit _ R en _ ((Post.split q).imp fun ds m1 G1 H1 S1 R1 st1 h1 vs hvs => ?_))
    split at h1
    · rename_i hl
      refine ⟨by rw [hvs.length]; exact hl, fun p hp => ?_⟩
      obtain ⟨m', R', st', i'⟩ := new_cell R1 (hvs.toW (m := m1) (n := S1.length)) hp
      exact h1 m' G1 _ R' st' _ i'
    · exact h1.elim
  · refine so_comp hc hR hT sit (hee_k hR) R en ((Post.split q).imp fun ys m1 G1 H1 S1 R1 st1 h1 D vs hD hvs => ?_)
    obtain ⟨m', R', st', i'⟩ := new_cell R1 hvs hD
    exact h1 m' G1 _ R' st' _ i'
  · rename_i x p a pos
    split at q
    · rename_i hx
      obtain ⟨hg, rfl⟩ := hx
      rw [← sit.sc] at hg
      split at q
      · rename_i ha
        refine er_of (pe_callTy csem_op (glb_of hg) (hc.free _ (by decide +kernel)) boot_list (pa_cons pe_er pa_nil (starEach_cons ha)) (by decide +kernel) (by decide +kernel) (starEach_cons ha) (star_plain rfl)) (go_r hR rfl sit R en q fun w m1 G1 H1 S1 R1 en1 st1 h1 v hv => ?_)
        split at h1
        · rename_i ws hs
          split at h1
          · rename_i hl
            obtain ⟨a, vs, rfl, h5, h6⟩ := seq_any R1 hv hs
            refine csem_of call_list_of ⟨a, vs, rfl, h6, fun l hl' => ?_⟩
            obtain ⟨m', R', st', i'⟩ := new_cell R1 h5 hl'
            exact h1 m' G1 _ R' st' _ i'
          · exact h1.elim
        · exact h1.elim
      · exact q.elim
    · exact hR _ _ X Wx σ E m G H S rfl sit R en Q q
  · refine er_of (pe_op rsem_op pe_er pe_er) (go_v hR rfl sit R en q fun d m1 G1 H1 S1 R1 en1 st1 h1 v hv => go_v hR rfl sit R1 en1 h1 fun d2 m2 G2 H2 S2 R2 en2 st2 h2 v2 hv2 => ?_)
    split at h2
    · split at h2
      · rename_i xs ys hz
        have hv := st2.is hv
        obtain ⟨a, vs, rfl, k1, k2⟩ := is_lst rfl hv
        obtain ⟨b, us, rfl, j1, j2⟩ := is_lst rfl hv2
        refine rsem_of op_cat ⟨a, b, vs, us, rfl, rfl, R2.ex _ _ k1, R2.ex _ _ j1, by rw [k2.length, j2.length]; exact hz, fun p hp => ?_⟩
        obtain ⟨m', R', st', i'⟩ := new_cell R2 ((k2.append j2).toW (m := m2) (n := S2.length)) hp
        exact h2 m' G2 _ R' st' _ i'
      · exact h2.elim
    · exact h2.elim
  · refine er_of (pe_slice slsem_op pe_er po_er po_er) (go_r hR rfl sit R en q fun w m1 G1 H1 S1 R1 en1 st1 h1 v hv => go_part hR rfl sit R1 en1 h1 fun l m2 G2 H2 S2 R2 en2 st2 h2 => go_part hR rfl sit R2 en2 h2 fun h m3 G3 H3 S3 R3 en3 st3 h3 => ?_)
    split at h3
    · rename_i ws ht hs
      obtain ⟨a, vs, rfl, k2, k3⟩ := seq_ok R3 ((st2.trans st3).isW hv) hs
      rcases k3 with ⟨_, k3⟩ | ⟨⟨ds', rfl⟩, _⟩
      · refine slsem_of sl_list ⟨a, vs, rfl, k3, fun p hp => ?_⟩
        obtain ⟨m', R', st', i'⟩ := new_cell R3 (cut_ok k2) hp
        exact h3 m' G3 _ R' st' _ i'
      · cases ht
    · exact h3.elim
  · exact hR _ _ X Wx σ E m G H S rfl sit R en Q q

theorem so_args (hc : CfOk (fx X) cf) (hR : OkR cf k (fx X) L) (hT : OkT cf k (fx X) L) (sit : Sit k X ctx Wx) : ∀ (ms : List Bool) (es : List Expr) {m : Nat → Addr} {G H : Hp} {S : Store}, Rel (fx X) m G H S → EnvRel (fx X) G m S.length σ E → SoA X Wx σ m G H S es (argsR L ctx ms es E S)
  | ms, [], m, G, H, S, R, en => fun Q q => by
    rw [show argsR L ctx ms [] E S = .ok [] S by cases ms <;> rfl] at q
    exact ea_of pa_nil (post_ok R q [] (by simp [IsWL]))
  | [], e :: es, m, G, H, S, R, en => fun Q q => q.elim
  | b :: ms, e :: es, m, G, H, S, R, en => fun Q q => by
    unfold argsR at q
    split at q
    · rename_i hs
      have tail : ∀ {m1 : Nat → Addr} {G1 H1 : Hp} {S1 : Store} {w : W} {v : V}, Rel (fx X) m1 G1 H1 S1 → EnvRel (fx X) G1 m1 S1.length σ E → IsW (fx X) G1 m1 S1.length w v →
          Post (fx X) Wx σ m1 G1 H1 S1 ((argsR L ctx ms es E S1).andThen fun ws S2 => .ok (w :: ws) S2) (fun ws m' G' H' S' => ∀ vs, IsWL (fx X) G' m' S'.length ws vs → Q vs H') → EAr X es σ H1 fun vs H2 => Q (v :: vs) H2 := fun {m1 G1 H1 S1 w v} R1 en1 hv h1 =>
        so_args hc hR hT sit ms es R1 en1 _ ((Post.split h1).imp fun ws m2 G2 H2 S2 R2 st2 h2 vs hvs => post_ok R2 h2 _ (by simp only [IsWL]; exact ⟨v, vs, rfl, st2.isW hv, hvs⟩))
      refine ea_of (pa_cons pe_er pa_er (starEach_cons hs)) ?_
      cases b with
      | true =>
        exact so_alloc hc hR hT sit R en _ ((Post.split q).imp fun w m1 G1 H1 S1 R1 st1 h1 v hv => tail R1 (en.mono st1) hv h1)
      | false =>
        have q2 := Post.split q
        exact (ok_v hR rfl sit R en).p _ (q2.imp fun w m1 G1 H1 S1 R1 st1 h1 v hv => tail R1 (en.mono st1) hv h1)
    · exact q.elim

/-! ### the text's defs -/
/-- what is wished of an exception of a call -/
def exW (ctx : Ctx) (Wx : WX) : L2.St → XK := fun σ cls d H => ctx.exOk = true ∧ Wx cls d σ H
theorem passes_ex (sit : Sit k X ctx Wx) (σ : L2.St) : PassesAt (L2.CX X.prog X.w) X σ (exW ctx Wx σ) := by
  intro pins H s e s' I c
  by_cases h : ctx.exOk = true
  · exact passAt ((sit.tk h).imp fun c d σ H (w : ctx.exOk = true ∧ Wx c d σ H) => w.2) σ pins H s e s' I c
  · obtain ⟨_, _, _, _, _, _, _, _, _, _, _, _, z⟩ := c
    exact absurd z.1 h
theorem live_in {id : Nat} {c : Cell} (R : Rel F m G H S) (e : S[id]? = some c) (l : c.live = true) : H (m id) ≠ none := by
  have q := R.cells id c e
  cases c with
  | lst ws => obtain ⟨vs, h1, _⟩ := q; rw [h1]; simp
  | dic ks ws => rcases q with ⟨l, h1, _⟩ | ⟨l, h1, _⟩ <;> (rw [h1]; simp)
  | ins c fs => obtain ⟨C, dx, vs, h1, _⟩ := q; rw [h1]; simp
  | fz d => cases l
  | dead => cases l
/-- what ran without the store leaves it as it was -/
theorem Rel.frame {m1 : Nat → Addr} {G1 H1 : Hp} {S1 : Store} (R : Rel F m G H S) (R1 : Rel F m1 G1 H1 S1) (st : Stp m G H [] m1 G1 H1 S1) : Rel F m G1 H1 S ∧ Stp m G H S m G1 H1 S := by
  have nl : ∀ b, ¬ Live m [] b := fun b ⟨id, c, e, _⟩ => by simp at e
  have keep : ∀ b o, H b = some o → H1 b = some o := fun b o e => st.keep b o e (nl b)
  have gn : ∀ b, G1 b ≠ none → G b ≠ none ∨ H b = none := fun b h => (st.gnew b h).imp id fun z => z.resolve_left (nl b)
  refine ⟨⟨R1.ex, fun id c e => ?_, fun id c e l => ?_, R.inj⟩, ⟨Nat.le_refl _, fun _ _ => rfl, st.gg, fun b o e _ => keep b o e, fun b h => (gn b h).imp id .inr, fun b l => .inl l⟩⟩
  · exact (R.cells id c e).mono st.gg (Nat.le_refl _) (fun _ _ => rfl) rfl fun l => by
      cases z : H (m id) with
      | none => exact absurd z (live_in R e l)
      | some o => exact keep _ o z
  · cases z : G1 (m id) with
    | none => rfl
    | some o =>
      rcases gn (m id) (by rw [z]; simp) with h | h
      · exact absurd (R.out id c e l) h
      · exact absurd h (live_in R e l)
theorem isP_all : ∀ {ws : List W} {vs : List V} {n n' : Nat}, IsWL F G m n ws vs → ws.all isP = true → IsWL F G m n' ws vs
  | [], _, _, _, h, _ => h
  | w :: ws, vs, n, n', h, b => by
    rw [List.all_cons, Bool.and_eq_true] at b
    simp only [IsWL] at h ⊢
    obtain ⟨v, r, h1, h2, h3⟩ := h
    refine ⟨v, r, h1, ?_, isP_all h3 b.2⟩
    cases w with
    | p d => exact h2
    | o id => cases b.1
/-- the promise, from the reading -/
theorem sp_ok {n : Nat} {key : Str × Option Str} {pu : Bool} {ws : List W} {vs : List V} {Q : VK} (R : Rel F m G H S) (h : IsWL F G m S.length ws vs) (hn : ws.length = n)
    (q : Post F Wx σ m G H S (exGuard ctx (callW call pu key ws S)) fun w m' G' H' S' => ∀ v, IsW F G' m' S'.length w v → Q v H') : spRun F n (call key) vs H Q (exW ctx Wx σ) := by
  unfold callW at q
  split at q
  · rename_i hp
    rw [Bool.and_eq_true] at hp
    refine ⟨by rw [h.length]; exact hn, m, G, [], ws, ⟨R.ex, fun id c e => by simp at e, fun id c e => by simp at e, fun i j c c' e => by simp at e⟩, isP_all h hp.2, ?_⟩
    cases e : call key ws [] with
    | bad => rw [e] at q; exact q
    | ok w S1 =>
      rw [e] at q
      cases w with
      | o id => exact q.elim
      | p d =>
        intro m1 G1 H1 R1 st1 v hv
        obtain ⟨R2, st2⟩ := R.frame R1 st1
        exact q m G1 H1 R2 st2 v hv
    | exc x S1 =>
      rw [e] at q
      unfold exGuard at q
      dsimp only at q
      split at q
      · rename_i hx
        intro cls d m1 G1 H1 R1 st1 ex
        obtain ⟨R2, st2⟩ := R.frame R1 st1
        exact ⟨hx, q cls d m G1 H1 R2 st2 ex⟩
      · exact q.elim
  refine ⟨by rw [h.length]; exact hn, m, G, S, ws, R, h, ?_⟩
  cases e : call key ws S with
  | bad => rw [e] at q; exact q
  | ok w S1 => rw [e] at q; exact q
  | exc x S1 =>
    rw [e] at q
    unfold exGuard at q
    dsimp only at q
    split at q
    · rename_i hx
      exact fun cls d m' G' H' R' st' ex => ⟨hx, q cls d m' G' H' R' st' ex⟩
    · exact q.elim
theorem call0_ok {CX : CXT} {kk : Nat} {f : Addr} {fd : FuncData} {ps : List Str} {sp : Sp} {dvs : List V} {ds : List Value} {Ex : XK} {x : Str} {p pos : Pos} (F : FnOk X.prog X.w X.K X.mg X.base CX kk f fd ps sp) (hr : Room kk X.A) (hg : Gl X x) (hm : X.mg x = some (.ref f)) (hk : PySem.W.keepIn X.K (.ref f) = true)
    (hb : Binds X.K fd ps ds) (hd : Vals dvs ds) (hx : PassesAt CX X σ Ex) (hdb : (x == ("__debug__" : Str)) = false) {Q : VK} (h : sp ([] ++ dvs) H Q Ex) : ER X (.Call (.Name x p) [] [] pos) σ H Q := fun pins s I => by
  refine wpAny_Call_Name_kw (ld_glob I hg hm ?_ hdb)
  exact PySem.W.callWith_K0 I.kIn hk (run_fnSD (E := fun _ => Ex) (us := []) F hr hb hd hx I .nil h)
theorem so_call (hc : CfOk (fx X) cf) (hR : OkR cf k (fx X) L) (hT : OkT cf k (fx X) L) (hC : CallsOk (fx X) cf k call) (sit : Sit k X ctx Wx) (R : Rel (fx X) m G H S) (en : EnvRel (fx X) G m S.length σ E) {x : Str} {args : List Expr} {p pos : Pos} :
    SoE X Wx σ m G H S (.Call (.Name x p) args [] pos) (callN cf call L ctx x args E S) := by
  intro Q q
  unfold callN at q
  split at q
  · rename_i hx
    obtain ⟨hg, hd⟩ := hx
    have hg' := hg
    rw [← sit.sc] at hg'
    obtain ⟨d1, d2, d3⟩ := dunder_of hd
    split at q
    · rename_i f hf
      split at q
      · rename_i hs
        obtain ⟨a, fd, h1, h2, h3, h4⟩ := hC.fn x f hf
        cases args with
        | nil =>
          rw [show argsR L ctx f.asis [] E S = .ok [] S by cases f.asis <;> rfl] at q
          have q1 := (Post.split q) m G H R .refl
          dsimp only at q1
          split at q1
          · rename_i hl
            exact call0_ok (dvs := []) h4 sit.room (glb_of hg') h1 h2 h3 .nil (passes_ex sit σ) d1 (sp_ok (ws := []) R (by simp [IsWL]) hl q1)
          · exact q1.elim
        | cons a0 es =>
          rw [List.all_cons, Bool.and_eq_true] at hs
          refine er_of (pe_callSD (dvs := []) (E := exW ctx Wx) h4 sit.room (glb_of hg') h1 h2 h3 .nil (fun σ => passes_ex sit σ) pa_er d1 (starEach_cons hs.1) (star_plain hs.2)) ?_
          refine so_args hc hR hT sit f.asis (a0 :: es) R en _ ((Post.split q).imp fun ws m1 G1 H1 S1 R1 st1 h1 vs hvs => ?_)
          split at h1
          · rename_i hl
            rw [List.append_nil]
            exact sp_ok R1 hvs hl h1
          · exact h1.elim
      · exact q.elim
    · split at q
      · split at q
        · exact so_b1 hc hR sit R en hg hd (by assumption) Q q
        · exact q.elim
      · split at q
        · rename_i h
          exact so_b2 hc hR sit R en hg hd h.1 h.2 Q q
        · exact q.elim
      · exact q.elim
  · exact q.elim
end
end Mp
end
section
set_option Elab.async false
set_option linter.all false
set_option maxRecDepth 100000
set_option autoImplicit false
set_option maxHeartbeats 1000000
/-! MpP: methods; one level of expressions. -/
namespace Mp
open PySem PySem.Spec PyProof.Rows L2

section
variable {cf : Cf} {k : Nat} {F : Fx} {L : Lv} {X : Cx} {Wx : WX} {ctx : Ctx} {σ : L2.St} {E : En} {m m' : Nat → Addr} {G G' H H' : Hp} {S S' : Store} {call : Str × Option Str → List W → Store → Res W}

theorem few1 {a : Expr} {pos : Pos} {env : Env} (h : noStar a = true) : ((backTo pos (starEach [a] env)).all (fun x => !x.1) && (backToKw pos (keywordEach [] env)).all (fun x => x.1.isSome)
      && decide ([a].length + ([] : List Keyword).length + (if ([] : List Keyword).isEmpty then 0 else 1) < 30)) = true := by
  rw [starEach_cons h]
  rfl
theorem lstAt_ty {id : Nat} (R : Rel F m G H S) (h : lstAt S id = true) : tyV F.K "list" (.ref (m id)) H := by
  unfold lstAt at h
  split at h
  · rename_i ws hc
    obtain ⟨vs, h1, _⟩ := R.cells id _ hc
    exact .inl ⟨rfl, vs, SqL.of h1⟩
  · cases h
/-- an own list written -/
theorem write_lst {id : Nat} {ws ws' : List W} {vs' : List V} (R : Rel F m G H S) (hc : S[id]? = some (.lst ws)) (h : IsWL F G m S.length ws' vs') :
    Rel F m G (upd H (m id) (.lst vs')) (S.set id (.lst ws')) ∧ Stp m G H S m G (upd H (m id) (.lst vs')) (S.set id (.lst ws')) :=
  R.write hc rfl rfl ⟨vs', upd_same, h⟩
theorem strs_ok : ∀ {ds : List P} {ys : List Str} {vs : List V}, strsOf ds = some ys → IsL F G ds vs → vs = ys.map V.str
  | [], ys, vs, e, h => by cases e; simp only [IsL] at h; rw [h]; rfl
  | .str s :: r, ys, vs, e, h => by
    unfold strsOf at e
    obtain ⟨zs, e1, rfl⟩ := optmap e
    simp only [IsL] at h
    obtain ⟨v, r', rfl, h1, h2⟩ := h
    simp only [Is] at h1
    subst h1
    rw [strs_ok e1 h2]; rfl
  | .non :: _, _, _, e, _ => by simp [strsOf] at e
  | .bl _ :: _, _, _, e, _ => by simp [strsOf] at e
  | .int _ :: _, _, _, e, _ => by simp [strsOf] at e
  | .tup _ :: _, _, _, e, _ => by simp [strsOf] at e
  | .lst _ :: _, _, _, e, _ => by simp [strsOf] at e
  | .fro _ :: _, _, _, e, _ => by simp [strsOf] at e
  | .dic _ _ :: _, _, _, e, _ => by simp [strsOf] at e
theorem is_strs : ∀ ys : List Str, IsL F G (ys.map P.str) (ys.map V.str)
  | [] => by simp [IsL]
  | y :: ys => by
    simp only [List.map_cons, IsL]
    exact ⟨_, _, rfl, by simp [Is], is_strs ys⟩
theorem so_meth (hR : OkR cf k (fx X) L) (sit : Sit k X ctx Wx) (R : Rel (fx X) m G H S) (en : EnvRel (fx X) G m S.length σ E) {o : Expr} {mn : Str} {args : List Expr} {apos pos : Pos} (hline : (apos.endLine == pos.line) = true) :
    SoE X Wx σ m G H S (.Call (.Attribute o mn apos) args [] pos) (methB L ctx o mn args E S) := by
  intro Q q
  unfold methB at q
  split at q
  · rename_i a
    split at q
    · rename_i hs
      obtain ⟨ha, ho⟩ := hs
      split at q
      · rename_i hm
        subst hm
        refine er_of (pe_bm PySem.F.plainAttrs_list PySem.F.slot_list_append PySem.F.type_list_append msem_op pe_er (pa_cons pe_er pa_nil (starEach_cons ha)) (base_of ho) (few1 ha) hline (starEach_cons ha) (star_plain rfl)) (go_r hR rfl sit R en q fun w m1 G1 H1 S1 R1 en1 st1 h1 v hv => ?_)
        split at h1
        · rename_i id
          split at h1
          · rename_i hl
            obtain ⟨hi, rfl⟩ := (show id < S1.length ∧ v = .ref (m1 id) from hv)
            refine ⟨lstAt_ty R1 hl, so_k hR sit R1 en1 _ ((Post.split h1).imp fun y m2 G2 H2 S2 R2 st2 h2 u hu => ?_)⟩
            split at h2
            · rename_i ws hc
              split at h2
              · rename_i hz
                obtain ⟨vs, k1, k2⟩ := R2.cells id _ hc
                obtain ⟨R3, st3⟩ := write_lst R2 hc (k2.append (show IsWL (fx X) G2 m2 S2.length [y] [u] by simp only [IsWL]; exact ⟨u, [], rfl, hu, rfl⟩))
                rw [← st2.mm id hi]
                exact msem_of mt_append ⟨m2 id, vs, u, rfl, rfl, k1, by rw [k2.length]; exact hz, h2 m2 G2 _ R3 st3 _ (by simp [IsW, Is])⟩
              · exact h2.elim
            · exact h2.elim
          · exact h1.elim
        · exact h1.elim
      split at q
      · rename_i hm
        subst hm
        refine er_of (pe_bm PySem.F.plainAttrs_list PySem.F.slot_list_extend PySem.F.type_list_extend msem_op pe_er (pa_cons pe_er pa_nil (starEach_cons ha)) (base_of ho) (few1 ha) hline (starEach_cons ha) (star_plain rfl)) (go_r hR rfl sit R en q fun w m1 G1 H1 S1 R1 en1 st1 h1 v hv => ?_)
        split at h1
        · rename_i id
          split at h1
          · rename_i hl
            obtain ⟨hi, rfl⟩ := (show id < S1.length ∧ v = .ref (m1 id) from hv)
            refine ⟨lstAt_ty R1 hl, go_v hR rfl sit R1 en1 h1 fun y m2 G2 H2 S2 R2 en2 st2 h2 u hu => ?_⟩
            split at h2
            · rename_i ws ds hc
              split at h2
              · rename_i hz
                obtain ⟨vs, k1, k2⟩ := R2.cells id _ hc
                obtain ⟨b, us, rfl, j1, j2⟩ := is_lst rfl hu
                obtain ⟨R3, st3⟩ := write_lst R2 hc (k2.append (j2.toW (m := m2) (n := S2.length)))
                rw [← st2.mm id hi]
                exact msem_of mt_extend ⟨m2 id, b, vs, us, rfl, rfl, k1, R2.ex _ _ j1, by rw [k2.length, j2.length]; exact hz, h2 m2 G2 _ R3 st3 _ (by simp [IsW, Is])⟩
              · exact h2.elim
            · exact h2.elim
          · exact h1.elim
        · exact h1.elim
      split at q
      · rename_i hm
        subst hm
        refine er_of (pe_bm PySem.F.plainAttrs_str PySem.F.slot_str_join PySem.F.type_str_join msem_op pe_er (pa_cons pe_er pa_nil (starEach_cons ha)) (base_of ho) (few1 ha) hline (starEach_cons ha) (star_plain rfl)) (go_v hR rfl sit R en q fun d m1 G1 H1 S1 R1 en1 st1 h1 v hv => ?_)
        cases d with
        | str z =>
          simp only [Is] at hv
          subst hv
          refine ⟨rfl, go_v hR rfl sit R1 en1 h1 fun y m2 G2 H2 S2 R2 en2 st2 h2 u hu => ?_⟩
          split at h2
          · rename_i ds
            split at h2
            · rename_i ys hy
              split at h2
              · rename_i hz
                obtain ⟨b, us, rfl, j1, j2⟩ := is_lst rfl hu
                have e := strs_ok hy j2
                subst e
                exact msem_of mt_join ⟨z, b, ys, rfl, rfl, .inl (SqL.of (R2.ex _ _ j1)), hz, h2 m2 G2 H2 R2 .refl _ (by simp [IsW, Is])⟩
              · exact h2.elim
            · exact h2.elim
          · exact h2.elim
        | _ => exact h1.elim
      split at q
      · rename_i hm
        subst hm
        refine er_of (pe_bm PySem.F.plainAttrs_str PySem.F.slot_str_split PySem.F.type_str_split msem_op pe_er (pa_cons pe_er pa_nil (starEach_cons ha)) (base_of ho) (few1 ha) hline (starEach_cons ha) (star_plain rfl)) (go_v hR rfl sit R en q fun d m1 G1 H1 S1 R1 en1 st1 h1 v hv => ?_)
        cases d with
        | str z =>
          simp only [Is] at hv
          subst hv
          refine ⟨rfl, go_v hR rfl sit R1 en1 h1 fun y m2 G2 H2 S2 R2 en2 st2 h2 u hu => ?_⟩
          split at h2
          · rename_i b
            split at h2
            · rename_i hz
              simp only [Is] at hu
              subst hu
              refine msem_of mt_split ⟨z, b, rfl, rfl, hz.1, hz.2, fun p hp => ?_⟩
              obtain ⟨G', R', st', i'⟩ := new_lst R2 (is_strs (Txt.split z b)) hp
              exact h2 m2 G' _ R' st' _ i'
            · exact h2.elim
          · exact h2.elim
        | _ => exact h1.elim
      · exact q.elim
    · exact q.elim
  · exact q.elim
/-! ### one level -/
theorem so_chain (hR : OkR cf k (fx X) L) (sit : Sit k X ctx Wx) (R : Rel (fx X) m G H S) (en : EnvRel (fx X) G m S.length σ E) {a b c : Expr} {op op' : CmpOp} {Q : VK} (hb : noSet b = true) (hcs : noSet c = true)
    (q : Post (fx X) Wx σ m G H S ((L.v ctx a E S).andThen fun d S1 => (L.v ctx b E S1).andThen fun d2 S2 => (match cmpop op d d2 with
      | some true => (L.v ctx c E S2).andThen fun d3 S3 => okO (cmpop op' d2 d3) S3
      | some false => .ok false S2
      | none => .bad)) fun z m' G' H' S' => Q (.bl z) H') :
    ER X a σ H fun x H1 => ER X b σ H1 fun y H2 => rSem X (compareOp op) x y H2 fun z H3 => ∃ kk, z = .bl kk ∧ if kk = true then ER X c σ H3 fun w H4 => rSem X (compareOp op') y w H4 Q else Q (.bl false) H3 := by
  have hu := room65 sit.room
  refine go_v hR rfl sit R en q fun d m1 G1 H1 S1 R1 en1 st1 h1 v hv => go_v hR rfl sit R1 en1 h1 fun d2 m2 G2 H2 S2 R2 en2 st2 h2 v2 hv2 => ?_
  split at h2
  · rename_i e
    refine cmp_ok hu R2 (st2.is hv) hv2 e ⟨true, rfl, ?_⟩
    rw [if_pos rfl]
    refine go_v hR rfl sit R2 en2 h2 fun d3 m3 G3 H3 S3 R3 en3 st3 h3 v3 hv3 => ?_
    obtain ⟨z, e2, h4⟩ := post_o h3
    exact cmp_ok hu R3 (st3.is hv2) hv3 e2 (h4 m3 G3 H3 R3 .refl)
  · rename_i e
    refine cmp_ok hu R2 (st2.is hv) hv2 e ⟨false, rfl, ?_⟩
    rw [if_neg Bool.false_ne_true]
    exact post_ok R2 h2
  · exact h2.elim
theorem last_no {op op' : CmpOp} {b c : Expr} (h : noSet c = true) : lastMarks [op, op'] [b, c] = false := marks_no (op := op') h
theorem so_chainE (hR : OkR cf k (fx X) L) (sit : Sit k X ctx Wx) (R : Rel (fx X) m G H S) (en : EnvRel (fx X) G m S.length σ E) {a b c : Expr} {op op' : CmpOp} {pos : Pos} :
    SoE X Wx σ m G H S (.Compare a [op, op'] [b, c] pos) ((chainE L ctx a op b op' c E S).andThen fun kk S1 => .ok (.p (.bl kk)) S1) := by
  intro Q q
  have q := (Post.split q).imp fun z m1 G1 H1 S1 R1 st1 h1 => post_ok R1 h1 (.bl z) (by simp [IsW, Is])
  unfold chainE at q
  split at q
  · rename_i hs
    exact er_of (pe_chain rsem_op rsem_op pe_er pe_er pe_er (last_no hs.2)) (so_chain hR sit R en hs.1 hs.2 q)
  · exact q.elim
theorem so_chainT (hR : OkR cf k (fx X) L) (sit : Sit k X ctx Wx) (R : Rel (fx X) m G H S) (en : EnvRel (fx X) G m S.length σ E) {a b c : Expr} {op op' : CmpOp} {pos : Pos} :
    SoT X Wx σ m G H S (.Compare a [op, op'] [b, c] pos) (chainE L ctx a op b op' c E S) := by
  intro Q q
  unfold chainE at q
  split at q
  · rename_i hs
    exact et_of (pt_chain rsem_op rsem_op pe_er pe_er pe_er (last_no hs.2)) (so_chain (Q := fun v H' => ∃ z, v = .bl z ∧ Q z H') hR sit R en hs.1 hs.2 (q.imp fun z m1 G1 H1 S1 R1 st1 h1 => ⟨z, rfl, h1⟩))
  · exact q.elim
theorem stepR_ok (hc : CfOk F cf) (hC : CallsOk F cf k call) (hR : OkR cf k F L) (hT : OkT cf k F L) : OkR cf k F { L with r := stepR cf call L } := by
  intro ctx e X Wx σ E m G H S hF sit R en
  subst hF
  show SoE X Wx σ m G H S e (stepR cf call L ctx e E S)
  unfold stepR
  split
  · exact so_name hc rfl sit R en
  · exact so_const rfl R
  · exact so_bin hR rfl sit R en
  · exact so_not hR rfl sit R en
  · exact so_neg hR rfl sit R en
  · exact (so_boolV hR sit _ R en).p
  · exact so_ifx hR hT rfl sit R en
  · exact so_cmpE hR rfl sit R en
  · exact so_chainE hR sit R en
  · exact so_slice hR rfl sit R en
  · exact so_tab hc hR sit R en
  · exact so_ix hR rfl sit R en
  · exact so_call hc hR hT hC sit R en
  · split
    · exact so_meth hR sit R en (by assumption)
    · exact fun Q q => q.elim
  · exact so_compP hc hR hT sit R en
  · exact so_joined1 hR rfl sit R en
  · exact so_joined hR rfl sit R en
  · exact so_tup hR rfl sit R en
  · exact so_lst hR rfl sit R en
  · exact fun Q q => q.elim
theorem stepT_ok (hc : CfOk F cf) (hR : OkR cf k F L) (hT : OkT cf k F L) : OkT cf k F { L with t := stepT L } := by
  intro ctx e X Wx σ E m G H S hF sit R en
  subst hF
  show SoT X Wx σ m G H S e (stepT L ctx e E S)
  unfold stepT
  split
  · intro Q q
    exact et_of (pt_not pt_er) (hT ctx _ X Wx σ E m G H S rfl sit R en _ ((Post.split q).imp fun c m1 G1 H1 S1 R1 st1 h1 => post_ok R1 h1))
  · exact fun Q q => (so_boolW hT sit _ R en Q q).t
  · exact so_cmpT hR rfl sit R en
  · exact so_chainT hR sit R en
  · split
    · exact so_tru hR rfl sit R en (by assumption)
    · exact fun Q q => q.elim
end
end Mp
end
section
set_option Elab.async false
set_option linter.all false
set_option maxRecDepth 100000
set_option autoImplicit false
set_option maxHeartbeats 1000000
/-! MpQ: the reading of statements; what it promises. -/
namespace Mp
open PySem PySem.Spec PyProof.Rows L2

def noTup : Expr → Bool
  | .Tuple _ _ _ => false
  | _ => true
def isDoc : Expr → Bool
  | .Constant (.str _) _ _ => true
  | _ => false
/-- one statement, then the rest -/
def SR.seq (r : SR) (k : En → Store → SR) : RetS k := match r with
  | .nx E1 S1 => k E1 S1
  | o => o
/-- after a turn of a loop -/
def SR.turn (r : SR) (k : En → Store → SR) : RetS k := match r with
  | .nx E1 S1 => k E1 S1
  | .ct E1 S1 => k E1 S1
  | .bk E1 S1 => .nx E1 S1
  | o => o
def forS (src : Src) (tg : Tg) (body : En → Store → SR) : List W → En → Store → SR
  | [], E, S => if src.ok S then .nx E S else .bad
  | w :: ws, E, S => if src.ok S then (match bindG tg w E with
    | some E1 => (body E1 S).turn fun E2 S2 => forS src tg body ws E2 S2
    | none => .bad) else .bad
def whileS (t : En → Store → Res Bool) (body : En → Store → SR) : Nat → En → Store → SR
  | 0, _, _ => .bad
  | n + 1, E, S => (t E S).thenS E fun b S1 => if b = true then (body E S1).turn fun E2 S2 => whileS t body n E2 S2 else .nx E S1
section
variable (L : Lv)
def execL (ctx : Ctx) : List Stmt → En → Store → SR
  | [], E, S => .nx E S
  | st :: r, E, S => (L.x ctx st E S).seq fun E1 S1 => execL ctx r E1 S1
def whileMost : Nat := 1000000
/-- the value of name = .. -/
def asgV (ctx : Ctx) (x : Str) (e : Expr) (E : En) (S : Store) : Res W := match e with
  | .ListComp elt [⟨tg, it, ifs, 0⟩] scope _ => (compE L ctx elt tg it ifs scope L.k E S).andThen fun ys S1 => if ctx.box.contains x = true then alloc (.lst ys) S1 else okO ((datsOf ys).map fun ds => .p (.lst ds)) S1
  | e => if noComp e = true then (if ctx.box.contains x = true then allocR L ctx e E S else L.r ctx e E S) else .bad
def setAt (S : Store) (o : W) (i : P) (w : W) : Option Store := match o, i with
  | .o id, .int k => (match S[id]? with
    | some (.lst ws) => (ixN ws.length k).map fun j => S.set id (.lst (ws.set j w))
    | _ => none)
  | _, _ => none
def augI : Operator → P → P → Option P
  | .Add, .int i, .int j => some (.int (i + j))
  | .Sub, .int i, .int j => some (.int (i - j))
  | _, _, _ => none
def stepX (ctx : Ctx) (st : Stmt) (E : En) (S : Store) : SR := match st with
  | .Expr e _ => if isDoc e = true then .nx E S else if noComp e = true then (L.r ctx e E S).thenS E fun _ S1 => .nx E S1 else .bad
  | .Assign [.Name x _] e _ => if storable ctx x = true ∧ (slot ctx.N x).isSome = true then (asgV L ctx x e E S).thenS E fun w S1 => (match bind1 ctx x w E with
    | some E1 => .nx E1 S1
    | none => .bad) else .bad
  | .Assign [.Tuple es j p] e _ => if noTup e = true ∧ noComp e = true then (L.v ctx e E S).thenS E fun d S1 => (match bindG (tgR ctx (.Tuple es j p)) (.p d) E with
    | some E1 => .nx E1 S1
    | none => .bad) else .bad
  | .Assign [.Subscript o i _] e _ => if noSlice i = true ∧ noComp e = true ∧ noTup e = true then (L.k ctx e E S).thenS E fun w S1 => (L.r ctx o E S1).thenS E fun ow S2 => (L.v ctx i E S2).thenS E fun d S3 => (match setAt S3 ow d w with
    | some S4 => .nx E S4
    | none => .bad) else .bad
  | .AugAssign (.Name x _) op e _ => if (op = .Add ∨ op = .Sub) ∧ storable ctx x = true then (match slot ctx.N x with
    | some i => (match E[i]? with
      | some (some (.p d)) => (L.v ctx e E S).thenS E fun d2 S1 => (match augI op d d2 with
        | some z => (match bind1 ctx x (.p z) E with
          | some E1 => .nx E1 S1
          | none => .bad)
        | none => .bad)
      | _ => .bad)
    | none => .bad) else .bad
  | .If c a b _ => (L.t ctx c E S).thenS E fun k S1 => if k = true then execL L ctx a E S1 else execL L ctx b E S1
  | .For tg it body [] _ => if noSet it = true then (srcE L ctx tg it E S).thenS E fun src S1 => forS src (tgR ctx tg) (execL L ctx body) src.ws E S1 else .bad
  | .While c body [] _ => whileS (L.t ctx c) (execL L ctx body) whileMost E S
  | .Return none _ => .rt (.p .non) S
  | .Return (some e) _ => (if ctx.retAs = true then allocR L ctx e E S else (L.v ctx e E S).andThen fun d S1 => .ok (.p d) S1).thenS E fun w S1 => .rt w S1
  | .Try body (_ :: _) orelse [] _ => (match execL L { ctx with exOk := false } body E S with
    | .nx E1 S1 => execL L ctx orelse E1 S1
    | .exc _ _ _ => .bad
    | o => o)
  | .Pass _ => .nx E S
  | .Break _ => .bk E S
  | .Continue _ => .ct E S
  | _ => .bad
end

section
variable (F : Fx) (Wx : WX) (D : Ends)
def PostS (m : Nat → Addr) (G H : Hp) (S : Store) (r : SR) : Prop := match r with
  | .bad => False
  | .nx E S' => ∀ m' G' H' σ', Rel F m' G' H' S' → Stp m G H S m' G' H' S' → EnvRel F G' m' S'.length σ' E → D.nx σ' H'
  | .bk E S' => ∀ m' G' H' σ', Rel F m' G' H' S' → Stp m G H S m' G' H' S' → EnvRel F G' m' S'.length σ' E → D.bk σ' H'
  | .ct E S' => ∀ m' G' H' σ', Rel F m' G' H' S' → Stp m G H S m' G' H' S' → EnvRel F G' m' S'.length σ' E → D.ct σ' H'
  | .rt w S' => ∀ m' G' H', Rel F m' G' H' S' → Stp m G H S m' G' H' S' → ∀ v, IsW F G' m' S'.length w v → D.rt v H'
  | .exc x E S' => ∀ cls d m' G' H' σ', Rel F m' G' H' S' → Stp m G H S m' G' H' S' → ExcAt F H' cls d x → EnvRel F G' m' S'.length σ' E → Wx cls d σ' H'
end
section
variable {F : Fx} {Wx : WX} {D : Ends} {σ : L2.St} {E : En} {m : Nat → Addr} {G H : Hp} {S : Store} {α : Type}
theorem PostS.later {r : SR} {m1 : Nat → Addr} {G1 H1 : Hp} {S1 : Store} (h : PostS F Wx D m G H S r) (st : Stp m G H S m1 G1 H1 S1) : PostS F Wx D m1 G1 H1 S1 r := by
  cases r with
  | bad => exact h
  | nx E S' => exact fun m2 G2 H2 σ2 R2 st2 => h m2 G2 H2 σ2 R2 (st.trans st2)
  | bk E S' => exact fun m2 G2 H2 σ2 R2 st2 => h m2 G2 H2 σ2 R2 (st.trans st2)
  | ct E S' => exact fun m2 G2 H2 σ2 R2 st2 => h m2 G2 H2 σ2 R2 (st.trans st2)
  | rt w S' => exact fun m2 G2 H2 R2 st2 => h m2 G2 H2 R2 (st.trans st2)
  | exc x E S' => exact fun cls d m2 G2 H2 σ2 R2 st2 => h cls d m2 G2 H2 σ2 R2 (st.trans st2)
theorem PostS.split {r : Res α} {f : α → Store → SR} (h : PostS F Wx D m G H S (r.thenS E f)) (en : EnvRel F G m S.length σ E) :
    Post F Wx σ m G H S r fun a m' G' H' S' => EnvRel F G' m' S'.length σ E → PostS F Wx D m' G' H' S' (f a S') := by
  cases r with
  | bad => exact h
  | ok a S1 => exact fun m1 G1 H1 R1 st1 _ => PostS.later (r := f a S1) h st1
  | exc x S1 => exact fun cls d m1 G1 H1 R1 st1 ex => h cls d m1 G1 H1 σ R1 st1 ex (en.mono st1)
/-- a state from which a reading's promise is at hand -/
def Goes (F : Fx) (Wx : WX) (D : Ends) (m0 : Nat → Addr) (G0 H0 : Hp) (S0 : Store) (k : En → Store → SR) : L2.St → Hp → Prop := fun σ' H' =>
  ∃ m' G' S' E', Rel F m' G' H' S' ∧ Stp m0 G0 H0 S0 m' G' H' S' ∧ EnvRel F G' m' S'.length σ' E' ∧ PostS F Wx D m' G' H' S' (k E' S')
theorem PostS.turn {r : SR} {k : En → Store → SR} {m0 : Nat → Addr} {G0 H0 : Hp} {S0 : Store} (h : PostS F Wx D m G H S (r.turn k)) (st : Stp m0 G0 H0 S0 m G H S) :
    PostS F Wx { D with nx := Goes F Wx D m0 G0 H0 S0 k, ct := Goes F Wx D m0 G0 H0 S0 k, bk := D.nx } m G H S r := by
  cases r with
  | bad => exact h
  | nx E S' => exact fun m2 G2 H2 σ2 R2 st2 en => ⟨m2, G2, S', E, R2, st.trans st2, en, PostS.later (r := k E S') h st2⟩
  | ct E S' => exact fun m2 G2 H2 σ2 R2 st2 en => ⟨m2, G2, S', E, R2, st.trans st2, en, PostS.later (r := k E S') h st2⟩
  | bk E S' => exact h
  | rt w S' => exact h
  | exc x E S' => exact h
/-- one statement, then the rest -/
theorem PostS.seq {r : SR} {k : En → Store → SR} {m0 : Nat → Addr} {G0 H0 : Hp} {S0 : Store} (h : PostS F Wx D m G H S (match r with | .nx E1 S1 => k E1 S1 | o => o)) (st : Stp m0 G0 H0 S0 m G H S) :
    PostS F Wx { D with nx := Goes F Wx D m0 G0 H0 S0 k } m G H S r := by
  cases r with
  | bad => exact h
  | nx E S' => exact fun m2 G2 H2 σ2 R2 st2 en => ⟨m2, G2, S', E, R2, st.trans st2, en, PostS.later (r := k E S') h st2⟩
  | ct E S' => exact h
  | bk E S' => exact h
  | rt w S' => exact h
  | exc x E S' => exact h
end
structure SitS (k : Nat) (X : Cx) (ctx : Ctx) (Wx : WX) : Prop extends Sit k X ctx Wx where
  own : PassesOwn (model X.prog X.w) X.A X.env X.xe
def SoS (X : Cx) (Wx : WX) (σ : L2.St) (m : Nat → Addr) (G H : Hp) (S : Store) (st : Stmt) (r : SR) : Prop := ∀ D : Ends, PostS (fx X) Wx D m G H S r → EXr X st D σ H
def SoSs (X : Cx) (Wx : WX) (σ : L2.St) (m : Nat → Addr) (G H : Hp) (S : Store) (st : List Stmt) (r : SR) : Prop := ∀ D : Ends, PostS (fx X) Wx D m G H S r → EXs X st D σ H
def OkX (cf : Cf) (k : Nat) (F : Fx) (L : Lv) : Prop := ∀ ctx st X Wx σ E m G H S, fx X = F → SitS k X ctx Wx → Rel F m G H S → EnvRel F G m S.length σ E → SoS X Wx σ m G H S st (L.x ctx st E S)

section
variable {cf : Cf} {k : Nat} {F : Fx} {L : Lv} {X : Cx} {Wx : WX} {ctx : Ctx} {σ : L2.St} {E : En} {m : Nat → Addr} {G H : Hp} {S : Store}
theorem ok_execL (hX : OkX cf k (fx X) L) (sit : SitS k X ctx Wx) : ∀ (sts : List Stmt) {σ : L2.St} {E : En} {m : Nat → Addr} {G H : Hp} {S : Store}, Rel (fx X) m G H S → EnvRel (fx X) G m S.length σ E → SoSs X Wx σ m G H S sts (execL L ctx sts E S)
  | [], σ, E, m, G, H, S, R, en => fun D q => exs_of pss_nil (show D.nx σ H from q m G H σ R .refl en)
  | st :: r, σ, E, m, G, H, S, R, en => fun D q => by
    unfold execL at q
    refine EXs.cons (hX ctx st X Wx σ E m G H S rfl sit R en _ ?_)
    have q2 := PostS.seq (m0 := m) (G0 := G) (H0 := H) (S0 := S) q .refl
    cases z : L.x ctx st E S with
    | bad => rw [z] at q2; exact q2
    | nx E1 S1 =>
      rw [z] at q2
      intro m2 G2 H2 σ2 R2 st2 en2
      obtain ⟨m3, G3, S3, E3, R3, st3, en3, p3⟩ := q2 m2 G2 H2 σ2 R2 st2 en2
      exact ok_execL hX sit r R3 en3 D p3
    | bk E1 S1 => rw [z] at q2; exact q2
    | ct E1 S1 => rw [z] at q2; exact q2
    | rt w S1 => rw [z] at q2; exact q2
    | exc x E1 S1 => rw [z] at q2; exact q2

theorem pg_er {tg : Expr} : PG X tg (PGr X tg) := ⟨fun pins s σ H v u Q I r h => h pins s u I r⟩
/-- a for -/
theorem so_for (hc : CfOk (fx X) cf) (hR : OkR cf k (fx X) L) (hX : OkX cf k (fx X) L) (sit : SitS k X ctx Wx) (R : Rel (fx X) m G H S) (en : EnvRel (fx X) G m S.length σ E) {tg it : Expr} {body : List Stmt} {pos : Pos} (hs : noSet it = true) :
    SoS X Wx σ m G H S (.For tg it body [] pos) ((srcE L ctx tg it E S).thenS E fun src S1 => forS src (tgR ctx tg) (execL L ctx body) src.ws E S1) := by
  intro D q
  refine ex_of (ps_for sit.own sit.calm pi_er pg_er pss_er (folded_no hs)) ?_
  refine so_src hc hR sit.toSit R en ((PostS.split q en).imp fun src m1 G1 H1 S1 R1 st1 h1 J hw => ?_)
  obtain ⟨Gd, Y, wk, hg, hy⟩ := hw
  have h1 := h1 (en.mono st1)
  refine for_it wk (g := PGr X tg) (tb := EXs X body) (fun i σ' H' => Goes (fx X) Wx D m1 G1 H1 S1 (fun E' S' => forS src (tgR ctx tg) (execL L ctx body) (src.ws.drop i) E' S') σ' H') ⟨m1, G1, S1, E, R1, .refl, en.mono st1, h1⟩ ?_ ?_ ?_
  · rintro i σ' H' hi ⟨m', G', S', E', R', st', en', p'⟩
    refine hg m' G' H' S' R' st' ?_
    replace p' : PostS (fx X) Wx D m' G' H' S' (forS src (tgR ctx tg) (execL L ctx body) (src.ws.drop i) E' S') := p'
    unfold forS at p'
    split at p'
    · split at p'
      · assumption
      · exact p'.elim
    · split at p'
      · assumption
      · exact p'.elim
  · rintro i x σ' H' H2 hi ⟨m', G', S', E', R', st', en', p'⟩ y
    replace p' : PostS (fx X) Wx D m' G' H' S' (forS src (tgR ctx tg) (execL L ctx body) (src.ws.drop i) E' S') := p'
    rw [List.drop_eq_getElem_cons hi] at p'
    unfold forS at p'
    split at p'
    · rename_i sok
      obtain ⟨G2, w, k1, R2, st2, iw2⟩ := hy i H' x H2 hi y m' G' S' R' st' sok
      have ew : src.ws[i] = w := by
        rw [List.getElem?_eq_getElem hi] at k1
        exact Option.some.inj k1
      rw [ew] at p'
      split at p'
      · rename_i E1 hb
        obtain ⟨σ1, en2, si, pg⟩ := bindT_ok sit.toSit R2.ex (en'.mono st2) iw2 (bindG_T hb)
        refine pg _ (ok_execL hX sit body R2 en2 _ ?_)
        exact PostS.turn (p'.later st2) (st'.trans st2)
      · exact p'.elim
    · exact p'.elim
  · rintro σ' H' ⟨m', G', S', E', R', st', en', p'⟩
    replace p' : PostS (fx X) Wx D m' G' H' S' (forS src (tgR ctx tg) (execL L ctx body) (src.ws.drop src.ws.length) E' S') := p'
    rw [List.drop_length] at p'
    unfold forS at p'
    split at p'
    · exact p' m' G' H' σ' R' .refl en'
    · exact p'.elim
theorem so_while (hT : OkT cf k (fx X) L) (hX : OkX cf k (fx X) L) (sit : SitS k X ctx Wx) (R : Rel (fx X) m G H S) (en : EnvRel (fx X) G m S.length σ E) {c : Expr} {body : List Stmt} {pos : Pos} (n : Nat) :
    SoS X Wx σ m G H S (.While c body [] pos) (whileS (L.t ctx c) (execL L ctx body) n E S) := by
  intro D q
  refine ex_of (ps_while sit.own pt_er pss_er) ⟨fun n σ' H' => Goes (fx X) Wx D m G H S (fun E' S' => whileS (L.t ctx c) (execL L ctx body) n E' S') σ' H', ⟨n, m, G, S, E, R, .refl, en, q⟩, ?_⟩
  rintro n σ' H' ⟨m', G', S', E', R', st', en', p'⟩
  cases n with
  | zero => exact p'.elim
  | succ n =>
    replace p' : PostS (fx X) Wx D m' G' H' S' (whileS (L.t ctx c) (execL L ctx body) (n + 1) E' S') := p'
    unfold whileS at p'
    refine hT ctx c X Wx σ' E' m' G' H' S' rfl sit.toSit R' en' _ ((PostS.split p' en').imp fun b m1 G1 H1 S1 R1 st1 h1 => ?_)
    have h1 := h1 (en'.mono st1)
    cases b with
    | true =>
      rw [if_pos rfl] at h1 ⊢
      refine ⟨Goes (fx X) Wx D m G H S (fun E' S' => whileS (L.t ctx c) (execL L ctx body) n E' S'), fun σ2 H2 g => ⟨n, Nat.lt_succ_self n, g⟩, ?_⟩
      exact ok_execL hX sit body R1 (en'.mono st1) _ (PostS.turn h1 (st'.trans st1))
    | false =>
      rw [if_neg Bool.false_ne_true] at h1 ⊢
      exact h1 m1 G1 H1 σ' R1 .refl (en'.mono st1)
end
end Mp
end
section
set_option Elab.async false
set_option linter.all false
set_option maxRecDepth 100000
set_option autoImplicit false
set_option maxHeartbeats 1000000
/-! MpR: a statement's reading is sound. -/
namespace Mp
open PySem PySem.Spec PyProof.Rows L2

theorem swapped_no {t e : Expr} {env : Env} (h : noTup e = true) : swappedStores [t] e env = pure none := by
  cases e <;> first | (cases h; done) | (cases t <;> rfl)
theorem lc_swaps {elt : Expr} {gs : List Comprehension} {scope : Scope} {pos py : Pos} {y : Str} {l : Nat} {env : Env} : ∃ b : Bool, swapsWith (.ListComp elt gs scope pos) (some (.Name y py)) l env = pure b ∧ (b = true → env.scope.names.lookup y = some .local) := by
  refine ⟨(env.blockKind == .function && env.kindOf y == some .local && py.line == pos.line && !(scope.names.any fun (n, k) => n == y && (k == .local || k == .cell))), rfl, fun h => ?_⟩
  rw [Bool.and_eq_true, Bool.and_eq_true, Bool.and_eq_true] at h
  have h2 := h.1.1.2
  unfold Env.kindOf at h2
  cases q : env.scope.names.lookup y with
  | none => rw [q] at h2; cases h2
  | some k => rw [q] at h2; cases k <;> first | rfl | cases h2

section
variable {cf : Cf} {k : Nat} {F : Fx} {L : Lv} {X : Cx} {Wx : WX} {ctx : Ctx} {σ : L2.St} {E : En} {m : Nat → Addr} {G H : Hp} {S : Store} {D : Ends}
/-- name = [.. for .. in ..] -/
theorem so_setLc (hc : CfOk (fx X) cf) (hR : OkR cf k (fx X) L) (hT : OkT cf k (fx X) L) (sit : Sit k X ctx Wx) {elt tg it : Expr} {ifs : List Expr} {scope : Scope} {pos py spos : Pos} {y : Str} {i : Nat} {ee : Ctx → Expr → En → Store → Res W}
    (hee : ∀ (X' : Cx) (Wx' : WX) (σ' : L2.St) (E' : En) (m : Nat → Addr) (G H : Hp) (S : Store), fx X' = fx X → Sit k X' (blkCtx ctx scope) Wx' → Rel (fx X) m G H S → EnvRel (fx X) G m S.length σ' E' → SoE X' Wx' σ' m G H S elt (ee (blkCtx ctx scope) elt E' S))
    (hi : X.N[i]? = some y) (hl : Loc X.env.scope y) (hf : X.fn y = true ∨ X.env.scope.names.lookup y = some .local)
    (R : Rel (fx X) m G H S) (en : EnvRel (fx X) G m S.length σ E)
    (q : Post (fx X) Wx σ m G H S (compE L ctx elt tg it ifs scope ee E S) fun ys m' G' H' S' => ∀ D' vs, H' D' = none → IsWL (fx X) G' m' S'.length ys vs → D.nx (σ.set i (some (.ref D'))) (upd H' D' (.lst vs))) :
    EXr X (.Assign [.Name y py] (.ListComp elt [⟨tg, it, ifs, 0⟩] scope pos) spos) D σ H := by
  obtain ⟨b, hb, hb2⟩ := lc_swaps (elt := elt) (gs := [⟨tg, it, ifs, 0⟩]) (scope := scope) (pos := pos) (py := py) (y := y) (l := spos.line) (env := X.env)
  cases b with
  | false => exact ex_of (ps_set sit.nd hi hl pe_er hb hf) (so_comp (Q := fun v H' => D.nx (σ.set i (some v)) H') hc hR hT sit hee R en q)
  | true =>
    unfold compE at q
    split at q
    · rename_i hbb
      obtain ⟨hbb, hs⟩ := hbb
      have ok : BlkOk X.N X.env.scope scope (ownOf ctx.N tg) := by
        rw [sit.N, sit.sc]
        exact blkOk_by hbb
      refine ex_of (ps_setLc (g := gAll X scope tg) (tt := tAll X scope ifs) (te := eAll X scope elt) (wi := PIr X tg it) sit.calm sit.nd hi (hb2 rfl) hb pi_er ok ?_ ?_ ?_ (folded_no hs)) ?_
      · exact fun s H0 C cl fp => ⟨fun pins s' σ' H' v u Q' I r h => h s H0 C cl fp pins s' u I r⟩
      · exact fun s H0 C cl fp => ⟨fun pins s' σ' H' Q' I h => by
          obtain ⟨t, ht, q⟩ := h s H0 C cl fp
          exact ht.run pins s' σ' H' Q' I q⟩
      · exact fun s H0 C cl fp => ⟨fun pins s' σ' H' Q' I h => h s H0 C cl fp pins s' I⟩
      · refine so_src hc hR sit R en ((Post.split q).imp fun src m1 G1 H1 S1 R1 st1 h1 J hw D' hD => ?_)
        split at h1
        · rename_i hl
          rw [← compL_eq] at h1
          exact so_compL (Q := fun v H' => D.nx (σ.set i (some v)) H') hT sit hee hw hl R1 (en.mono st1) h1 D' hD
        · exact h1.elim
    · exact q.elim

theorem bind1_some {x : Str} {w : W} {E1 : En} (e : bind1 ctx x w E = some E1) : ∃ i, slot ctx.N x = some i ∧ storable ctx x = true ∧ E1 = E.set i (some w) := by
  unfold bind1 at e
  split at e
  · rename_i hs
    cases hl : slot ctx.N x with
    | none => rw [hl] at e; cases e
    | some i =>
      rw [hl] at e
      dsimp only at e
      split at e <;> cases e
      exact ⟨i, rfl, hs, rfl⟩
  · cases e
/-- name = value, the value not a comprehension -/
theorem so_setE (sit : SitS k X ctx Wx) {x : Str} {e : Expr} {p pos : Pos} {r : Res W} {i : Nat} (h1 : slot ctx.N x = some i) (h2 : storable ctx x = true) (he : SoE X Wx σ m G H S e r) (hn : noComp e = true) (en : EnvRel (fx X) G m S.length σ E) {D : Ends}
    (q : PostS (fx X) Wx D m G H S (r.thenS E fun w S1 => match bind1 ctx x w E with | some E1 => .nx E1 S1 | none => .bad)) : EXr X (.Assign [.Name x p] e pos) D σ H := by
  obtain ⟨k1, k2⟩ := storable_of sit.sc sit.fn h2
  refine ex_of (ps_set sit.nd (by rw [sit.N]; exact slot_get h1) k1 pe_er (swaps_no hn) k2) (he _ ((PostS.split q en).imp fun w m1 G1 H1 S1 R1 st1 h1' v hv => ?_))
  have h3 := h1' (en.mono st1)
  split at h3
  · rename_i E1 hE
    obtain ⟨i', j1, j2, rfl⟩ := bind1_some hE
    rw [h1] at j1
    cases j1
    exact h3 m1 G1 H1 _ R1 .refl ((en.mono st1).set hv)
  · exact h3.elim
theorem so_asgN (hc : CfOk (fx X) cf) (hR : OkR cf k (fx X) L) (hT : OkT cf k (fx X) L) (sit : SitS k X ctx Wx) (R : Rel (fx X) m G H S) (en : EnvRel (fx X) G m S.length σ E) {x : Str} {e : Expr} {p pos : Pos} (hs : storable ctx x = true ∧ (slot ctx.N x).isSome = true) :
    SoS X Wx σ m G H S (.Assign [.Name x p] e pos) ((asgV L ctx x e E S).thenS E fun w S1 => match bind1 ctx x w E with | some E1 => .nx E1 S1 | none => .bad) := by
  obtain ⟨h2, h1⟩ := hs
  obtain ⟨i, h1⟩ := Option.isSome_iff_exists.mp h1
  intro D q
  unfold asgV at q
  split at q
  · rename_i elt tg it ifs scope lpos
    have q2 := Post.split (PostS.split q en)
    obtain ⟨k1, k2⟩ := storable_of sit.sc sit.fn h2
    refine so_setLc hc hR hT sit.toSit (hee_k hR) (by rw [sit.N]; exact slot_get h1) k1 k2 R en (q2.imp fun ys m1 G1 H1 S1 R1 st1 h3 D' vs hD hvs => ?_)
    have fin : ∀ {m2 : Nat → Addr} {G2 H2 : Hp} {S2 : Store} {w : W}, Stp m1 G1 H1 S1 m2 G2 H2 S2 → Rel (fx X) m2 G2 H2 S2 → IsW (fx X) G2 m2 S2.length w (.ref D') → (EnvRel (fx X) G2 m2 S2.length σ E → PostS (fx X) Wx D m2 G2 H2 S2 (match bind1 ctx x w E with | some E1 => .nx E1 S2 | none => .bad)) → D.nx (σ.set i (some (.ref D'))) H2 := fun {m2 G2 H2 S2 w} st2 R2 iw h4 => by
      have en2 := (en.mono st1).mono st2
      have h4 := h4 en2
      split at h4
      · rename_i E1 hE
        obtain ⟨i', j1, j2, rfl⟩ := bind1_some hE
        rw [h1] at j1
        cases j1
        exact h4 m2 G2 H2 _ R2 .refl (en2.set iw)
      · exact h4.elim
    split at h3
    · obtain ⟨m', R', st', i'⟩ := new_cell R1 hvs hD
      exact fin st' R' i' (h3 m' G1 _ R' st')
    · obtain ⟨z, e, h5⟩ := post_o h3
      obtain ⟨ds, hds, rfl⟩ := optmap e
      obtain ⟨G', R', st', i'⟩ := new_lst R1 (dats_ok hvs hds) hD
      exact fin st' R' (show IsW (fx X) G' m1 S1.length (.p (.lst ds)) (.ref D') from i') (h5 m1 G' _ R' st')
  · split at q
    · rename_i hn
      split at q
      · exact so_setE sit h1 h2 (so_alloc hc hR hT sit.toSit R en) hn en q
      · exact so_setE sit h1 h2 (hR ctx e X Wx σ E m G H S rfl sit.toSit R en) hn en q
    · exact q.elim
/-- a, b = a tuple -/
theorem so_asgT (hR : OkR cf k (fx X) L) (sit : SitS k X ctx Wx) (R : Rel (fx X) m G H S) (en : EnvRel (fx X) G m S.length σ E) {es : List Expr} {j : Nat} {e : Expr} {p pos : Pos} (hs : noTup e = true ∧ noComp e = true) :
    SoS X Wx σ m G H S (.Assign [.Tuple es j p] e pos) ((L.v ctx e E S).thenS E fun d S1 => match bindG (tgR ctx (.Tuple es j p)) (.p d) E with | some E1 => .nx E1 S1 | none => .bad) := by
  intro D q
  refine ex_of (ps_asg pe_er pg_er (by rw [show swapsWithSole [.Tuple es j p] e pos.line X.env = swapsWith e (some (.Tuple es j p)) pos.line X.env from rfl]; exact swaps_no hs.2) (swapped_no hs.1)) ?_
  refine ok_v hR rfl sit.toSit R en _ ((PostS.split q en).imp fun d m1 G1 H1 S1 R1 st1 h1 v hv => ?_)
  have h3 := h1 (en.mono st1)
  split at h3
  · rename_i E1 hE
    obtain ⟨σ1, en2, _, pg⟩ := bindT_ok (n := S1.length) (m := m1) sit.toSit R1.ex (en.mono st1) (show IsW (fx X) G1 m1 S1.length (.p d) v from hv) (bindG_T hE)
    exact pg _ (h3 m1 G1 H1 _ R1 .refl en2)
  · exact h3.elim
theorem sub_assign {o i : Expr} {pos : Pos} {env : Env} (h : noSlice i = true) : ∀ v, assign (.Subscript o i pos) env v = (do
      let ov ← holding [v] (eval o env)
      let iv ← holding [v, ov] (eval i env)
      standAt pos
      holding [v, ov, iv] (setItem ov iv v)
      release [v, ov, iv] []) := by
  intro v
  cases i <;> first | rfl | cases h
/-- o[i] = value -/
theorem so_asgS (hR : OkR cf k (fx X) L) (sit : SitS k X ctx Wx) (R : Rel (fx X) m G H S) (en : EnvRel (fx X) G m S.length σ E) {o i : Expr} {e : Expr} {p pos : Pos} (hs : noSlice i = true ∧ noComp e = true ∧ noTup e = true) :
    SoS X Wx σ m G H S (.Assign [.Subscript o i p] e pos) ((L.k ctx e E S).thenS E fun w S1 => (L.r ctx o E S1).thenS E fun ow S2 => (L.v ctx i E S2).thenS E fun d S3 => match setAt S3 ow d w with | some S4 => .nx E S4 | none => .bad) := by
  intro D q
  refine ex_of (ps_asg pe_er (pg_sub pe_er pe_er set_list (sub_assign hs.1)) (by rw [show swapsWithSole [.Subscript o i p] e pos.line X.env = swapsWith e (some (.Subscript o i p)) pos.line X.env from rfl]; exact swaps_no hs.2.1) (swapped_no hs.2.2)) ?_
  refine so_k hR sit.toSit R en _ ((PostS.split q en).imp fun w m1 G1 H1 S1 R1 st1 h1 v hv => ?_)
  have en1 := en.mono st1
  refine hR ctx o X Wx σ E m1 G1 H1 S1 rfl sit.toSit R1 en1 _ ((PostS.split (h1 en1) en1).imp fun ow m2 G2 H2 S2 R2 st2 h2 ov hov => ?_)
  have en2 := en1.mono st2
  refine ok_v hR rfl sit.toSit R2 en2 _ ((PostS.split (h2 en2) en2).imp fun d m3 G3 H3 S3 R3 st3 h3 iv hiv => ?_)
  have en3 := en2.mono st3
  have h3 := h3 en3
  split at h3
  · rename_i S4 hS
    unfold setAt at hS
    split at hS
    · rename_i id kk
      split at hS
      · rename_i ws hcell
        obtain ⟨jj, hj, rfl⟩ := optmap hS
        have hov3 := st3.isW hov
        obtain ⟨hid, rfl⟩ := (show id < S3.length ∧ ov = .ref (m3 id) from hov3)
        simp only [Is] at hiv
        subst hiv
        obtain ⟨vs, c1, c2⟩ := R3.cells id _ hcell
        have hv3 := st3.isW (st2.isW hv)
        obtain ⟨R4, st4⟩ := write_lst R3 hcell (c2.set hv3 jj)
        exact ⟨m3 id, vs, kk, jj, rfl, rfl, c1, by rw [c2.length]; exact hj, h3 m3 G3 _ σ R4 st4 (en3.mono st4)⟩
      · cases hS
    · cases hS
  · exact h3.elim
/-- name += .. -/
theorem so_aug (hR : OkR cf k (fx X) L) (sit : SitS k X ctx Wx) (R : Rel (fx X) m G H S) (en : EnvRel (fx X) G m S.length σ E) {x : Str} {op : Operator} {e : Expr} {p pos : Pos} {i : Nat} {d : P} (hop : (op = .Add ∨ op = .Sub) ∧ storable ctx x = true) (hi : slot ctx.N x = some i) (hd : E[i]? = some (some (.p d))) :
    SoS X Wx σ m G H S (.AugAssign (.Name x p) op e pos) ((L.v ctx e E S).thenS E fun d2 S1 => match augI op d d2 with | some z => (match bind1 ctx x (.p z) E with | some E1 => .nx E1 S1 | none => .bad) | none => .bad) := by
  intro D q
  obtain ⟨hop, hst⟩ := hop
  obtain ⟨k1, k2⟩ := storable_of sit.sc sit.fn hst
  have hip : ∃ f : Int → Int → Int, PIp X op (ipI f) ∧ ∀ a b : Int, augI op (.int a) (.int b) = some (.int (f a b)) := by
    rcases hop with rfl | rfl
    · exact ⟨_, ip_add, fun _ _ => rfl⟩
    · exact ⟨_, ip_sub, fun _ _ => rfl⟩
  obtain ⟨f, hip, hf⟩ := hip
  obtain ⟨v, e1, e2⟩ := en.2 i _ hd
  refine ex_of (ps_aug (i := i) sit.nd (by rw [sit.N]; exact slot_get hi) k1 pe_er hip k2) ⟨v, e1, ?_⟩
  refine ok_v hR rfl sit.toSit R en _ ((PostS.split q en).imp fun d2 m1 G1 H1 S1 R1 st1 h1 v2 hv2 => ?_)
  have h3 := h1 (en.mono st1)
  split at h3
  · rename_i z hz
    split at h3
    · rename_i E1 hE
      obtain ⟨i', j1, j2, rfl⟩ := bind1_some hE
      rw [hi] at j1
      cases j1
      have hab : ∃ a b, d = .int a ∧ d2 = .int b := by
        unfold augI at hz
        split at hz <;> first | exact ⟨_, _, rfl, rfl⟩ | cases hz
      obtain ⟨a, b, rfl, rfl⟩ := hab
      rw [hf] at hz
      cases hz
      have e2 : Is (fx X) G (.int a) v := e2
      simp only [Is] at e2 hv2
      subst e2 hv2
      exact ⟨a, b, rfl, rfl, h3 m1 G1 H1 _ R1 .refl ((en.mono st1).set (show Is (fx X) G1 (.int (f a b)) _ by simp only [Is]))⟩
    · exact h3.elim
  · exact h3.elim

theorem SitS.noex (sit : SitS k X ctx Wx) (Wx' : WX) : SitS k X.nox { ctx with exOk := false } Wx' where
  N := sit.N
  sc := sit.sc
  nd := sit.nd
  calm := sit.calm
  room1 := sit.room1
  tk := fun h => by cases h
  fn := sit.fn
  own := PassesOwn.never
theorem stepX_ok (hc : CfOk F cf) (hR : OkR cf k F L) (hT : OkT cf k F L) (hX : OkX cf k F L) : OkX cf k F { L with x := stepX L } := by
  intro ctx st X Wx σ E m G H S hF sit R en
  subst hF
  show SoS X Wx σ m G H S st (stepX L ctx st E S)
  unfold stepX
  split
  · rename_i e pos
    split
    · rename_i hd
      cases e with
      | Constant c _ _ =>
        cases c with
        | str z => exact fun D q => ex_of ps_doc (show D.nx σ H from q m G H σ R .refl en)
        | _ => cases hd
      | _ => cases hd
    · split
      · rename_i hn
        intro D q
        exact ex_of (ps_expr pe_er (swaps_no hn)) (hR ctx e X Wx σ E m G H S rfl sit.toSit R en _ ((PostS.split q en).imp fun w m1 G1 H1 S1 R1 st1 h1 v hv => h1 (en.mono st1) m1 G1 H1 σ R1 .refl (en.mono st1)))
      · exact fun D q => q.elim
  · split
    · exact so_asgN hc hR hT sit R en (by assumption)
    · exact fun D q => q.elim
  · split
    · exact so_asgT hR sit R en (by assumption)
    · exact fun D q => q.elim
  · split
    · exact so_asgS hR sit R en (by assumption)
    · exact fun D q => q.elim
  · split
    · split
      · split
        · exact so_aug hR sit R en (by assumption) (by assumption) (by assumption)
        · exact fun D q => q.elim
      · exact fun D q => q.elim
    · exact fun D q => q.elim
  · rename_i c a b pos
    intro D q
    refine ex_of (ps_if pt_er pss_er pss_er) (hT ctx c X Wx σ E m G H S rfl sit.toSit R en _ ((PostS.split q en).imp fun z m1 G1 H1 S1 R1 st1 h1 => ?_))
    have h1 := h1 (en.mono st1)
    split
    · rename_i hz
      rw [if_pos hz] at h1
      exact ok_execL hX sit a R1 (en.mono st1) D h1
    · rename_i hz
      rw [if_neg hz] at h1
      exact ok_execL hX sit b R1 (en.mono st1) D h1
  · split
    · exact so_for hc hR hX sit R en (by assumption)
    · exact fun D q => q.elim
  · exact so_while hT hX sit R en _
  · exact fun D q => ex_of ps_retN (q m G H R .refl _ (by simp [IsW, Is]))
  · rename_i e pos
    intro D q
    refine ex_of (ps_ret pe_er) ?_
    split at q
    · exact so_alloc hc hR hT sit.toSit R en _ ((PostS.split q en).imp fun w m1 G1 H1 S1 R1 st1 h1 v hv => h1 (en.mono st1) m1 G1 H1 R1 .refl v hv)
    · exact (ok_v hR rfl sit.toSit R en).p _ ((PostS.split q en).imp fun w m1 G1 H1 S1 R1 st1 h1 v hv => h1 (en.mono st1) m1 G1 H1 R1 .refl v hv)
  · rename_i body h0 hs orelse pos
    intro D q
    refine ex_of (ps_try_thru (pss_er (X := X.nox)) pss_er) ?_
    have q2 := PostS.seq (F := fx X) (Wx := Wx) (m := m) (G := G) (H := H) (S := S) (D := D) (m0 := m) (G0 := G) (H0 := H) (S0 := S) (k := fun E1 S1 => execL L ctx orelse E1 S1) (r := execL L { ctx with exOk := false } body E S)
      (by
        revert q
        cases execL L { ctx with exOk := false } body E S with
        | exc x E1 S1 => exact fun q => q.elim
        | _ => exact fun q => q) .refl
    refine ok_execL (X := X.nox) (Wx := Wx) hX (sit.noex _) body R en _ ?_
    revert q2
    cases execL L { ctx with exOk := false } body E S with
    | bad => exact fun q2 => q2
    | nx E1 S1 =>
      intro q2 m2 G2 H2 σ2 R2 st2 en2
      obtain ⟨m3, G3, S3, E3, R3, st3, en3, p3⟩ := q2 m2 G2 H2 σ2 R2 st2 en2
      exact ok_execL hX sit orelse R3 en3 D p3
    | bk E1 S1 => exact fun q2 => q2
    | ct E1 S1 => exact fun q2 => q2
    | rt w S1 => exact fun q2 => q2
    | exc x E1 S1 => exact fun q2 => q2
  · exact fun D q => ex_of ps_pass (show D.nx σ H from q m G H σ R .refl en)
  · exact fun D q => ex_of ps_break (show D.bk σ H from q m G H σ R .refl en)
  · exact fun D q => ex_of ps_continue (show D.ct σ H from q m G H σ R .refl en)
  · exact fun D q => q.elim
end
end Mp
end
section
set_option Elab.async false
set_option linter.all false
set_option maxRecDepth 100000
set_option autoImplicit false
set_option maxHeartbeats 1000000
/-! MpT: the levels; the defs' readings are sound. -/
namespace Mp
open PySem PySem.Spec PyProof.Rows L2

/-! ### what a call leaves behind -/
def W.below (n : Nat) : W → Bool
  | .p _ => true
  | .o id => decide (id < n)
def Cell.below (n : Nat) : Cell → Bool
  | .lst ws => ws.all (W.below n)
  | .dic _ ws => ws.all (W.below n)
  | .ins _ fs => fs.all fun p => W.below n p.2
  | .fz _ => true
  | .dead => true
/-- cells that nobody knows any more are dropped -/
def trim (n : Nat) (w : W) (S : Store) : Store := if (w.below n && (S.take n).all (Cell.below n)) = true then S.take n else S
section
variable {F : Fx} {m m' : Nat → Addr} {G G' H H' : Hp} {S S' : Store}
theorem IsW.below {n n' : Nat} {w : W} {v : V} (h : IsW F G m n w v) (b : w.below n' = true) : IsW F G m n' w v := by
  cases w with
  | p d => exact h
  | o id => exact ⟨of_decide_eq_true b, h.2⟩
theorem IsWL.below {n n' : Nat} : ∀ {ws : List W} {vs : List V}, IsWL F G m n ws vs → ws.all (W.below n') = true → IsWL F G m n' ws vs
  | [], _, h, _ => h
  | w :: ws, vs, h, b => by
    rw [List.all_cons, Bool.and_eq_true] at b
    simp only [IsWL] at h ⊢
    obtain ⟨v, r, h1, h2, h3⟩ := h
    exact ⟨v, r, h1, h2.below b.1, IsWL.below h3 b.2⟩
theorem FsIs.below {n n' : Nat} : ∀ {fs : List (Str × W)} {vs : List (Str × V)}, FsIs F G m n fs vs → (fs.all fun p => W.below n' p.2) = true → FsIs F G m n' fs vs
  | [], _, h, _ => h
  | w :: ws, vs, h, b => by
    rw [List.all_cons, Bool.and_eq_true] at b
    simp only [FsIs] at h ⊢
    obtain ⟨v, r, h1, h2, h3⟩ := h
    exact ⟨v, r, h1, h2.below b.1, FsIs.below h3 b.2⟩
theorem CellAt.below {n n' : Nat} {a : Addr} {c : Cell} (h : CellAt F m n G H a c) (b : c.below n' = true) : CellAt F m n' G H a c := by
  cases c with
  | lst ws =>
    obtain ⟨vs, h1, h2⟩ := h
    exact ⟨vs, h1, h2.below b⟩
  | dic ks ws =>
    rcases h with ⟨l, h1, h2, h3⟩ | ⟨l, h1, h2, h3, h4⟩
    · exact .inl ⟨l, h1, h2, h3.below b⟩
    · exact .inr ⟨l, h1, h2, h3, h4.below b⟩
  | ins c fs =>
    obtain ⟨C, dx, vs, h1, h2, h3⟩ := h
    exact ⟨C, dx, vs, h1, h2, h3.below b⟩
  | fz d => exact h
  | dead => trivial
theorem take_get {n id : Nat} {c : Cell} (e : (S.take n)[id]? = some c) : S[id]? = some c := by
  rw [List.getElem?_take] at e
  split at e
  · exact e
  · cases e
theorem Rel.trim {n : Nat} (R : Rel F m G H S) (hn : n ≤ S.length) (hb : (S.take n).all (Cell.below n) = true) : Rel F m G H (S.take n) := by
  have hl : (S.take n).length = n := by rw [List.length_take]; omega
  refine ⟨R.ex, fun id c e => ?_, fun id c e l => R.out id c (take_get e) l, fun i j c c' e e' l l' q => R.inj i j c c' (take_get e) (take_get e') l l' q⟩
  rw [hl]
  exact (R.cells id c (take_get e)).below (List.all_eq_true.mp hb c (List.mem_iff_getElem?.mpr ⟨id, e⟩))
theorem Stp.trim {S0 : Store} {m0 : Nat → Addr} {G0 H0 : Hp} (st : Stp m0 G0 H0 S0 m G H S) : Stp m0 G0 H0 S0 m G H (S.take S0.length) where
  len := by rw [List.length_take]; have := st.len; omega
  mm := st.mm
  gg := st.gg
  keep := st.keep
  gnew := st.gnew
  lnew := fun b ⟨id, c, e, l, z⟩ => st.lnew b ⟨id, c, take_get e, l, z⟩
theorem trim_ok {S0 : Store} {m0 : Nat → Addr} {G0 H0 : Hp} {w : W} {v : V} (R : Rel F m G H S) (st : Stp m0 G0 H0 S0 m G H S) (h : IsW F G m S.length w v) :
    Rel F m G H (trim S0.length w S) ∧ Stp m0 G0 H0 S0 m G H (trim S0.length w S) ∧ IsW F G m (trim S0.length w S).length w v := by
  unfold trim
  split
  · rename_i hb
    rw [Bool.and_eq_true] at hb
    have hl : (S.take S0.length).length = S0.length := by rw [List.length_take]; have := st.len; omega
    exact ⟨R.trim st.len hb.2, st.trim, by rw [hl]; exact h.below hb.1⟩
  · exact ⟨R, st, h⟩
end

/-! ### levels, defs -/
def lv0 : Lv := ⟨fun _ _ _ _ => .bad, fun _ _ _ _ => .bad, fun _ _ _ _ => .bad⟩
def lvN (cf : Cf) (call : Str × Option Str → List W → Store → Res W) (n : Nat) : Lv := @Nat.rec (fun _ => Lv) lv0 (fun _ L => ⟨stepR cf call L, stepT L, stepX L⟩) n
def startE (N : List Str) (ws : List W) : En := ws.map some ++ List.replicate (N.length - ws.length) none
def Fn.ctx (f : Fn) : Ctx := ⟨f.N, defScope f.st, f.box, true, fun _ => true, f.retAs⟩
def endR (n : Nat) : SR → Res W
  | .nx _ S => .ok (.p .non) (trim n (.p .non) S)
  | .rt w S => .ok w (trim n w S)
  | .exc x _ S => .exc x (trim n (.p .non) S)
  | _ => .bad
def deepest : Nat := 60
def runB (cf : Cf) (call : Str × Option Str → List W → Store → Res W) (f : Fn) (ws : List W) (S : Store) : Res W :=
  endR S.length (execL (lvN cf call deepest) f.ctx (defBody f.st) (startE f.N ws) S)
def runF (cf : Cf) : Nat → Str × Option Str → List W → Store → Res W
  | 0, _, _, _ => .bad
  | c + 1, key, ws, S => match fnOf cf key with
    | some f => runB cf (runF cf c) f ws S
    | none => .bad

/-- the defs stand -/
structure FnsOk (F : Fx) (cf : Cf) : Prop where
  fn : ∀ x f, fnOf cf (x, none) = some f → ∃ a fd, F.mg x = some (.ref a) ∧ Binds F.K fd f.ps [] ∧ FunD F.K x f.qual (defArgs f.st) (defBody f.st) (defScope f.st) [] [] a fd ∧ FnScope f.N f.ps (defScope f.st)
section
variable {cf : Cf} {k : Nat} {F : Fx} {call : Str × Option Str → List W → Store → Res W}
theorem lvN_ok (hc : CfOk F cf) (hC : CallsOk F cf k call) : ∀ n, OkR cf k F (lvN cf call n) ∧ OkT cf k F (lvN cf call n) ∧ OkX cf k F (lvN cf call n)
  | 0 => ⟨fun _ _ _ _ _ _ _ _ _ _ _ _ _ _ Q q => q.elim, fun _ _ _ _ _ _ _ _ _ _ _ _ _ _ Q q => q.elim, fun _ _ _ _ _ _ _ _ _ _ _ _ _ _ D q => q.elim⟩
  | n + 1 => by
    obtain ⟨h1, h2, h3⟩ := lvN_ok hc hC n
    exact ⟨stepR_ok hc hC h1 h2, stepT_ok hc h1 h2, stepX_ok hc h1 h2 h3⟩
theorem env_start {G : Hp} {m : Nat → Addr} {n : Nat} {N : List Str} {ws : List W} {vs : List V} (h : IsWL F G m n ws vs) : EnvRel F G m n (L2.start N vs) (startE N ws) := by
  unfold L2.start startE
  have hl := h.length
  refine ⟨by simp [hl], fun i w e => ?_⟩
  rcases Nat.lt_or_ge i ws.length with hi | hi
  · rw [List.getElem?_append_left (by simpa using hi), List.getElem?_map] at e
    cases q : ws[i]? with
    | none => rw [q] at e; cases e
    | some w' =>
      rw [q] at e
      cases e
      obtain ⟨v, h1, h2⟩ := h.get q
      exact ⟨v, by rw [List.getElem?_append_left (by simpa [hl] using hi), List.getElem?_map, h1]; rfl, h2⟩
  · rw [List.getElem?_append_right (by simpa using hi)] at e
    obtain ⟨_, h2⟩ := List.getElem?_eq_some_iff.mp e
    rw [List.getElem_replicate] at h2
    cases h2
/-- a def's body keeps the promise of its reading -/
theorem fn_ok (hc : CfOk F cf) (hC : CallsOk F cf k call) {x : Str} {f : Fn} {a : Addr} {fd : FuncData} (hF : FunD F.K x f.qual (defArgs f.st) (defBody f.st) (defScope f.st) [] [] a fd) (hS : FnScope f.N f.ps (defScope f.st)) :
    FnOk F.Pr F.w F.K F.mg F.base (L2.CX F.Pr F.w) (k + 2) a fd f.ps (spRun F f.ps.length (runB cf call f)) := by
  refine hF.ok hS (fun vs H Q E h => h.1) fun cdv A outer s H vs Q E hr h => ?_
  obtain ⟨hl, m, G, S, ws, R, iw, q⟩ := h
  refine ⟨_, pss_er, ?_⟩
  have sit : SitS k (cxOf (L2.CX F.Pr F.w) F.Pr F.w F.K F.mg F.base f.N f.qual (defScope f.st) a cdv A outer s H E) f.ctx (fun cls d _ H' => E cls d H') := {
    N := rfl
    sc := rfl
    nd := hS.nd
    calm := rfl
    room1 := hr
    tk := fun _ => takes_of rfl rfl rfl rfl
    fn := fun _ _ => rfl
    own := passes_of rfl }
  refine ok_execL (lvN_ok hc hC deepest).2.2 sit (defBody f.st) R (env_start iw) _ ?_
  have fin : ∀ r, Post F (fun cls d _ H' => E cls d H') [] m G H S (endR S.length r) (fun w m' G' H' S' => ∀ v, IsW F G' m' S'.length w v → Q v H') → PostS F (fun cls d _ H' => E cls d H') { nx := fun _ H' => Q .non H', rt := Q } m G H S r := by
    intro r q
    cases r with
    | bad => exact q
    | nx E1 S1 =>
      intro m1 G1 H1 σ1 R1 st1 en1
      obtain ⟨R2, st2, _⟩ := trim_ok R1 st1 (show IsW F G1 m1 S1.length (.p .non) .non by simp [IsW, Is])
      exact q m1 G1 H1 R2 st2 _ (by simp [IsW, Is])
    | rt w S1 =>
      intro m1 G1 H1 R1 st1 v hv
      obtain ⟨R2, st2, i2⟩ := trim_ok R1 st1 hv
      exact q m1 G1 H1 R2 st2 v i2
    | bk E1 S1 => exact q.elim
    | ct E1 S1 => exact q.elim
    | exc x E1 S1 =>
      intro cls d m1 G1 H1 σ1 R1 st1 ex en1
      obtain ⟨R2, st2, _⟩ := trim_ok R1 st1 (show IsW F G1 m1 S1.length (.p .non) .non by simp [IsW, Is])
      exact q cls d m1 G1 H1 R2 st2 ex
  exact fin _ q
theorem callsOk (hc : CfOk F cf) (hf : FnsOk F cf) : ∀ c, CallsOk F cf (2 * c) (runF cf c)
  | 0 => ⟨fun x f e => by
    obtain ⟨a, fd, h1, h2, h3, h4⟩ := hf.fn x f e
    exact ⟨a, fd, h1, h3.kp, h2, ⟨fun vs H Q E h => h.1, fun _ _ _ _ _ _ _ _ _ _ _ _ _ hsp => by obtain ⟨_, _, _, _, _, _, _, z⟩ := hsp; exact z.elim⟩⟩⟩
  | c + 1 => ⟨fun x f e => by
    obtain ⟨a, fd, h1, h2, h3, h4⟩ := hf.fn x f e
    refine ⟨a, fd, h1, h3.kp, h2, ?_⟩
    have g : runF cf (c + 1) (x, none) = runB cf (runF cf c) f := by
      funext ws S
      show (match fnOf cf (x, none) with | some f => runB cf (runF cf c) f ws S | none => .bad) = _
      rw [e]
    rw [g]
    exact fn_ok hc (callsOk hc hf c) h3 h4⟩
/-- a law's promise -/
theorem law_sp {H : Hp} {a : Addr} {ns : List Int} {S' : Store} {r : List W → Store → Res W} (hS : SqL F.K H a (ns.map V.int)) (h : r [.p (.fro (ns.map P.int))] [] = .ok (.p (.bl true)) S') :
    spRun F 1 r [.ref a] H (fun v _ => v = .bl true) fun _ _ _ => False := by
  have il : ∀ ns : List Int, IsL F H (ns.map P.int) (ns.map V.int) := fun ns => by
    induction ns with
    | nil => simp [IsL]
    | cons n r ih => simp only [List.map_cons, IsL]; exact ⟨_, _, rfl, by simp [Is], ih⟩
  refine ⟨rfl, fun _ => 0, H, [], _, ⟨fun _ _ e => e, fun id c e => by simp at e, fun id c e => by simp at e, fun i j c c' e => by simp at e⟩, ?_, by rw [h]; exact fun m' G' H' R st v hv => by simpa [IsW, Is] using hv⟩
  simp only [IsWL]
  exact ⟨_, _, rfl, by simp only [IsW, Is]; exact ⟨a, _, rfl, hS, il ns⟩, rfl⟩
end
end Mp
end
section
set_option Elab.async false
set_option linter.all false
set_option maxRecDepth 100000
set_option autoImplicit false
/-! MpU: readings with the names resolved. -/
namespace Mp
open PySem PySem.Spec PyProof.Rows L2

abbrev CR := En → Store → Res W
abbrev CV := En → Store → Res P
abbrev CT := En → Store → Res Bool
abbrev CS := En → Store → SR
abbrev CallT := Str × Option Str → List W → Store → Res W
def rBad : CR := fun _ _ => .bad
def rL (i : Nat) : CR := fun E S => okO (getE E i) S
def rK (d : P) : CR := fun _ S => .ok (.p d) S
def rV (a : CR) : CV := fun E S => frzR (a E S)
def rVs : List CR → En → Store → Res (List P)
  | [], _, S => .ok [] S
  | a :: r, E, S => (rV a E S).andThen fun d S1 => (rVs r E S1).andThen fun ds S2 => .ok (d :: ds) S2
def rBin (op : Operator) (a b : CR) : CR := fun E S => (rV a E S).andThen fun d S1 => (rV b E S1).andThen fun d2 S2 => okO ((binop op d d2).map .p) S2
/-- a + b + c + .. -/
def rCat (a : CR) (r : List CR) : CR := r.foldl (rBin .Add) a
def notP : P → Store → Res W
  | .bl b, S => .ok (.p (.bl (!b))) S
  | _, _ => .bad
def negP : P → Store → Res W
  | .int i, S => .ok (.p (.int (-i))) S
  | _, _ => .bad
def rNot (a : CR) : CR := fun E S => (rV a E S).andThen fun d S1 => notP d S1
def rNeg (a : CR) : CR := fun E S => (rV a E S).andThen fun d S1 => negP d S1
def rBoolV (op : BoolOp) : List CR → CV
  | [], _, _ => .bad
  | [a], E, S => rV a E S
  | a :: b :: r, E, S => (rV a E S).andThen fun d S1 => match d, op with
    | .bl true, .And => rBoolV op (b :: r) E S1
    | .bl false, .And => .ok (.bl false) S1
    | .bl true, .Or => .ok (.bl true) S1
    | .bl false, .Or => rBoolV op (b :: r) E S1
    | _, _ => .bad
def rBool (op : BoolOp) (as : List CR) : CR := fun E S => (rBoolV op as E S).andThen fun d S1 => .ok (.p d) S1
def rIf (t : CT) (a b : CR) : CR := fun E S => (t E S).andThen fun c S1 => if c = true then a E S1 else b E S1
def tCmp (op : CmpOp) (a b : CR) : CT := fun E S => (rV a E S).andThen fun d S1 => (rV b E S1).andThen fun d2 S2 => okO (cmpop op d d2) S2
def tIn (neg : Bool) (a b : CR) : CT := fun E S => (rV a E S).andThen fun d S1 => (b E S1).andThen fun w S2 => okO (inR S2 neg d w) S2
def tCh (a : CR) (op : CmpOp) (b : CR) (op' : CmpOp) (c : CR) : CT := fun E S => (rV a E S).andThen fun d S1 => (rV b E S1).andThen fun d2 S2 => match cmpop op d d2 with
    | some true => (rV c E S2).andThen fun d3 S3 => okO (cmpop op' d2 d3) S3
    | some false => .ok false S2
    | none => .bad
def rT (t : CT) : CR := fun E S => (t E S).andThen fun k S1 => .ok (.p (.bl k)) S1
def rPart (e : Option CR) : En → Store → Res (Option Int) := match e with
  | none => fun _ S => .ok none S
  | some a => fun E S => (rV a E S).andThen fun d S1 => match d with
    | .int i => .ok (some i) S1
    | _ => .bad
def rSl (a : CR) (lo hi : Option CR) : CR := fun E S => (a E S).andThen fun w S1 => (rPart lo E S1).andThen fun l S2 => (rPart hi E S2).andThen fun h S3 => okO ((sliceR S3 w l h).map .p) S3
def rIx (a i : CR) : CR := fun E S => (a E S).andThen fun w S1 => (rV i E S1).andThen fun d S2 => okO (idxW S2 w d) S2
def rTab (kvs : List (Str × P)) (i : CR) : CR := fun E S => (rV i E S).andThen fun d S1 => okO ((match d with | .str z => kvs.lookup z | _ => none).map .p) S1
def rD (a : CR) : CR := fun E S => (rV a E S).andThen fun d S1 => .ok (.p d) S1
def rArgs : List CR → En → Store → Res (List W)
  | [], _, S => .ok [] S
  | a :: r, E, S => (a E S).andThen fun w S1 => (rArgs r E S1).andThen fun ws S2 => .ok (w :: ws) S2
def exG {α : Type} (b : Bool) (r : Res α) : Res α := match r with
  | .exc y S => if b then .exc y S else .bad
  | r => r
def rCall (ex pu : Bool) (call : CallT) (key : Str × Option Str) (n : Nat) (as : List CR) : CR := fun E S => (rArgs as E S).andThen fun ws S1 => if ws.length = n then exG ex (callW call pu key ws S1) else .bad
def rLen (a : CR) : CR := fun E S => (a E S).andThen fun w S1 => okO ((lenR S1 w).map .p) S1
def rList (a : CR) : CR := fun E S => (a E S).andThen fun w S1 => okO ((listR S1 w).map .p) S1
def rF1 (f : P → Option P) (a : CR) : CR := fun E S => (rV a E S).andThen fun d S1 => okO ((f d).map .p) S1
def rF2 (f : P → P → Option P) (a b : CR) : CR := fun E S => (rV a E S).andThen fun d S1 => (rV b E S1).andThen fun d2 S2 => okO ((f d d2).map .p) S2
def rIs (ty : String) (a : CR) : CR := fun E S => (rV a E S).andThen fun d S1 => okO (((isTy ty d).map P.bl).map W.p) S1
def rKeep (a : CR) : CR := fun E S => keepO (a E S)
def appW (S2 : Store) (id : Nat) (y : W) : Res W := match S2[id]? with
  | some (.lst ws) => if ws.length < sizeLine then .ok (.p .non) (S2.set id (.lst (ws ++ [y]))) else .bad
  | _ => .bad
def rApp (o a : CR) : CR := fun E S => (o E S).andThen fun w S1 => match w with
  | .o id => if lstAt S1 id = true then (rKeep a E S1).andThen fun y S2 => appW S2 id y else .bad
  | _ => .bad
def rExt (o a : CR) : CR := fun E S => (o E S).andThen fun w S1 => match w with
  | .o id => if lstAt S1 id = true then (rV a E S1).andThen fun y S2 => (match S2[id]?, y with
          | some (.lst ws), .lst ds => if ws.length + ds.length ≤ sizeLine then .ok (.p .non) (S2.set id (.lst (ws ++ ds.map .p))) else .bad
          | _, _ => .bad) else .bad
  | _ => .bad
def rJoin (o a : CR) : CR := fun E S => (rV o E S).andThen fun d S1 => match d with
  | .str z => (rV a E S1).andThen fun y S2 => (match y with
    | .lst ds => (match strsOf ds with
      | some ys => if (ys.map (·.length)).sum + ys.length * z.length ≤ 16777216 then .ok (.p (.str (Txt.join z ys))) S2 else .bad
      | none => .bad)
    | _ => .bad)
  | _ => .bad
def rSplit (o a : CR) : CR := fun E S => (rV o E S).andThen fun d S1 => match d with
  | .str z => (rV a E S1).andThen fun y S2 => (match y with
    | .str b => if (b.length == 0) = false ∧ z.length + 2 ≤ sizeLine then .ok (.p (.lst ((Txt.split z b).map .str))) S2 else .bad
    | _ => .bad)
  | _ => .bad
/-! what is walked -/
def sRng1 (a : CR) : En → Store → Res Src := fun E S => (rV a E S).andThen fun d S1 => match d with
  | .int j => if -(2 ^ 62) ≤ j ∧ j < 2 ^ 62 then .ok ⟨rangeP 0 j.toNat, none⟩ S1 else .bad
  | _ => .bad
def sRng2 (a b : CR) : En → Store → Res Src := fun E S => (rV a E S).andThen fun d S1 => (rV b E S1).andThen fun d2 S2 => match d, d2 with
  | .int i, .int j => if -(2 ^ 62) ≤ i ∧ i < 2 ^ 62 ∧ -(2 ^ 62) ≤ j ∧ j < 2 ^ 62 then .ok ⟨rangeP i (j - i).toNat, none⟩ S2 else .bad
  | _, _ => .bad
def sEnum (a : CR) : En → Store → Res Src := fun E S => (rV a E S).andThen fun d S1 => match d with
  | .lst ds => .ok ⟨pairsP 0 ds, none⟩ S1
  | .tup ds => .ok ⟨pairsP 0 ds, none⟩ S1
  | _ => .bad
def sRaw (a : CR) : En → Store → Res Src := fun E S => (a E S).andThen fun w S1 => okO (srcOf S1 w) S1
def wipeI (E : En) : List Nat → En
  | [] => E
  | i :: r => (wipeI E r).set i none
def rComp (src : En → Store → Res Src) (is : List Nat) (tg : Tg) (tt : CT) (ee : CR) : En → Store → Res (List W) := fun E S => (src E S).andThen fun src S1 =>
  (if src.ws.length ≤ sizeLine then compS src (stepG tg tt ee (wipeI E is)) src.ws S1 else .bad)
def tYes : CT := fun _ S => .ok true S
def datsR (ys : List W) (S : Store) : Res W := okO ((datsOf ys).map fun ds => .p (.lst ds)) S
def rLC (c : En → Store → Res (List W)) : CR := fun E S => (c E S).andThen fun ys S1 => datsR ys S1
def fV (a : CR) : En → Store → Res Str := fun E S => (rV a E S).andThen fun d S1 => match d with
  | .str z => if z.length ≤ sizeLine then .ok z S1 else .bad
  | .int i => if i.natAbs.log2 < 1920 then .ok (toString i) S1 else .bad
  | _ => .bad
def fK (z : Str) : En → Store → Res Str := fun _ S => .ok z S
def fAll : List (En → Store → Res Str) → Str → En → Store → Res Str
  | [], acc, _, S => .ok acc S
  | e :: es, acc, E, S => (e E S).andThen fun z S1 => if (acc ++ z).length ≤ sizeLine then fAll es (acc ++ z) E S1 else .bad
def rJ1 (p : En → Store → Res Str) : CR := fun E S => (p E S).andThen fun z S1 => .ok (.p (.str z)) S1
def rJs (ps : List (En → Store → Res Str)) : CR := fun E S => (fAll ps Str.empty E S).andThen fun z S1 => .ok (.p (.str z)) S1
def rTup (es : List CR) : CR := fun E S => (rVs es E S).andThen fun ds S1 => if ds.length ≤ sizeLine then .ok (.p (.tup ds)) S1 else .bad
def rLst (es : List CR) : CR := fun E S => (rVs es E S).andThen fun ds S1 => if ds.length ≤ sizeLine then .ok (.p (.lst ds)) S1 else .bad
/-! own lists -/
def aLst (es : List CR) : CR := fun E S => (rVs es E S).andThen fun ds S1 => if ds.length ≤ sizeLine then alloc (.lst (ds.map .p)) S1 else .bad
def aLC (c : En → Store → Res (List W)) : CR := fun E S => (c E S).andThen fun ys S1 => alloc (.lst ys) S1
def aList (a : CR) : CR := fun E S => (a E S).andThen fun w S1 => match seqOf S1 w with
  | some ws => if ws.length ≤ sizeLine then alloc (.lst ws) S1 else .bad
  | none => .bad
def aCat (a b : CR) : CR := fun E S => (rV a E S).andThen fun d S1 => (rV b E S1).andThen fun d2 S2 => match d, d2 with
  | .lst xs, .lst ys => if xs.length + ys.length ≤ sizeLine then alloc (.lst ((xs ++ ys).map .p)) S2 else .bad
  | _, _ => .bad
def aSl (a : CR) (lo hi : Option CR) : CR := fun E S => (a E S).andThen fun w S1 => (rPart lo E S1).andThen fun l S2 => (rPart hi E S2).andThen fun h S3 => match isTupW w, seqOf S3 w with
  | false, some ws => alloc (.lst (cutL ws l h)) S3
  | _, _ => .bad
/-! tests -/
def tNot (a : CT) : CT := fun E S => (a E S).andThen fun c S1 => .ok (!c) S1
def tBool (op : BoolOp) : List CT → CT
  | [], _, _ => .bad
  | [a], E, S => a E S
  | a :: b :: r, E, S => (a E S).andThen fun c S1 => match c, op with
    | true, .And => tBool op (b :: r) E S1
    | false, .And => .ok false S1
    | true, .Or => .ok true S1
    | false, .Or => tBool op (b :: r) E S1
def tR (a : CR) : CT := fun E S => (a E S).andThen fun w S1 => okO (truOf S1 w) S1
/-! statements -/
def sBody : List CS → CS
  | [], E, S => .nx E S
  | a :: r, E, S => (a E S).seq fun E1 S1 => sBody r E1 S1
def sBad : CS := fun _ _ => .bad
def sNop : CS := fun E S => .nx E S
def sX (a : CR) : CS := fun E S => (a E S).thenS E fun _ S1 => .nx E S1
def nxO (o : Option En) (S : Store) : SR := match o with
  | some E1 => .nx E1 S
  | none => .bad
def sSet (i : Nat) (a : CR) : CS := fun E S => (a E S).thenS E fun w S1 => nxO (setG i w E) S1
def sSetT (is : List Nat) (a : CR) : CS := fun E S => (rV a E S).thenS E fun d S1 => nxO (bindG (.many is) (.p d) E) S1
def sPut (o i a : CR) : CS := fun E S => (rKeep a E S).thenS E fun w S1 => (o E S1).thenS E fun ow S2 => (rV i E S2).thenS E fun d S3 => match setAt S3 ow d w with
    | some S4 => .nx E S4
    | none => .bad
def sIf (t : CT) (a b : CS) : CS := fun E S => (t E S).thenS E fun k S1 => if k = true then a E S1 else b E S1
def sFor (src : En → Store → Res Src) (tg : Tg) (body : CS) : CS := fun E S => (src E S).thenS E fun src S1 => forS src tg body src.ws E S1
def sWhile (t : CT) (body : CS) : CS := fun E S => whileS t body whileMost E S
def sRet0 : CS := fun _ S => .rt (.p .non) S
def sRet (a : CR) : CS := fun E S => (a E S).thenS E fun w S1 => .rt w S1
def tryR (r : SR) (k : En → Store → SR) : RetS k := match r with
  | .nx E1 S1 => k E1 S1
  | .exc _ _ _ => .bad
  | o => o
def sTry (a b : CS) : CS := fun E S => tryR (a E S) b
def sBrk : CS := fun E S => .bk E S
def sCont : CS := fun E S => .ct E S
end Mp
end
section
set_option Elab.async false
set_option linter.all false
set_option maxRecDepth 100000
set_option autoImplicit false
/-! MpV: how the resolved readings go on, for simp. -/
namespace Mp
open PySem PySem.Spec PyProof.Rows L2
section
variable {α β : Type}
@[simp] theorem aT_ok (a : α) (S : Store) (f : α → Store → Res β) : (Res.ok a S).andThen f = f a S := id rfl
@[simp] theorem aT_bad (f : α → Store → Res β) : (Res.bad : Res α).andThen f = .bad := id rfl
@[simp] theorem aT_exc (x : Exc) (S : Store) (f : α → Store → Res β) : (Res.exc x S : Res α).andThen f = .exc x S := id rfl
@[simp] theorem tS_ok (E : En) (a : α) (S : Store) (f : α → Store → SR) : (Res.ok a S).thenS E f = f a S := id rfl
@[simp] theorem tS_bad (E : En) (f : α → Store → SR) : (Res.bad : Res α).thenS E f = .bad := id rfl
@[simp] theorem tS_exc (E : En) (x : Exc) (S : Store) (f : α → Store → SR) : (Res.exc x S : Res α).thenS E f = .exc x E S := id rfl
end
@[simp] theorem sq_nx (E : En) (S : Store) (f : En → Store → SR) : (SR.nx E S).seq f = f E S := id rfl
@[simp] theorem sq_rt (w : W) (S : Store) (f : En → Store → SR) : (SR.rt w S).seq f = .rt w S := id rfl
@[simp] theorem sq_bk (E : En) (S : Store) (f : En → Store → SR) : (SR.bk E S).seq f = .bk E S := id rfl
@[simp] theorem sq_ct (E : En) (S : Store) (f : En → Store → SR) : (SR.ct E S).seq f = .ct E S := id rfl
@[simp] theorem sq_bad (f : En → Store → SR) : SR.bad.seq f = .bad := id rfl
@[simp] theorem sq_exc (x : Exc) (E : En) (S : Store) (f : En → Store → SR) : (SR.exc x E S).seq f = .exc x E S := id rfl
@[simp] theorem tn_nx (E : En) (S : Store) (f : En → Store → SR) : (SR.nx E S).turn f = f E S := id rfl
@[simp] theorem tn_ct (E : En) (S : Store) (f : En → Store → SR) : (SR.ct E S).turn f = f E S := id rfl
@[simp] theorem tn_bk (E : En) (S : Store) (f : En → Store → SR) : (SR.bk E S).turn f = .nx E S := id rfl
@[simp] theorem tn_rt (w : W) (S : Store) (f : En → Store → SR) : (SR.rt w S).turn f = .rt w S := id rfl
@[simp] theorem tn_bad (f : En → Store → SR) : SR.bad.turn f = .bad := id rfl
@[simp] theorem tn_exc (x : Exc) (E : En) (S : Store) (f : En → Store → SR) : (SR.exc x E S).turn f = .exc x E S := id rfl
@[simp] theorem try_nx (E : En) (S : Store) (f : En → Store → SR) : tryR (.nx E S) f = f E S := id rfl
@[simp] theorem try_rt (w : W) (S : Store) (f : En → Store → SR) : tryR (.rt w S) f = .rt w S := id rfl
@[simp] theorem frzR_p (d : P) (S : Store) : frzR (.ok (.p d) S) = .ok d S := id rfl
@[simp] theorem frzR_bad : frzR .bad = .bad := id rfl
@[simp] theorem frzR_exc (x : Exc) (S : Store) : frzR (.exc x S) = .exc x S := id rfl
@[simp] theorem okO_s {α : Type} (a : α) (S : Store) : okO (some a) S = .ok a S := id rfl
@[simp] theorem okO_n {α : Type} (S : Store) : okO (none : Option α) S = .bad := id rfl
@[simp] theorem keepO_p (d : P) (S : Store) : keepO (.ok (.p d) S) = .ok (.p d) S := id rfl
@[simp] theorem keepO_bad : keepO .bad = .bad := id rfl
def onlyP (S : Store) : Res W → Res W
  | .ok w _ => (match w with
    | .p d => .ok (.p d) S
    | .o _ => .bad)
  | .exc x _ => .exc x S
  | .bad => .bad
section
variable (i : Nat) (d : P) (a b c : CR) (t : CT) (E : En) (S : Store) (op : Operator) (cop cop' : CmpOp)
@[simp] theorem x_rBad : rBad E S = .bad := id rfl
@[simp] theorem x_rL : rL i E S = okO (getE E i) S := id rfl
@[simp] theorem x_rK : rK d E S = .ok (.p d) S := id rfl
@[simp] theorem x_rV : rV a E S = frzR (a E S) := id rfl
@[simp] theorem x_rVs0 : rVs [] E S = .ok [] S := id rfl
@[simp] theorem x_rVs1 (r : List CR) : rVs (a :: r) E S = (rV a E S).andThen fun d S1 => (rVs r E S1).andThen fun ds S2 => .ok (d :: ds) S2 := id rfl
@[simp] theorem x_rBin : rBin op a b E S = (rV a E S).andThen fun d S1 => (rV b E S1).andThen fun d2 S2 => okO ((binop op d d2).map .p) S2 := id rfl
def catG : P → List CR → En → Store → Res P
  | d, [], _, S => .ok d S
  | d, b :: r, E, S => (rV b E S).andThen fun d2 S2 => (okO (binop .Add d d2) S2).andThen fun z S3 => catG z r E S3
@[simp] theorem catG_0 (d : P) : catG d [] E S = .ok d S := id rfl
@[simp] theorem catG_1 (d : P) (r : List CR) : catG d (b :: r) E S = (rV b E S).andThen fun d2 S2 => (okO (binop .Add d d2) S2).andThen fun z S3 => catG z r E S3 := id rfl
theorem rV_bin (op : Operator) : rV (rBin op a b) E S = (rV a E S).andThen fun d S1 => (rV b E S1).andThen fun d2 S2 => okO (binop op d d2) S2 := by
  show frzR ((rV a E S).andThen _) = _
  cases rV a E S with
  | bad => rfl
  | exc x S1 => rfl
  | ok d S1 =>
    show frzR ((rV b E S1).andThen _) = (rV b E S1).andThen _
    cases rV b E S1 with
    | bad => rfl
    | exc x S2 => rfl
    | ok d2 S2 =>
      show frzR (okO ((binop op d d2).map .p) S2) = okO (binop op d d2) S2
      cases binop op d d2 <;> rfl
theorem rV_cat : ∀ (r : List CR) (a : CR), rV (rCat a r) E S = (rV a E S).andThen fun d S1 => catG d r E S1
  | [], a => by
    show rV a E S = _
    cases rV a E S <;> rfl
  | b :: r, a => by
    show rV (rCat (rBin .Add a b) r) E S = _
    rw [rV_cat r, rV_bin]
    cases rV a E S with
    | bad => rfl
    | exc x S1 => rfl
    | ok d S1 =>
      simp only [aT_ok, catG]
      cases rV b E S1 <;> rfl
theorem bin_W (op : Operator) (a b : CR) : rBin op a b E S = (rV (rBin op a b) E S).andThen fun d S1 => .ok (.p d) S1 := by
  rw [rV_bin]
  show (rV a E S).andThen _ = _
  cases rV a E S with
  | bad => rfl
  | exc x S1 => rfl
  | ok d S1 =>
    simp only [aT_ok]
    cases rV b E S1 with
    | bad => rfl
    | exc x S2 => rfl
    | ok d2 S2 =>
      show okO ((binop op d d2).map W.p) S2 = (okO (binop op d d2) S2).andThen _
      cases binop op d d2 <;> rfl
theorem cat_W : ∀ (r : List CR) (a b : CR), rCat a (b :: r) E S = (rV (rCat a (b :: r)) E S).andThen fun d S1 => .ok (W.p d) S1
  | [], a, b => bin_W E S .Add a b
  | c :: r, a, b => cat_W r (rBin .Add a b) c
@[simp] theorem x_rCat (a b : CR) (r : List CR) : rCat a (b :: r) E S = ((rV a E S).andThen fun d S1 => catG d (b :: r) E S1).andThen fun d S1 => .ok (.p d) S1 := by
  rw [cat_W, rV_cat]
@[simp] theorem call_0 (ex : Bool) (call : CallT) (key : Str × Option Str) : rCall ex true call key 0 [] E S = exG ex (onlyP S (call key [] [])) := id rfl
@[simp] theorem call_1 (ex : Bool) (call : CallT) (key : Str × Option Str) : rCall ex true call key 1 [rD a] E S = (rV a E S).andThen fun d S1 => exG ex (onlyP S1 (call key [.p d] [])) := by
  simp only [rCall, rArgs, rD, andThen_assoc, aT_ok]
  rfl
@[simp] theorem call_2 (ex : Bool) (call : CallT) (key : Str × Option Str) : rCall ex true call key 2 [rD a, rD b] E S = (rV a E S).andThen fun d S1 => (rV b E S1).andThen fun d2 S2 => exG ex (onlyP S2 (call key [.p d, .p d2] [])) := by
  simp only [rCall, rArgs, rD, andThen_assoc, aT_ok]
  cases rV a E S with
  | bad => rfl
  | exc x S1 => rfl
  | ok d S1 =>
    simp only [aT_ok, andThen_assoc]
    cases rV b E S1 <;> rfl
@[simp] theorem call_3 (ex : Bool) (call : CallT) (key : Str × Option Str) : rCall ex true call key 3 [rD a, rD b, rD c] E S = (rV a E S).andThen fun d S1 => (rV b E S1).andThen fun d2 S2 => (rV c E S2).andThen fun d3 S3 => exG ex (onlyP S3 (call key [.p d, .p d2, .p d3] [])) := by
  simp only [rCall, rArgs, rD, andThen_assoc, aT_ok]
  cases rV a E S with
  | bad => rfl
  | exc x S1 => rfl
  | ok d S1 =>
    simp only [aT_ok, andThen_assoc]
    cases rV b E S1 with
    | bad => rfl
    | exc x S2 => rfl
    | ok d2 S2 =>
      simp only [aT_ok, andThen_assoc]
      cases rV c E S2 <;> rfl
@[simp] theorem x_rNot : rNot a E S = (rV a E S).andThen fun d S1 => notP d S1 := id rfl
@[simp] theorem x_rNeg : rNeg a E S = (rV a E S).andThen fun d S1 => negP d S1 := id rfl
@[simp] theorem x_notP (k : Bool) : notP (.bl k) S = .ok (.p (.bl (!k))) S := id rfl
@[simp] theorem x_negP (k : Int) : negP (.int k) S = .ok (.p (.int (-k))) S := id rfl
def bV (op : BoolOp) (d : P) (S1 : Store) (k : Store → Res P) : Res P := match d, op with
    | .bl true, .And => k S1
    | .bl false, .And => .ok (.bl false) S1
    | .bl true, .Or => .ok (.bl true) S1
    | .bl false, .Or => k S1
    | _, _ => .bad
theorem x_rBoolV1 (bo : BoolOp) : rBoolV bo [a] E S = rV a E S := id rfl
theorem x_rBoolV2 (bo : BoolOp) (r : List CR) : rBoolV bo (a :: b :: r) E S = (rV a E S).andThen fun d S1 => bV bo d S1 (rBoolV bo (b :: r) E) := id rfl
@[simp] theorem bV_at (k : Store → Res P) : bV .And (.bl true) S k = k S := id rfl
@[simp] theorem bV_af (k : Store → Res P) : bV .And (.bl false) S k = .ok (.bl false) S := id rfl
@[simp] theorem bV_ot (k : Store → Res P) : bV .Or (.bl true) S k = .ok (.bl true) S := id rfl
@[simp] theorem bV_of (k : Store → Res P) : bV .Or (.bl false) S k = k S := id rfl
theorem bV_a (k : Store → Res P) (z : Bool) : bV .And (.bl z) S k = if z = true then k S else .ok (.bl false) S := by cases z <;> rfl
theorem bV_o (k : Store → Res P) (z : Bool) : bV .Or (.bl z) S k = if z = true then .ok (.bl true) S else k S := by cases z <;> rfl
@[simp] theorem x_rBool (bo : BoolOp) (as : List CR) : rBool bo as E S = (rBoolV bo as E S).andThen fun d S1 => .ok (.p d) S1 := id rfl
@[simp] theorem x_rIf : rIf t a b E S = (t E S).andThen fun c S1 => if c = true then a E S1 else b E S1 := id rfl
@[simp] theorem x_tCmp : tCmp cop a b E S = (rV a E S).andThen fun d S1 => (rV b E S1).andThen fun d2 S2 => okO (cmpop cop d d2) S2 := id rfl
@[simp] theorem x_tIn (neg : Bool) : tIn neg a b E S = (rV a E S).andThen fun d S1 => (b E S1).andThen fun w S2 => okO (inR S2 neg d w) S2 := id rfl
def chK (cop' : CmpOp) (d2 : P) (o : Option Bool) (S2 : Store) (k : Store → Res P) : Res Bool := match o with
    | some true => (k S2).andThen fun d3 S3 => okO (cmpop cop' d2 d3) S3
    | some false => .ok false S2
    | none => .bad
@[simp] theorem x_tCh : tCh a cop b cop' c E S = (rV a E S).andThen fun d S1 => (rV b E S1).andThen fun d2 S2 => chK cop' d2 (cmpop cop d d2) S2 (rV c E) := id rfl
theorem chK_s (d2 : P) (z : Bool) (k : Store → Res P) : chK cop' d2 (some z) S k = if z = true then (k S).andThen fun d3 S3 => okO (cmpop cop' d2 d3) S3 else .ok false S := by cases z <;> rfl
@[simp] theorem x_rT : rT t E S = (t E S).andThen fun k S1 => .ok (.p (.bl k)) S1 := id rfl
@[simp] theorem x_part0 : rPart none E S = .ok none S := id rfl
def intP : P → Store → Res (Option Int)
    | .int i, S => .ok (some i) S
    | _, _ => .bad
theorem x_part1 : rPart (some a) E S = (rV a E S).andThen fun d S1 => intP d S1 := by
  show (rV a E S).andThen _ = _
  congr 1
  funext d S1
  cases d <;> rfl
@[simp] theorem x_intP (k : Int) : intP (.int k) S = .ok (some k) S := id rfl
@[simp] theorem x_rSl (lo hi : Option CR) : rSl a lo hi E S = (a E S).andThen fun w S1 => (rPart lo E S1).andThen fun l S2 => (rPart hi E S2).andThen fun h S3 => okO ((sliceR S3 w l h).map .p) S3 := id rfl
@[simp] theorem x_rIx : rIx a b E S = (a E S).andThen fun w S1 => (rV b E S1).andThen fun d S2 => okO (idxW S2 w d) S2 := id rfl
@[simp] theorem x_rD : rD a E S = (rV a E S).andThen fun d S1 => .ok (.p d) S1 := id rfl
@[simp] theorem x_args0 : rArgs [] E S = .ok [] S := id rfl
@[simp] theorem x_args1 (r : List CR) : rArgs (a :: r) E S = (a E S).andThen fun w S1 => (rArgs r E S1).andThen fun ws S2 => .ok (w :: ws) S2 := id rfl
@[simp] theorem exG_t {α : Type} (r : Res α) : exG true r = r := by cases r <;> rfl
@[simp] theorem exG_ok {α : Type} (k : Bool) (x : α) : exG k (.ok x S) = .ok x S := id rfl
theorem x_rCall (ex pu : Bool) (call : CallT) (key : Str × Option Str) (n : Nat) (as : List CR) : rCall ex pu call key n as E S = (rArgs as E S).andThen fun ws S1 => if ws.length = n then exG ex (callW call pu key ws S1) else .bad := id rfl
@[simp] theorem onlyP_ok (d : P) (S1 : Store) : onlyP S (.ok (.p d) S1) = .ok (.p d) S := id rfl
theorem x_callT (call : CallT) (key : Str × Option Str) (ws : List W) : callW call true key ws S = if ws.all isP = true then onlyP S (call key ws []) else call key ws S := id rfl
@[simp] theorem x_callF (call : CallT) (key : Str × Option Str) (ws : List W) : callW call false key ws S = call key ws S := id rfl
@[simp] theorem isP_p : isP (.p d) = true := id rfl
@[simp] theorem isP_o : isP (.o i) = false := id rfl
@[simp] theorem x_rLen : rLen a E S = (a E S).andThen fun w S1 => okO ((lenR S1 w).map .p) S1 := id rfl
@[simp] theorem x_rList : rList a E S = (a E S).andThen fun w S1 => okO ((listR S1 w).map .p) S1 := id rfl
@[simp] theorem x_rF1 (f : P → Option P) : rF1 f a E S = (rV a E S).andThen fun d S1 => okO ((f d).map .p) S1 := id rfl
@[simp] theorem x_rF2 (f : P → P → Option P) : rF2 f a b E S = (rV a E S).andThen fun d S1 => (rV b E S1).andThen fun d2 S2 => okO ((f d d2).map .p) S2 := id rfl
@[simp] theorem x_rIs (ty : String) : rIs ty a E S = (rV a E S).andThen fun d S1 => okO (((isTy ty d).map P.bl).map W.p) S1 := id rfl
@[simp] theorem x_rKeep : rKeep a E S = keepO (a E S) := id rfl
def appO (w : W) (S1 : Store) (k : Store → Res W) : Res W := match w with
  | .o id => if lstAt S1 id = true then (k S1).andThen fun y S2 => appW S2 id y else .bad
  | _ => .bad
theorem x_rApp : rApp a b E S = (a E S).andThen fun w S1 => appO w S1 (rKeep b E) := id rfl
@[simp] theorem x_appO (k : Store → Res W) : appO (.o i) S k = if lstAt S i = true then (k S).andThen fun y S2 => appW S2 i y else .bad := id rfl
def joinK (z : Str) (y : P) (S2 : Store) : Res W := match y with
    | .lst ds => (match strsOf ds with
      | some ys => if (ys.map (·.length)).sum + ys.length * z.length ≤ 16777216 then .ok (.p (.str (Txt.join z ys))) S2 else .bad
      | none => .bad)
    | _ => .bad
def joinO (d : P) (S1 : Store) (k : Store → Res P) : Res W := match d with
  | .str z => (k S1).andThen fun y S2 => joinK z y S2
  | _ => .bad
theorem x_rJoin : rJoin a b E S = (rV a E S).andThen fun d S1 => joinO d S1 (rV b E) := id rfl
@[simp] theorem x_joinO (z : Str) (k : Store → Res P) : joinO (.str z) S k = (k S).andThen fun y S2 => joinK z y S2 := id rfl
def splitK (z : Str) (y : P) (S2 : Store) : Res W := match y with
    | .str b => if (b.length == 0) = false ∧ z.length + 2 ≤ sizeLine then .ok (.p (.lst ((Txt.split z b).map .str))) S2 else .bad
    | _ => .bad
def splitO (d : P) (S1 : Store) (k : Store → Res P) : Res W := match d with
  | .str z => (k S1).andThen fun y S2 => splitK z y S2
  | _ => .bad
theorem x_rSplit : rSplit a b E S = (rV a E S).andThen fun d S1 => splitO d S1 (rV b E) := id rfl
@[simp] theorem x_splitO (z : Str) (k : Store → Res P) : splitO (.str z) S k = (k S).andThen fun y S2 => splitK z y S2 := id rfl
@[simp] theorem x_sRaw : sRaw a E S = (a E S).andThen fun w S1 => okO (srcOf S1 w) S1 := id rfl
def rngK (d : P) (S1 : Store) : Res Src := match d with
  | .int j => if -(2 ^ 62) ≤ j ∧ j < 2 ^ 62 then .ok ⟨rangeP 0 j.toNat, none⟩ S1 else .bad
  | _ => .bad
theorem x_sRng1 : sRng1 a E S = (rV a E S).andThen fun d S1 => rngK d S1 := id rfl
@[simp] theorem x_rngK (j : Int) : rngK (.int j) S = if -(2 ^ 62) ≤ j ∧ j < 2 ^ 62 then .ok ⟨rangeP 0 j.toNat, none⟩ S else .bad := id rfl
def enumK (d : P) (S1 : Store) : Res Src := match d with
  | .lst ds => .ok ⟨pairsP 0 ds, none⟩ S1
  | .tup ds => .ok ⟨pairsP 0 ds, none⟩ S1
  | _ => .bad
theorem x_sEnum : sEnum a E S = (rV a E S).andThen fun d S1 => enumK d S1 := id rfl
@[simp] theorem x_enumT (ds : List P) : enumK (.tup ds) S = .ok ⟨pairsP 0 ds, none⟩ S := id rfl
@[simp] theorem x_enumL (ds : List P) : enumK (.lst ds) S = .ok ⟨pairsP 0 ds, none⟩ S := id rfl
@[simp] theorem x_rComp (src : En → Store → Res Src) (is : List Nat) (tg : Tg) : rComp src is tg t a E S = (src E S).andThen fun src S1 => (if src.ws.length ≤ sizeLine then compS src (stepG tg t a (wipeI E is)) src.ws S1 else .bad) := id rfl
@[simp] theorem x_tYes : tYes E S = .ok true S := id rfl
@[simp] theorem x_rLC (k : En → Store → Res (List W)) : rLC k E S = (k E S).andThen fun ys S1 => datsR ys S1 := id rfl
theorem x_datsR (ys : List P) : datsR (ys.map .p) S = .ok (.p (.lst ys)) S := by unfold datsR; rw [datsOf_map]; rfl
def fP (d : P) (S1 : Store) : Res Str := match d with
  | .str z => if z.length ≤ sizeLine then .ok z S1 else .bad
  | .int i => if i.natAbs.log2 < 1920 then .ok (toString i) S1 else .bad
  | _ => .bad
theorem x_fV : fV a E S = (rV a E S).andThen fun d S1 => fP d S1 := id rfl
theorem x_fPs (z : Str) : fP (.str z) S = if z.length ≤ sizeLine then .ok z S else .bad := id rfl
theorem x_fPi (k : Int) : fP (.int k) S = if k.natAbs.log2 < 1920 then .ok (toString k) S else .bad := id rfl
@[simp] theorem x_fK (z : Str) : fK z E S = .ok z S := id rfl
@[simp] theorem x_fAll0 (acc : Str) : fAll [] acc E S = .ok acc S := id rfl
@[simp] theorem x_fAll1 (e : En → Store → Res Str) (es : List (En → Store → Res Str)) (acc : Str) : fAll (e :: es) acc E S = (e E S).andThen fun z S1 => if (acc ++ z).length ≤ sizeLine then fAll es (acc ++ z) E S1 else .bad := id rfl
@[simp] theorem x_rJ1 (p : En → Store → Res Str) : rJ1 p E S = (p E S).andThen fun z S1 => .ok (.p (.str z)) S1 := id rfl
@[simp] theorem x_rJs (ps : List (En → Store → Res Str)) : rJs ps E S = (fAll ps Str.empty E S).andThen fun z S1 => .ok (.p (.str z)) S1 := id rfl
@[simp] theorem x_rTup (es : List CR) : rTup es E S = (rVs es E S).andThen fun ds S1 => if ds.length ≤ sizeLine then .ok (.p (.tup ds)) S1 else .bad := id rfl
@[simp] theorem x_rLst (es : List CR) : rLst es E S = (rVs es E S).andThen fun ds S1 => if ds.length ≤ sizeLine then .ok (.p (.lst ds)) S1 else .bad := id rfl
@[simp] theorem x_aLst (es : List CR) : aLst es E S = (rVs es E S).andThen fun ds S1 => if ds.length ≤ sizeLine then alloc (.lst (ds.map .p)) S1 else .bad := id rfl
@[simp] theorem x_aLC (k : En → Store → Res (List W)) : aLC k E S = (k E S).andThen fun ys S1 => alloc (.lst ys) S1 := id rfl
def catK (d d2 : P) (S2 : Store) : Res W := match d, d2 with
  | .lst xs, .lst ys => if xs.length + ys.length ≤ sizeLine then alloc (.lst ((xs ++ ys).map .p)) S2 else .bad
  | _, _ => .bad
theorem x_aCat : aCat a b E S = (rV a E S).andThen fun d S1 => (rV b E S1).andThen fun d2 S2 => catK d d2 S2 := id rfl
@[simp] theorem x_catK (xs ys : List P) : catK (.lst xs) (.lst ys) S = if xs.length + ys.length ≤ sizeLine then alloc (.lst ((xs ++ ys).map .p)) S else .bad := id rfl
@[simp] theorem x_alloc (cc : Cell) : alloc cc S = .ok (.o S.length) (S ++ [cc]) := id rfl
@[simp] theorem x_tNot : tNot t E S = (t E S).andThen fun c S1 => .ok (!c) S1 := id rfl
def bT (op : BoolOp) (d : Bool) (S1 : Store) (k : Store → Res Bool) : Res Bool := match d, op with
    | true, .And => k S1
    | false, .And => .ok false S1
    | true, .Or => .ok true S1
    | false, .Or => k S1
theorem x_tBool1 (bo : BoolOp) : tBool bo [t] E S = t E S := id rfl
theorem x_tBool2 (bo : BoolOp) (t2 : CT) (r : List CT) : tBool bo (t :: t2 :: r) E S = (t E S).andThen fun d S1 => bT bo d S1 (tBool bo (t2 :: r) E) := id rfl
@[simp] theorem bT_a (k : Store → Res Bool) (z : Bool) : bT .And z S k = if z = true then k S else .ok false S := by cases z <;> rfl
@[simp] theorem bT_o (k : Store → Res Bool) (z : Bool) : bT .Or z S k = if z = true then .ok true S else k S := by cases z <;> rfl
@[simp] theorem x_tR : tR a E S = (a E S).andThen fun w S1 => okO (truOf S1 w) S1 := id rfl
@[simp] theorem x_body0 : sBody [] E S = .nx E S := id rfl
@[simp] theorem x_body1 (k : CS) (r : List CS) : sBody (k :: r) E S = (k E S).seq fun E1 S1 => sBody r E1 S1 := id rfl
@[simp] theorem x_sBad : sBad E S = .bad := id rfl
@[simp] theorem x_sNop : sNop E S = .nx E S := id rfl
@[simp] theorem x_sX : sX a E S = (a E S).thenS E fun _ S1 => .nx E S1 := id rfl
@[simp] theorem nxO_s (E1 : En) : nxO (some E1) S = .nx E1 S := id rfl
@[simp] theorem x_sSet : sSet i a E S = (a E S).thenS E fun w S1 => nxO (setG i w E) S1 := id rfl
@[simp] theorem x_sSetT (is : List Nat) : sSetT is a E S = (rV a E S).thenS E fun d S1 => nxO (bindG (.many is) (.p d) E) S1 := id rfl
@[simp] theorem bG_one (w : W) : bindG (.one i) w E = setG i w E := id rfl
@[simp] theorem bG_many (is : List Nat) (ds : List P) : bindG (.many is) (.p (.tup ds)) E = setsG is ds E := id rfl
def sEq (o : Option En) (k : En → Option En) : Option En := match o with
  | some E1 => k E1
  | none => none
@[simp] theorem sEq_s (E1 : En) (k : En → Option En) : sEq (some E1) k = k E1 := id rfl
@[simp] theorem sG_nil : setsG [] [] E = some E := id rfl
theorem sG_cons (is : List Nat) (ds : List P) : setsG (i :: is) (d :: ds) E = sEq (setG i (.p d) E) (setsG is ds) := id rfl
def putS (o : Option Store) (E : En) : SR := match o with
    | some S4 => .nx E S4
    | none => .bad
@[simp] theorem putS_s (S4 : Store) : putS (some S4) E = .nx E S4 := id rfl
theorem x_sPut : sPut a b c E S = (rKeep c E S).thenS E fun w S1 => (a E S1).thenS E fun ow S2 => (rV b E S2).thenS E fun d S3 => putS (setAt S3 ow d w) E := id rfl
@[simp] theorem x_sIf (p q : CS) : sIf t p q E S = (t E S).thenS E fun k S1 => if k = true then p E S1 else q E S1 := id rfl
@[simp] theorem x_sFor (src : En → Store → Res Src) (tg : Tg) (k : CS) : sFor src tg k E S = (src E S).thenS E fun src S1 => forS src tg k src.ws E S1 := id rfl
@[simp] theorem x_sRet0 : sRet0 E S = .rt (.p .non) S := id rfl
@[simp] theorem x_sRet : sRet a E S = (a E S).thenS E fun w S1 => .rt w S1 := id rfl
@[simp] theorem x_sTry (p q : CS) : sTry p q E S = tryR (p E S) q := id rfl
@[simp] theorem x_sBrk : sBrk E S = .bk E S := id rfl
@[simp] theorem x_sCont : sCont E S = .ct E S := id rfl
@[simp] theorem end_rt (n : Nat) (w : W) : endR n (.rt w S) = .ok w (trim n w S) := id rfl
@[simp] theorem end_nx (n : Nat) : endR n (.nx E S) = .ok (.p .non) (trim n (.p .non) S) := id rfl
@[simp] theorem trim_0 : trim 0 (.p d) S = [] := id rfl
@[simp] theorem x_wipe0 : wipeI E [] = E := id rfl
@[simp] theorem x_wipe1 (r : List Nat) : wipeI E (i :: r) = (wipeI E r).set i none := id rfl
@[simp] theorem ok_none (ws : List W) : (Src.mk ws none).ok S ↔ True := Iff.rfl
@[simp] theorem ok_some (ws : List W) : (Src.mk ws (some i)).ok S ↔ S[i]? = some (.lst ws) := Iff.rfl
end
@[simp] theorem gE_0 (a0 : Option W) (E : En) : getE (a0 :: E) 0 = a0 := by cases a0 <;> rfl
@[simp] theorem sG_0 (w : W) (a0 : Option W) (E : En) : setG 0 w (a0 :: E) = some (some w :: E) := by simp [setG]
@[simp] theorem gE_1 (a0 a1 : Option W) (E : En) : getE (a0 :: a1 :: E) 1 = a1 := by cases a1 <;> rfl
@[simp] theorem sG_1 (w : W) (a0 a1 : Option W) (E : En) : setG 1 w (a0 :: a1 :: E) = some (a0 :: some w :: E) := by simp [setG]
@[simp] theorem gE_2 (a0 a1 a2 : Option W) (E : En) : getE (a0 :: a1 :: a2 :: E) 2 = a2 := by cases a2 <;> rfl
@[simp] theorem sG_2 (w : W) (a0 a1 a2 : Option W) (E : En) : setG 2 w (a0 :: a1 :: a2 :: E) = some (a0 :: a1 :: some w :: E) := by simp [setG]
@[simp] theorem gE_3 (a0 a1 a2 a3 : Option W) (E : En) : getE (a0 :: a1 :: a2 :: a3 :: E) 3 = a3 := by cases a3 <;> rfl
@[simp] theorem sG_3 (w : W) (a0 a1 a2 a3 : Option W) (E : En) : setG 3 w (a0 :: a1 :: a2 :: a3 :: E) = some (a0 :: a1 :: a2 :: some w :: E) := by simp [setG]
@[simp] theorem gE_4 (a0 a1 a2 a3 a4 : Option W) (E : En) : getE (a0 :: a1 :: a2 :: a3 :: a4 :: E) 4 = a4 := by cases a4 <;> rfl
@[simp] theorem sG_4 (w : W) (a0 a1 a2 a3 a4 : Option W) (E : En) : setG 4 w (a0 :: a1 :: a2 :: a3 :: a4 :: E) = some (a0 :: a1 :: a2 :: a3 :: some w :: E) := by simp [setG]
@[simp] theorem gE_5 (a0 a1 a2 a3 a4 a5 : Option W) (E : En) : getE (a0 :: a1 :: a2 :: a3 :: a4 :: a5 :: E) 5 = a5 := by cases a5 <;> rfl
@[simp] theorem sG_5 (w : W) (a0 a1 a2 a3 a4 a5 : Option W) (E : En) : setG 5 w (a0 :: a1 :: a2 :: a3 :: a4 :: a5 :: E) = some (a0 :: a1 :: a2 :: a3 :: a4 :: some w :: E) := by simp [setG]
@[simp] theorem gE_6 (a0 a1 a2 a3 a4 a5 a6 : Option W) (E : En) : getE (a0 :: a1 :: a2 :: a3 :: a4 :: a5 :: a6 :: E) 6 = a6 := by cases a6 <;> rfl
@[simp] theorem sG_6 (w : W) (a0 a1 a2 a3 a4 a5 a6 : Option W) (E : En) : setG 6 w (a0 :: a1 :: a2 :: a3 :: a4 :: a5 :: a6 :: E) = some (a0 :: a1 :: a2 :: a3 :: a4 :: a5 :: some w :: E) := by simp [setG]
@[simp] theorem gE_7 (a0 a1 a2 a3 a4 a5 a6 a7 : Option W) (E : En) : getE (a0 :: a1 :: a2 :: a3 :: a4 :: a5 :: a6 :: a7 :: E) 7 = a7 := by cases a7 <;> rfl
@[simp] theorem sG_7 (w : W) (a0 a1 a2 a3 a4 a5 a6 a7 : Option W) (E : En) : setG 7 w (a0 :: a1 :: a2 :: a3 :: a4 :: a5 :: a6 :: a7 :: E) = some (a0 :: a1 :: a2 :: a3 :: a4 :: a5 :: a6 :: some w :: E) := by simp [setG]
@[simp] theorem gE_8 (a0 a1 a2 a3 a4 a5 a6 a7 a8 : Option W) (E : En) : getE (a0 :: a1 :: a2 :: a3 :: a4 :: a5 :: a6 :: a7 :: a8 :: E) 8 = a8 := by cases a8 <;> rfl
@[simp] theorem sG_8 (w : W) (a0 a1 a2 a3 a4 a5 a6 a7 a8 : Option W) (E : En) : setG 8 w (a0 :: a1 :: a2 :: a3 :: a4 :: a5 :: a6 :: a7 :: a8 :: E) = some (a0 :: a1 :: a2 :: a3 :: a4 :: a5 :: a6 :: a7 :: some w :: E) := by simp [setG]
@[simp] theorem gE_9 (a0 a1 a2 a3 a4 a5 a6 a7 a8 a9 : Option W) (E : En) : getE (a0 :: a1 :: a2 :: a3 :: a4 :: a5 :: a6 :: a7 :: a8 :: a9 :: E) 9 = a9 := by cases a9 <;> rfl
@[simp] theorem sG_9 (w : W) (a0 a1 a2 a3 a4 a5 a6 a7 a8 a9 : Option W) (E : En) : setG 9 w (a0 :: a1 :: a2 :: a3 :: a4 :: a5 :: a6 :: a7 :: a8 :: a9 :: E) = some (a0 :: a1 :: a2 :: a3 :: a4 :: a5 :: a6 :: a7 :: a8 :: some w :: E) := by simp [setG]
@[simp] theorem gE_10 (a0 a1 a2 a3 a4 a5 a6 a7 a8 a9 a10 : Option W) (E : En) : getE (a0 :: a1 :: a2 :: a3 :: a4 :: a5 :: a6 :: a7 :: a8 :: a9 :: a10 :: E) 10 = a10 := by cases a10 <;> rfl
@[simp] theorem sG_10 (w : W) (a0 a1 a2 a3 a4 a5 a6 a7 a8 a9 a10 : Option W) (E : En) : setG 10 w (a0 :: a1 :: a2 :: a3 :: a4 :: a5 :: a6 :: a7 :: a8 :: a9 :: a10 :: E) = some (a0 :: a1 :: a2 :: a3 :: a4 :: a5 :: a6 :: a7 :: a8 :: a9 :: some w :: E) := by simp [setG]
@[simp] theorem gE_11 (a0 a1 a2 a3 a4 a5 a6 a7 a8 a9 a10 a11 : Option W) (E : En) : getE (a0 :: a1 :: a2 :: a3 :: a4 :: a5 :: a6 :: a7 :: a8 :: a9 :: a10 :: a11 :: E) 11 = a11 := by cases a11 <;> rfl
@[simp] theorem sG_11 (w : W) (a0 a1 a2 a3 a4 a5 a6 a7 a8 a9 a10 a11 : Option W) (E : En) : setG 11 w (a0 :: a1 :: a2 :: a3 :: a4 :: a5 :: a6 :: a7 :: a8 :: a9 :: a10 :: a11 :: E) = some (a0 :: a1 :: a2 :: a3 :: a4 :: a5 :: a6 :: a7 :: a8 :: a9 :: a10 :: some w :: E) := by simp [setG]
end Mp
end
section
set_option Elab.async false
set_option linter.all false
set_option maxRecDepth 100000
set_option autoImplicit false
/-! MpS: texts. -/
namespace Mp
open PySem PySem.Spec PyProof.Rows L2

abbrev tlS (x : Str) : List Nat := x.cps.toList
theorem str_ext {a b : Str} (h : tlS a = tlS b) : a = b := by
  cases a; cases b
  simp only [tlS] at h
  rw [Str.mk.injEq]
  exact Array.toList_inj.mp h
theorem tlS_append (a b : Str) : tlS (a ++ b) = tlS a ++ tlS b := by
  show (a.cps ++ b.cps).toList = _
  simp
theorem join0 : ∀ ls : List Str, tlS (Str.join Str.empty ls) = ls.flatMap tlS
  | [] => rfl
  | [x] => by simp [Str.join]
  | x :: y :: r => by
    show tlS (x ++ Str.empty ++ Str.join Str.empty (y :: r)) = _
    rw [Str.append_empty, tlS_append, join0 (y :: r)]
    rfl
theorem spl_lines : ∀ ls : List Str, (∀ l ∈ ls, 10 ∉ tlS l) → TL.spl [10] 0 [] (ls.flatMap fun l => tlS l ++ [10]) = ls.map tlS ++ [[]]
  | [], _ => rfl
  | l :: ls, h => by
    have h1 := TL.spl_part1 (s := 10) (S := []) (p := tlS l) (rest := ls.flatMap fun l => tlS l ++ [10]) (acc := []) (h l List.mem_cons_self)
    rw [List.flatMap_cons, List.append_assoc]
    have h2 : TL.spl [10] 0 [] (tlS l ++ ([10] ++ ls.flatMap fun l => tlS l ++ [10])) = tlS l :: TL.spl [10] 0 [] (ls.flatMap fun l => tlS l ++ [10]) := by simpa using h1
    rw [h2, spl_lines ls fun x hx => h x (List.mem_cons_of_mem _ hx)]
    rfl
theorem kind_nl (x : Str) : ¬ Builtin.Str.strKind x < Builtin.Str.strKind ("\n" : Str) := by
  have h1 : Builtin.Str.strKind ("\n" : Str) = 1 := by decide +kernel
  rw [h1]
  unfold Builtin.Str.strKind
  split
  · decide
  · split <;> decide
theorem tl_inj : ∀ {a b : List Str}, a.map tlS = b.map tlS → a = b
  | [], [], _ => rfl
  | [], _ :: _, h => by simp at h
  | _ :: _, [], h => by simp at h
  | x :: a, y :: b, h => by
    rw [List.map_cons, List.map_cons, List.cons.injEq] at h
    rw [str_ext h.1, tl_inj h.2]
theorem nl_tl : tlS ("\n" : Str) = [10] := by decide +kernel
theorem split_lines (ls : List Str) (h : ∀ l ∈ ls, 10 ∉ tlS l) : Txt.split (Txt.join ("" : Str) (ls.map (· ++ ("\n" : Str)))) ("\n" : Str) = ls ++ [Str.empty] := by
  apply tl_inj
  have e1 := TL.split_spl (Txt.join ("" : Str) (ls.map (· ++ ("\n" : Str)))) ("\n" : Str) (by rw [show TL.tl ("\n" : Str) = [10] from nl_tl]; simp) (kind_nl _)
  have e2 : tlS (Txt.join ("" : Str) (ls.map (· ++ ("\n" : Str)))) = ls.flatMap fun l => tlS l ++ [10] := by
    show tlS (Builtin.Str.glued _ _) = _
    rw [StrLaws.glued_eq_join]
    have : (("" : Str)) = Str.empty := by decide +kernel
    rw [this, join0, List.flatMap_map]
    congr 1
    funext l
    rw [tlS_append, nl_tl]
  have e3 : (Txt.split (Txt.join ("" : Str) (ls.map (· ++ ("\n" : Str)))) ("\n" : Str)).map tlS = TL.spl [10] 0 [] (tlS (Txt.join ("" : Str) (ls.map (· ++ ("\n" : Str))))) := by
    rw [← nl_tl]; exact e1
  rw [e3, e2, spl_lines ls h, List.map_append]
  rfl
theorem cutS_app (a b : Str) : cutS (a ++ b) (some (a.length : Int)) none = b := by
  apply str_ext
  unfold cutS
  have hl : (a ++ b).length = a.length + b.length := Str.length_append a b
  have h1 : HT.sIx (a ++ b).length 0 (some (a.length : Int)) = a.length := by
    rw [HT.sIx_nat, hl]; omega
  rw [h1, HT.sIx_none]
  show (((tlS (a ++ b)).drop a.length).take _).toArray.toList = _
  rw [tlS_append, hl]
  have h2 : a.length = (tlS a).length := by simp [tlS, Str.length]
  have h3 : b.length = (tlS b).length := by simp [tlS, Str.length]
  rw [h2, List.drop_left, show (tlS a).length + b.length - (tlS a).length = b.length by omega, h3, List.take_length]
/-- a number's text -/
def iS (i : Int) : Str := toString i
theorem len_of (s : String) : (Str.ofString s).length = s.length := by
  rw [Str.ofString_eq_toList]
  simp [Str.length, String.length_toList]
@[simp] theorem len_app (a b : Str) : (a ++ b).length = a.length + b.length := Str.length_append a b
@[simp] theorem emp_app (a : Str) : Str.empty ++ a = a := Str.empty_append a
@[simp] theorem app_emp (a : Str) : a ++ Str.empty = a := Str.append_empty a
section
variable (i : Nat) (d : P) (a b c : CR) (t : CT) (E : En) (S : Store)
theorem add_s (x y : Str) (h : x.length + y.length ≤ sizeLine) : binop .Add (.str x) (.str y) = some (.str (x ++ y)) := if_pos h
theorem str_i (k : Int) (h : k.natAbs.log2 < 1920) : strR (.int k) = some (.str (iS k)) := if_pos h
theorem fP_i (k : Int) (h : k.natAbs.log2 < 1920) : fP (.int k) S = .ok (iS k) S := if_pos h
theorem fP_s (z : Str) (h : z.length ≤ sizeLine) : fP (.str z) S = .ok z S := if_pos h
theorem eq_s (x y : Str) (h1 : PyData.strOk x = true) (h2 : PyData.strOk y = true) : cmpop .Eq (.str x) (.str y) = some (x == y) := if_pos ⟨h1, h2⟩
theorem ne_s (x y : Str) (h1 : PyData.strOk x = true) (h2 : PyData.strOk y = true) : cmpop .NotEq (.str x) (.str y) = some (x != y) := if_pos ⟨h1, h2⟩
theorem eq_l (x y : P) (h1 : low 60 x = true) (h2 : low 60 y = true) : cmpop .Eq x y = some (peq x y) := if_pos ⟨h1, h2⟩
theorem ne_l (x y : P) (h1 : low 60 x = true) (h2 : low 60 y = true) : cmpop .NotEq x y = some (!peq x y) := if_pos ⟨h1, h2⟩
end
theorem strOk_app (a b : Str) (h1 : PyData.strOk a = true) (h2 : PyData.strOk b = true) : PyData.strOk (a ++ b) = true := by
  unfold PyData.strOk at *
  show (a.cps ++ b.cps).all _ = true
  rw [Array.all_append, h1, h2]
  rfl
theorem sz : sizeLine = 16777216 := rfl
/-! ### items -/
section
variable (S : Store)
theorem atI_nat {α : Type} {xs : List α} {i : Nat} {x : α} (h : xs[i]? = some x) : atI xs (i : Int) = some x := by
  obtain ⟨hi, _⟩ := List.getElem?_eq_some_iff.mp h
  unfold atI ixN
  rw [if_pos (Int.natCast_nonneg i), if_pos (by omega)]
  simpa using h
theorem idx_t {ds : List P} {i : Nat} {d : P} (h : ds[i]? = some d) : idxW S (.p (.tup ds)) (.int (i : Int)) = some (.p d) := by
  show atI (ds.map W.p) (i : Int) = _
  exact atI_nat (by rw [List.getElem?_map, h]; rfl)
theorem idx_l {ds : List P} {i : Nat} {d : P} (h : ds[i]? = some d) : idxW S (.p (.lst ds)) (.int (i : Int)) = some (.p d) := by
  show atI (ds.map W.p) (i : Int) = _
  exact atI_nat (by rw [List.getElem?_map, h]; rfl)
theorem idx_f {ds : List P} {i : Nat} {d : P} (h : ds[i]? = some d) : idxW S (.p (.fro ds)) (.int (i : Int)) = some (.p d) := by
  show atI (ds.map W.p) (i : Int) = _
  exact atI_nat (by rw [List.getElem?_map, h]; rfl)
theorem idx_o {ws : List W} {i id : Nat} {w : W} (hc : S[id]? = some (.lst ws)) (h : ws[i]? = some w) : idxW S (.o id) (.int (i : Int)) = some w := by
  have : seqOf S (.o id) = some ws := by simp [seqOf, hc]
  unfold idxW
  rw [this]
  exact atI_nat h
@[simp] theorem idx_t0 (d0 : P) (ds : List P) : idxW S (.p (.tup (d0 :: ds))) (.int 0) = some (.p d0) := idx_t S (i := 0) rfl
@[simp] theorem idx_t1 (d0 d1 : P) (ds : List P) : idxW S (.p (.tup (d0 :: d1 :: ds))) (.int 1) = some (.p d1) := idx_t S (i := 1) rfl
@[simp] theorem idx_t2 (d0 d1 d2 : P) (ds : List P) : idxW S (.p (.tup (d0 :: d1 :: d2 :: ds))) (.int 2) = some (.p d2) := idx_t S (i := 2) rfl
@[simp] theorem idx_t3 (d0 d1 d2 d3 : P) (ds : List P) : idxW S (.p (.tup (d0 :: d1 :: d2 :: d3 :: ds))) (.int 3) = some (.p d3) := idx_t S (i := 3) rfl
@[simp] theorem idx_t4 (d0 d1 d2 d3 d4 : P) (ds : List P) : idxW S (.p (.tup (d0 :: d1 :: d2 :: d3 :: d4 :: ds))) (.int 4) = some (.p d4) := idx_t S (i := 4) rfl
@[simp] theorem idx_l0 (d0 : P) (ds : List P) : idxW S (.p (.lst (d0 :: ds))) (.int 0) = some (.p d0) := idx_l S (i := 0) rfl
@[simp] theorem idx_l1 (d0 d1 : P) (ds : List P) : idxW S (.p (.lst (d0 :: d1 :: ds))) (.int 1) = some (.p d1) := idx_l S (i := 1) rfl
end
@[simp] theorem src_t (S : Store) (ds : List P) : srcOf S (.p (.tup ds)) = some ⟨ds.map .p, none⟩ := id rfl
@[simp] theorem src_l (S : Store) (ds : List P) : srcOf S (.p (.lst ds)) = some ⟨ds.map .p, none⟩ := id rfl
@[simp] theorem lenR_t (S : Store) (ds : List P) : lenR S (.p (.tup ds)) = some (.int (ds.length : Int)) := by
  show some (P.int ((ds.map W.p).length : Int)) = _
  rw [List.length_map]
@[simp] theorem lenR_l (S : Store) (ds : List P) : lenR S (.p (.lst ds)) = some (.int (ds.length : Int)) := by
  show some (P.int ((ds.map W.p).length : Int)) = _
  rw [List.length_map]
@[simp] theorem lenR_f (S : Store) (ds : List P) : lenR S (.p (.fro ds)) = some (.int (ds.length : Int)) := by
  show some (P.int ((ds.map W.p).length : Int)) = _
  rw [List.length_map]
theorem lenR_s (S : Store) (z : Str) (h : z.length ≤ sizeLine) : lenR S (.p (.str z)) = some (.int (z.length : Int)) := by
  show (if z.length ≤ sizeLine then _ else none) = _
  rw [if_pos h]
theorem lenR_o (S : Store) {id : Nat} {ws : List W} (hc : S[id]? = some (.lst ws)) : lenR S (.o id) = some (.int (ws.length : Int)) := by
  have : seqOf S (.o id) = some ws := by simp [seqOf, hc]
  unfold lenR
  rw [this]
/-- items one by one, nothing changed -/
theorem compS_map {α : Type} {src : Src} {step : W → Store → Res (Option W)} {S : Store} {f g : α → W} (hs : src.ok S) : ∀ (xs : List α), (∀ a ∈ xs, step (f a) S = .ok (some (g a)) S) → compS src step (xs.map f) S = .ok (xs.map g) S
  | [], _ => by
    show (if src.ok S then _ else _) = _
    rw [if_pos hs]; rfl
  | x :: xs, h => by
    show (if src.ok S then (step (f x) S).andThen _ else _) = _
    rw [if_pos hs, h x List.mem_cons_self, aT_ok, compS_map hs xs fun a ha => h a (List.mem_cons_of_mem _ ha)]
    rfl
theorem compS_mapN {α : Type} {ws : List W} {step : W → Store → Res (Option W)} {S : Store} {f g : α → W} (xs : List α) (h : ∀ a ∈ xs, step (f a) S = .ok (some (g a)) S) : compS ⟨ws, none⟩ step (xs.map f) S = .ok (xs.map g) S := compS_map (src := ⟨ws, none⟩) trivial xs h
/-- .. with a test -/
theorem compS_flt {α : Type} {src : Src} {step : W → Store → Res (Option W)} {S : Store} {f g : α → W} {p : α → Bool} (hs : src.ok S) : ∀ (xs : List α), (∀ a ∈ xs, step (f a) S = .ok (if p a = true then some (g a) else none) S) → compS src step (xs.map f) S = .ok ((xs.filter p).map g) S
  | [], _ => by
    show (if src.ok S then _ else _) = _
    rw [if_pos hs]; rfl
  | x :: xs, h => by
    show (if src.ok S then (step (f x) S).andThen _ else _) = _
    rw [if_pos hs, h x List.mem_cons_self, aT_ok, compS_flt hs xs fun a ha => h a (List.mem_cons_of_mem _ ha)]
    show Res.ok (consO (if p x = true then some (g x) else none) ((xs.filter p).map g)) S = _
    rw [List.filter_cons]
    cases p x <;> rfl
@[simp] theorem datsR_nil (S : Store) : datsR [] S = .ok (.p (.lst [])) S := id rfl
theorem strsOf_map : ∀ ys : List Str, strsOf (ys.map P.str) = some ys
  | [] => rfl
  | y :: ys => by
    show (strsOf (ys.map P.str)).map (y :: ·) = _
    rw [strsOf_map ys]; rfl
theorem joinK_s (S : Store) (z : Str) (ys : List Str) (h : (ys.map (·.length)).sum + ys.length * z.length ≤ 16777216) : joinK z (.lst (ys.map P.str)) S = .ok (.p (.str (Txt.join z ys))) S := by
  unfold joinK
  dsimp only
  rw [strsOf_map]
  exact if_pos h
theorem sum_le {B : Nat} : ∀ {ys : List Nat}, (∀ y ∈ ys, y ≤ B) → ys.sum ≤ ys.length * B
  | [], _ => by simp
  | y :: ys, h => by
    have h1 := h y List.mem_cons_self
    have h2 := sum_le fun z hz => h z (List.mem_cons_of_mem _ hz)
    rw [List.sum_cons, List.length_cons, Nat.succ_mul]
    omega
theorem joinK_le (S : Store) (z : Str) (ys : List Str) (B n : Nat) (h : ∀ y ∈ ys, y.length ≤ B) (hn : ys.length ≤ n) (hz : n * B + n * z.length ≤ 16777216) : joinK z (.lst (ys.map P.str)) S = .ok (.p (.str (Txt.join z ys))) S := by
  refine joinK_s S z ys ?_
  have h1 := sum_le (ys := ys.map (·.length)) (B := B) (by simpa using h)
  rw [List.length_map] at h1
  have h2 := Nat.mul_le_mul_right B hn
  have h3 := Nat.mul_le_mul_right z.length hn
  omega
theorem join_len (z : Str) (ys : List Str) (B n : Nat) (h : ∀ y ∈ ys, y.length ≤ B) (hn : ys.length ≤ n) : (Txt.join z ys).length ≤ n * B + n * z.length := by
  have h0 := StrLaws.join_length_le z ys
  have h1 := sum_le (ys := ys.map (·.length)) (B := B) (by simpa using h)
  rw [List.length_map] at h1
  have h2 := Nat.mul_le_mul_right B hn
  have h3 := Nat.mul_le_mul_right z.length hn
  show (Builtin.Str.glued z ys).length ≤ _
  rw [StrLaws.glued_eq_join]
  omega
theorem datsR_m {α : Type} (S : Store) (xs : List α) (h : α → P) : datsR (xs.map fun a => W.p (h a)) S = .ok (.p (.lst (xs.map h))) S := by
  have : (xs.map fun a => W.p (h a)) = (xs.map h).map W.p := by rw [List.map_map]; rfl
  rw [this, x_datsR]
theorem joinK_m {α : Type} (S : Store) (z : Str) (xs : List α) (h : α → Str) (B n : Nat) (hb : ∀ a ∈ xs, (h a).length ≤ B) (hn : xs.length ≤ n) (hz : n * B + n * z.length ≤ 16777216) : joinK z (.lst (xs.map fun a => P.str (h a))) S = .ok (.p (.str (Txt.join z (xs.map h)))) S := by
  have : (xs.map fun a => P.str (h a)) = (xs.map h).map P.str := by rw [List.map_map]; rfl
  rw [this]
  refine joinK_le S z _ B n (fun y hy => ?_) (by rw [List.length_map]; exact hn) hz
  obtain ⟨a, ha, rfl⟩ := List.mem_map.mp hy
  exact hb a ha
/-! ### what counts as true -/
@[simp] theorem tru_t (S : Store) (ds : List P) : truOf S (.p (.tup ds)) = some (!ds.isEmpty) := by
  show some (!(ds.map W.p).isEmpty) = _
  rw [List.isEmpty_map]
@[simp] theorem tru_l (S : Store) (ds : List P) : truOf S (.p (.lst ds)) = some (!ds.isEmpty) := by
  show some (!(ds.map W.p).isEmpty) = _
  rw [List.isEmpty_map]
@[simp] theorem tru_n (S : Store) : truOf S (.p .non) = some false := id rfl
@[simp] theorem tru_b (S : Store) (b : Bool) : truOf S (.p (.bl b)) = some b := id rfl
@[simp] theorem tru_i (S : Store) (i : Int) : truOf S (.p (.int i)) = some (i != 0) := id rfl
theorem add_l (xs ys : List P) (h : xs.length + ys.length ≤ sizeLine) : binop .Add (.lst xs) (.lst ys) = some (.lst (xs ++ ys)) := if_pos h
theorem sl_s (S : Store) (z : Str) (lo hi : Option Int) (h : z.length ≤ sizeLine) : sliceR S (.p (.str z)) lo hi = some (.str (cutS z lo hi)) := if_pos h
theorem splitK_s (S : Store) (z b : Str) (h1 : (b.length == 0) = false) (h2 : z.length + 2 ≤ sizeLine) : splitK z (.str b) S = .ok (.p (.lst ((Txt.split z b).map .str))) S := if_pos ⟨h1, h2⟩
theorem pairs_from : ∀ (ds : List P) (i : Nat), pairsP i ds = (ds.zipIdx i).map fun a => W.p (.tup [.int (a.2 : Int), a.1])
  | [], _ => rfl
  | d :: ds, i => by
    rw [pairsP, pairs_from ds (i + 1)]
    rfl
theorem pairs_zip (ds : List P) : pairsP 0 ds = ds.zipIdx.map fun a => W.p (.tup [.int (a.2 : Int), a.1]) := pairs_from ds 0
/-! ### comparisons -/
@[simp] theorem lt_i (i j : Int) : cmpop .Lt (.int i) (.int j) = some (decide (i < j)) := id rfl
@[simp] theorem le_i (i j : Int) : cmpop .LtE (.int i) (.int j) = some (decide (i ≤ j)) := id rfl
@[simp] theorem gt_i (i j : Int) : cmpop .Gt (.int i) (.int j) = some (decide (j < i)) := id rfl
@[simp] theorem ge_i (i j : Int) : cmpop .GtE (.int i) (.int j) = some (decide (j ≤ i)) := id rfl
@[simp] theorem eq_i (i j : Int) : cmpop .Eq (.int i) (.int j) = some (i == j) := id rfl
@[simp] theorem ne_i (i j : Int) : cmpop .NotEq (.int i) (.int j) = some (i != j) := id rfl
@[simp] theorem is_nn : cmpop .Is .non .non = some true := id rfl
@[simp] theorem is_in (i : Int) : cmpop .Is (.int i) .non = some false := id rfl
@[simp] theorem is_sn (z : Str) : cmpop .Is (.str z) .non = some false := id rfl
@[simp] theorem is_tn (ds : List P) : cmpop .Is (.tup ds) .non = some false := id rfl
@[simp] theorem is_ln (ds : List P) : cmpop .Is (.lst ds) .non = some false := id rfl
@[simp] theorem is_bn (b : Bool) : cmpop .Is (.bl b) .non = some false := id rfl
@[simp] theorem no_nn : cmpop .IsNot .non .non = some false := id rfl
@[simp] theorem no_in (i : Int) : cmpop .IsNot (.int i) .non = some true := id rfl
@[simp] theorem no_sn (z : Str) : cmpop .IsNot (.str z) .non = some true := id rfl
@[simp] theorem no_tn (ds : List P) : cmpop .IsNot (.tup ds) .non = some true := id rfl
@[simp] theorem no_ln (ds : List P) : cmpop .IsNot (.lst ds) .non = some true := id rfl
@[simp] theorem no_bn (b : Bool) : cmpop .IsNot (.bl b) .non = some true := id rfl
@[simp] theorem add_i (i j : Int) : binop .Add (.int i) (.int j) = some (.int (i + j)) := id rfl
@[simp] theorem sub_i (i j : Int) : binop .Sub (.int i) (.int j) = some (.int (i - j)) := id rfl
end Mp
end
section
set_option Elab.async false
set_option linter.all false
set_option maxRecDepth 100000
set_option autoImplicit false
set_option maxHeartbeats 1000000
/-! MpW: the head: what the run of the module's top leaves is what the reading takes for granted. -/
namespace Mp
open PySem PySem.Spec PyProof.Rows L2

/-! ### constants -/
mutual
def pB (K : PySem.W.Frag) : P → Value → Bool
  | .non, .none => true
  | .bl b, .bool c => b == c
  | .int i, .int j _ => decide (i = j)
  | .str x, .str y _ => decide (x = y)
  | .tup ds, .ref a => (match K.lookup a with
    | some ⟨.type c, _, .seq its _, _⟩ => decide (c = "tuple") && (decide (its.size ≤ sizeLine) && pBL K ds its.toList)
    | _ => false)
  | _, _ => false
def pBL (K : PySem.W.Frag) : List P → List Value → Bool
  | [], [] => true
  | d :: ds, u :: us => pB K d u && pBL K ds us
  | _, _ => false
end
section
variable {F : Fx}
mutual
theorem pB_ok : ∀ {d : P} {u : Value}, pB F.K d u = true → ∃ v, RelV v u ∧ ∀ G, Is F G d v
  | .non, u, h => by
    cases u <;> first | exact ⟨.non, rfl, fun _ => by simp [Is]⟩ | (simp [pB] at h)
  | .bl b, u, h => by
    cases u <;> first | (simp [pB] at h; done) | skip
    rename_i c
    have e : b = c := by simpa [pB] using h
    exact ⟨.bl b, by rw [e]; rfl, fun _ => by simp [Is]⟩
  | .int i, u, h => by
    cases u <;> first | (simp [pB] at h; done) | skip
    rename_i c t
    have e : i = c := by simpa [pB] using h
    exact ⟨.int i, ⟨t, by rw [e]⟩, fun _ => by simp [Is]⟩
  | .str i, u, h => by
    cases u <;> first | (simp [pB] at h; done) | skip
    rename_i c t
    have e : i = c := by simpa [pB] using h
    exact ⟨.str i, ⟨t, by rw [e]⟩, fun _ => by simp [Is]⟩
  | .tup ds, u, h => by
    cases u <;> first | (simp [pB] at h; done) | skip
    rename_i a
    unfold pB at h
    cases q : F.K.lookup a with
    | none => rw [q] at h; cases h
    | some o =>
      obtain ⟨oc, od, dt, osl⟩ := o
      rw [q] at h
      cases oc with
      | type c =>
        cases dt with
        | seq its n =>
          obtain ⟨h1, h2⟩ := He.ba (show (decide (c = "tuple") && (decide (its.size ≤ sizeLine) && pBL F.K ds its.toList)) = true from h)
          obtain ⟨h3, h4⟩ := He.ba h2
          obtain ⟨vs, hv, hi⟩ := pBL_ok h4
          refine ⟨.ref a, rfl, fun G => ?_⟩
          rw [Is]
          exact ⟨a, vs, rfl, .inr ⟨_, its, n, q, congrArg Value.type (of_decide_eq_true h1), rfl, of_decide_eq_true h3, hv⟩, hi G⟩
        | _ => cases h
      | _ => cases dt <;> cases h
  | .lst ds, u, h => by cases u <;> simp [pB] at h
  | .fro ds, u, h => by cases u <;> simp [pB] at h
  | .dic ks ds, u, h => by cases u <;> simp [pB] at h
theorem pBL_ok : ∀ {ds : List P} {us : List Value}, pBL F.K ds us = true → ∃ vs, Vals vs us ∧ ∀ G, IsL F G ds vs
  | [], [], _ => ⟨[], .nil, fun G => by simp [IsL]⟩
  | [], _ :: _, h => by simp [pBL] at h
  | _ :: _, [], h => by simp [pBL] at h
  | d :: ds, u :: us, h => by
    unfold pBL at h
    obtain ⟨h1, h2⟩ := He.ba h
    obtain ⟨v, r, i⟩ := pB_ok h1
    obtain ⟨vs, rs, is⟩ := pBL_ok h2
    exact ⟨v :: vs, .cons r rs, fun G => by rw [IsL]; exact ⟨v, vs, rfl, i G, is G⟩⟩
end
end

/-! ### what is looked at -/
def fnsD (cf : Cf) : List He.DefD := cf.fns.map fun f => ⟨f.key, f.key.1, f.qual, defArgs f.st, defBody f.st, defScope f.st, [], []⟩
def facts (cf : Cf) : List He.Fa := (cf.fns.map fun f => .glo f.key.1) ++ (bNames.map .free) ++ (cf.tabs.map fun t => .glo t.1)
def tsD (cf : Cf) : List He.Tab := cf.tabs.map fun t => (fun K => He.ga K t.1, t.2.map (·.1))
def nsB (K : PySem.W.Frag) (a : Addr) (q : Str × P) : Bool := match PySem.W.nsIn K a q.1 with
  | some (some u) => pB K q.2 u
  | _ => false
def exD (cf : Cf) (K : PySem.W.Frag) : Bool := (cf.globs.all fun q => nsB K mainGlobals q) && cf.tabs.all fun t => t.2.all fun q => nsB K (He.ga K t.1) q
theorem nsB_ok {F : Fx} {a : Addr} {q : Str × P} (h : nsB F.K a q = true) : ∃ u v, PySem.W.nsIn F.K a q.1 = some (some u) ∧ RelV v u ∧ ∀ G, Is F G q.2 v := by
  unfold nsB at h
  cases e : PySem.W.nsIn F.K a q.1 with
  | none => rw [e] at h; cases h
  | some r =>
    rw [e] at h
    cases r with
    | none => cases h
    | some u =>
      obtain ⟨v, h1, h2⟩ := pB_ok h
      exact ⟨u, v, rfl, h1, h2⟩
theorem lookup_mem' {α : Type} {x : Str} {d : α} : ∀ {l : List (Str × α)}, l.lookup x = some d → (x, d) ∈ l
  | [], h => by cases h
  | (y, e) :: r, h => by
    rw [List.lookup_cons] at h
    cases q : x == y with
    | true =>
      rw [q] at h
      cases h
      rw [beq_iff_eq.mp q]
      exact List.mem_cons_self
    | false =>
      rw [q] at h
      exact List.mem_cons_of_mem _ (lookup_mem' h)
abbrev hookOf (cf : Cf) : PySem.W.Hook := He.hookX 4 (facts cf) (fnsD cf) (tsD cf) [] (exD cf)
section
variable {F : Fx} {cf : Cf} {h : Heap}
theorem cfOk_of (X : F.K.In h) (G : h.Ns mainGlobals F.mg) (c : He.SaysX (facts cf) (fnsD cf) (tsD cf) [] (exD cf) F.w h F.K) : CfOk F cf where
  globs := fun x d e => by
    have h1 := (He.ba c.more).1
    obtain ⟨u, v, e1, r, i⟩ := nsB_ok (F := F) (List.all_eq_true.mp h1 _ (lookup_mem' e))
    exact ⟨u, v, PySem.W.mg_of X G e1, r, i⟩
  tabs := fun x kvs e => by
    have hm := lookup_mem' e
    have h2 := List.all_eq_true.mp (He.ba c.more).2 _ hm
    have hg : (He.Fa.glo x).ok F.K = true := He.SaysD.facts c.t.d (by
      unfold facts
      exact List.mem_append_right _ (List.mem_map.mpr ⟨_, hm, rfl⟩))
    obtain ⟨i, hi, ei⟩ := List.mem_iff_getElem.mp (show ((fun K => He.ga K x, kvs.map (·.1)) : He.Tab) ∈ tsD cf from List.mem_map.mpr ⟨_, hm, rfl⟩)
    obtain ⟨es, n, D⟩ := c.t.tab i (t := (fun K => He.ga K x, kvs.map (·.1))) (by rw [List.getElem?_eq_getElem hi, ei])
    refine ⟨He.ga F.K x, He.glo_ok X G hg, fun z d ez => ?_⟩
    obtain ⟨u, v, e1, r, i⟩ := nsB_ok (F := F) (List.all_eq_true.mp h2 _ (lookup_mem' ez))
    exact ⟨v, ⟨es, n, u, D.at_, D.lit, e1, r⟩, i⟩
  free := fun x hx => He.free_ok X G (He.SaysD.facts c.t.d (by
    unfold facts
    exact List.mem_append_left _ (List.mem_append_right _ (List.mem_map.mpr ⟨_, hx, rfl⟩))))
/-- a def's scope and its binding of arguments -/
def scB (f : Fn) : Bool := decide ((defScope f.st).kind = .function) && (!(defScope f.st).isCoroutine && (!(defScope f.st).isGenerator && (decide f.N.Nodup && (decide (f.N.take f.ps.length = f.ps) && ((f.ps.all fun x => decide ((defScope f.st).names.lookup x = some .local) || decide ((defScope f.st).names.lookup x = some .cell)) && ((defScope f.st).names.all fun y => decide (y.2 ≠ .free)))))))
theorem scB_ok {f : Fn} (h : scB f = true) : FnScope f.N f.ps (defScope f.st) := by
  unfold scB at h
  simp only [Bool.and_eq_true, decide_eq_true_eq, Bool.not_eq_true', List.all_eq_true, Bool.or_eq_true] at h
  exact ⟨h.1, h.2.1, h.2.2.1, h.2.2.2.1, h.2.2.2.2.1, h.2.2.2.2.2.1, h.2.2.2.2.2.2⟩
def BindOk (f : Fn) : Prop := ∀ (kV doc pm : Value) (an : Option Addr) (cdv ct : Value) (us : List Value), us.length = f.ps.length → bindArgs (PySem.W.fnOf f.key.1 f.qual (defArgs f.st) (defBody f.st) (defScope f.st) .none kV doc pm an cdv ct) ⟨us, []⟩ = pure (f.ps.zip us)
def AllF (p : Fn → Prop) : List Fn → Prop
  | [] => True
  | f :: r => p f ∧ AllF p r
theorem AllF.mem {p : Fn → Prop} : ∀ {l : List Fn} {f : Fn}, AllF p l → f ∈ l → p f
  | _ :: _, _, h, .head _ => h.1
  | _ :: _, _, h, .tail _ m => h.2.mem m
theorem fnsOk_of (X : F.K.In h) (G : h.Ns mainGlobals F.mg) (c : He.SaysX (facts cf) (fnsD cf) (tsD cf) [] (exD cf) F.w h F.K) (hs : (cf.fns.all scB) = true) (hb : AllF BindOk cf.fns) : FnsOk F cf := ⟨fun x f e => by
  have hm := List.mem_of_find?_eq_some e
  have hk : f.key = (x, none) := by simpa using List.find?_some e
  have hk1 : f.key.1 = x := congrArg Prod.fst hk
  have hk2 : f.key.2 = none := congrArg Prod.snd hk
  obtain ⟨fd, FD⟩ := He.SaysD.defs c.t.d (d := ⟨f.key, f.key.1, f.qual, defArgs f.st, defBody f.st, defScope f.st, [], []⟩) (List.mem_map.mpr ⟨f, hm, rfl⟩)
  have ha : He.fAd F.K f.key = He.ga F.K x := by rw [hk]; rfl
  have hg : (He.Fa.glo x).ok F.K = true := He.SaysD.facts c.t.d (by
    unfold facts
    exact List.mem_append_left _ (List.mem_append_left _ (List.mem_map.mpr ⟨_, hm, by rw [hk1]⟩)))
  have FD' : FunD F.K x f.qual (defArgs f.st) (defBody f.st) (defScope f.st) [] [] (He.ga F.K x) fd := by
    rw [← ha]
    rw [← hk1]
    exact FD
  exact ⟨_, fd, He.glo_ok X G hg, FunD.bindsN FD' (by rw [← hk1]; exact hb.mem hm), FD', scB_ok (List.all_eq_true.mp hs _ hm)⟩⟩
end
/-- the end of a law whose defs may let exceptions out -/
theorem walk_w {l : PySem.W.OpenLaw} {n k : Nat} {q : Program} {lo : List Str} {U : (Str → Option Value) → Heap → Prop} {Yp : World → Heap → Prop} {d : DefRec} {x : Str} {cx : World → CXT}
    (hn : l.most = some n) (hle : n ≤ sizeLine) (hd : d.params.defaults = []) (room : Room k callerA)
    (tells : ∀ (w : World) (mg : Str → Option Value) (b : Addr) (h : Heap), Yp w h → h.Ns mainGlobals mg → mg d.name = some (.ref b) →
      ∃ (K : PySem.W.Frag) (fd : FuncData) (sp : Sp), K.In h ∧ (∀ (s : Shared) (u : Value), BindsTo s fd ⟨[u], []⟩ [(x, u)]) ∧
        (∀ (H : Hp) (a : Addr) (ns : List Int), ns.length ≤ n → SqL K H a (ns.map V.int) → sp [.ref a] H (fun v _ => v = .bl true) fun _ _ _ => False) ∧
        ∀ base : Heap, FnOk l.prog w K mg base (cx w) k b fd [x] sp)
    (quiet : ∀ (w : World) (H : Hp) (s : Shared) (e : Value) (s' : Shared), cx w [] H s (fun _ _ _ => False) e s' → False) :
    PySem.W.WalkO q lo U Yp l.row.toRowW d [] (fun f vs => PySem.call f vs) := by
  refine Att.attach_call hn hd fun w sA sB mg mb b o pm cd doc a vs ns gr y ho hdd hcd hmg hob hin hlen hg => ?_
  obtain ⟨K, fd, sp, kx, hb, hsp, hf⟩ := tells w mg b _ y gr.T.g hmg
  refine law_call kx gr.T.g gr.T.b gr.T.builtins gr.T.nolimit hg hob hin (Nat.le_trans hlen hle) room (fun base _ _ => hf base) hb (fun H _ hS => hsp H a ns hlen hS) fun H e s' z => ?_
  exact quiet w H sB e s' z
end Mp
end
section
set_option Elab.async false
set_option linter.all false
set_option maxRecDepth 1000000
set_option autoImplicit false
namespace T
open PySem PySem.Spec PyProof.Rows L2 Mp
def top (i : Nat) : Stmt := PySem.Challenge.pw_tidehold_k93_outlines.main.body.getD i (.Pass ⟨0, 0, 0, 0⟩)
def fns : List Fn := [
  ⟨("parts_of", none), "parts_of", ["expression"], ["expression"], top 5, [], [false], false⟩,
  ⟨("type_of_value", none), "type_of_value", ["value"], ["value"], top 7, [], [false], false⟩,
  ⟨("column_index", none), "column_index", ["fields", "name"], ["fields", "name", "index", "field"], top 8, [], [false, false], false⟩,
  ⟨("agree", none), "agree", ["first", "second"], ["first", "second"], top 10, [], [false, false], false⟩,
  ⟨("want", none), "want", ["types", "wanted"], ["types", "wanted", "found"], top 11, [], [false, false], false⟩,
  ⟨("type_of_binary", none), "type_of_binary", ["sign", "types"], ["sign", "types"], top 12, [], [false, false], false⟩,
  ⟨("type_of", none), "type_of", ["expression", "fields"], ["expression", "fields", "word", "index", "types", "part"], top 13, [], [false, false], false⟩,
  ⟨("sides_of", none), "sides_of", ["operator"], ["operator"], top 17, [], [false], false⟩,
  ⟨("type_in", none), "type_in", ["fields", "name"], ["fields", "name", "index"], top 18, [], [false, false], false⟩,
  ⟨("differ", none), "differ", [], [], top 19, [], [], false⟩,
  ⟨("aggregate_type", none), "aggregate_type", ["word", "column", "fields"], ["word", "column", "fields", "found"], top 20, [], [false, false, false], false⟩,
  ⟨("check_columns", none), "check_columns", ["operator", "fields"], ["operator", "fields", "word", "name", "way", "first", "second", "aggregate", "column"], top 21, [], [false, false], false⟩,
  ⟨("check_pairs", none), "check_pairs", ["pairs", "fields"], ["pairs", "fields", "first", "second"], top 22, [], [false, false], false⟩,
  ⟨("mapped", none), "mapped", ["to", "fields"], ["to", "fields", "found", "name", "expression", "kind"], top 23, ["found"], [false, false], false⟩,
  ⟨("with_aggregates", none), "with_aggregates", ["operator", "fields"], ["operator", "fields", "found", "name", "word", "column"], top 24, ["found"], [false, false], false⟩,
  ⟨("output_fields", none), "output_fields", ["operator", "fields"], ["operator", "fields", "word", "name", "kind"], top 25, [], [false, false], false⟩,
  ⟨("check_kinds", none), "check_kinds", ["operator", "kinds"], ["operator", "kinds", "word", "wanted", "kind"], top 26, [], [false, false], false⟩,
  ⟨("output_kind", none), "output_kind", ["operator", "kinds"], ["operator", "kinds", "word"], top 27, [], [false, false], false⟩,
  ⟨("check_operator", none), "check_operator", ["operator", "inputs"], ["operator", "inputs", "fields", "side", "kinds", "found", "names", "name", "kind"], top 28, ["names"], [false, false], false⟩,
  ⟨("check_inputs", none), "check_inputs", ["plan", "number"], ["plan", "number", "operator", "inputs", "sides", "right", "other"], top 31, [], [false, false], false⟩,
  ⟨("output_of", none), "output_of", ["plan", "number", "outputs"], ["plan", "number", "outputs", "operator", "inputs", "other", "earlier", "error"], top 32, [], [false, false, true], false⟩,
  ⟨("fields_of", none), "fields_of", ["plan"], ["plan", "outputs", "number"], top 33, ["outputs"], [false], false⟩,
  ⟨("write_name", none), "write_name", ["name"], ["name"], top 45, [], [false], false⟩,
  ⟨("write_value", none), "write_value", ["value"], ["value"], top 46, [], [false], false⟩,
  ⟨("level_of", none), "level_of", ["expression"], ["expression"], top 47, [], [false], false⟩,
  ⟨("write_within", none), "write_within", ["expression", "level"], ["expression", "level", "text"], top 48, [], [false, false], false⟩,
  ⟨("write_expression", none), "write_expression", ["expression"], ["expression", "level", "left", "parts", "part"], top 49, [], [false], false⟩,
  ⟨("write_names", none), "write_names", ["names"], ["names", "name"], top 51, [], [false], false⟩,
  ⟨("write_by", none), "write_by", ["keys"], ["keys"], top 52, [], [false], false⟩,
  ⟨("write_aggregate", none), "write_aggregate", ["agg"], ["agg", "text"], top 53, [], [false], false⟩,
  ⟨("write_with", none), "write_with", ["aggs"], ["aggs", "agg"], top 54, [], [false], false⟩,
  ⟨("write_on", none), "write_on", ["on"], ["on", "left", "right"], top 55, [], [false], false⟩,
  ⟨("write_window", none), "write_window", ["window"], ["window"], top 56, [], [false], false⟩,
  ⟨("write_rest", none), "write_rest", ["operator"], ["operator", "word", "fields", "name", "kind", "part", "order", "way"], top 57, [], [false], false⟩,
  ⟨("node_name", none), "node_name", ["number"], ["number"], top 58, [], [false], false⟩,
  ⟨("format_node", none), "format_node", ["number", "node"], ["number", "node", "operator", "inputs", "text", "other"], top 59, [], [false, false], false⟩,
  ⟨("format_plan", none), "format_plan", ["plan"], ["plan", "number", "node"], top 60, [], [false], false⟩,
  ⟨("describe", none), "describe", ["plan", "number", "kinds"], ["plan", "number", "kinds", "operator", "fields", "kind", "told", "name", "word"], top 62, [], [false, false, false], false⟩,
  ⟨("draw", none), "draw", ["plan", "number", "indent", "kinds", "seen", "lines"], ["plan", "number", "indent", "kinds", "seen", "lines", "other"], top 63, [], [false, false, false, false, true, true], false⟩,
  ⟨("outline", none), "outline", ["plan"], ["plan", "kinds", "lines", "line"], top 64, ["lines"], [false], false⟩,
  ⟨("_law_events", none), "_law_events", [], [], top 66, [], [], false⟩,
  ⟨("_law_others", none), "_law_others", [], [], top 67, [], [], false⟩,
  ⟨("_law_counts", none), "_law_counts", [], [], top 68, [], [], false⟩,
  ⟨("_law_cell", none), "_law_cell", ["script", "k"], ["script", "k"], top 69, [], [false, false], false⟩,
  ⟨("_law_is_integer", none), "_law_is_integer", ["told"], ["told"], top 70, [], [false], false⟩,
  ⟨("_law_start", none), "_law_start", ["cell", "k"], ["cell", "k"], top 71, [], [false, false], true⟩,
  ⟨("_law_digit", none), "_law_digit", ["state", "many"], ["state", "many"], top 72, [], [true, false], false⟩,
  ⟨("_law_chain", none), "_law_chain", ["state"], ["state", "price", "some", "chains", "plan", "kind", "operator"], top 73, ["plan"], [true], true⟩,
  ⟨("_law_ending", none), "_law_ending", ["state", "plan"], ["state", "plan", "kind", "some", "last", "keys", "windows", "is_events", "node"], top 74, [], [true, true], false⟩,
  ⟨("_law_two", none), "_law_two", ["state", "plan"], ["state", "plan", "on", "keep", "low", "left", "kind", "is_events", "node", "names"], top 75, [], [true, true], false⟩,
  ⟨("_law_fan", none), "_law_fan", ["plan"], ["plan", "last", "price"], top 76, [], [false], true⟩,
  ⟨("_law_plan", none), "_law_plan", ["state"], ["state", "plan"], top 77, ["plan"], [true], false⟩,
  ⟨("_law_entries", none), "_law_entries", ["state", "many", "whole"], ["state", "many", "whole", "entries", "mark", "k", "user"], top 78, [], [false, false, false], false⟩,
  ⟨("_law_logs", none), "_law_logs", ["state", "many", "whole"], ["state", "many", "whole", "logs", "k"], top 79, [], [false, false, false], false⟩,
  ⟨("_law_parallel", none), "_law_parallel", ["state", "plan"], ["state", "plan", "parallel", "operator", "inputs", "many"], top 80, [], [false, false], false⟩,
  ⟨("_law_behind", none), "_law_behind", ["plan", "number"], ["plan", "number", "line", "operator", "inputs", "ahead", "other"], top 81, [], [false, false], false⟩,
  ⟨("_law_line", none), "_law_line", ["plan", "number"], ["plan", "number", "operator", "fields", "kind", "text", "name", "word"], top 82, [], [false, false], false⟩,
  ⟨("_law_lines", none), "_law_lines", ["plan"], ["plan", "todo", "seen", "lines", "number", "depth", "other"], top 83, ["seen", "lines"], [false], false⟩,
  ⟨("law", none), "law", ["script"], ["script", "k", "state", "plan", "line"], top 84, [], [false], false⟩
]
def globs : List (Str × P) := [
  ("TWO_SIDES", .tup [.str "union", .str "near", .str "asof", .str "join"]),
  ("MOST_FIELDS", .int 8),
  ("MOST_NODES", .int 16),
  ("QUOTE", .str "'"),
  ("RESERVED", .tup [.str "true", .str "false", .str "none", .str "not", .str "and", .str "or", .str "null", .str "length", .str "pick", .str "where", .str "to", .str "by", .str "with", .str "order", .str "first", .str "up", .str "down", .str "tumble", .str "hop", .str "slide", .str "session", .str "on", .str "from", .str "keep", .str "ttl"]),
  ("OR", .int 1),
  ("AND", .int 2),
  ("NOT", .int 3),
  ("COMPARE", .int 4),
  ("SUM", .int 5),
  ("PRODUCT", .int 6),
  ("UNIT", .int 7)]
def tabs : List (Str × List (Str × P)) := [
  ("LEVELS", [("or", .int 1), ("and", .int 2), ("==", .int 4), ("<=", .int 4), ("<", .int 4), ("+", .int 5), ("-", .int 5), ("*", .int 6), ("/", .int 6)])]
def cf : Cf := ⟨fns, globs, tabs, []⟩
def f_parts_of : Fn := ⟨("parts_of", none), "parts_of", ["expression"], ["expression"], top 5, [], [false], false⟩
def s_parts_of_1 (call : CallT) : CS := (sIf (tBool .Or [(tCmp .Eq (rIx (rL 0) (rK (.int 0))) (rK (.str "column"))), (tCmp .Eq (rIx (rL 0) (rK (.int 0))) (rK (.str "value")))]) (sBody [(sRet (rD (rLst [])))]) (sBody []))
def s_parts_of_2 (call : CallT) : CS := (sIf (tCmp .Eq (rIx (rL 0) (rK (.int 0))) (rK (.str "binary"))) (sBody [(sRet (rD (rLst [(rIx (rL 0) (rK (.int 2))), (rIx (rL 0) (rK (.int 3)))])))]) (sBody []))
def s_parts_of_3 (call : CallT) : CS := (sRet (rD (rList (rSl (rL 0) (some (rK (.int 1))) none))))
def b_parts_of (call : CallT) : CS := sBody [(s_parts_of_1 call), (s_parts_of_2 call), (s_parts_of_3 call)]
theorem m_parts_of (call : CallT) (ws : List W) (S : Store) : runB cf call f_parts_of ws S = endR S.length (b_parts_of call (startE f_parts_of.N ws) S) := by kernel_rfl
theorem e_parts_of (c : Nat) (w0 : W) (S : Store) : runF cf (c + 1) ("parts_of", none) [w0] S = endR S.length (b_parts_of (runF cf c) [some w0] S) := (show runF cf (c + 1) ("parts_of", none) [w0] S = runB cf (runF cf c) f_parts_of [w0] S by kernel_rfl).trans (m_parts_of _ _ S)
def f_type_of_value : Fn := ⟨("type_of_value", none), "type_of_value", ["value"], ["value"], top 7, [], [false], false⟩
def s_type_of_value_1 (call : CallT) : CS := (sIf (tCmp .Is (rL 0) (rK .non)) (sBody [(sRet (rD (rK .non)))]) (sBody []))
def s_type_of_value_2 (call : CallT) : CS := (sIf (tR (rIs "bool" (rL 0))) (sBody [(sRet (rD (rK (.str "flag"))))]) (sBody []))
def s_type_of_value_3 (call : CallT) : CS := (sIf (tR (rIs "int" (rL 0))) (sBody [(sRet (rD (rK (.str "whole"))))]) (sBody []))
def s_type_of_value_4 (call : CallT) : CS := (sRet (rD (rK (.str "text"))))
def b_type_of_value (call : CallT) : CS := sBody [(s_type_of_value_1 call), (s_type_of_value_2 call), (s_type_of_value_3 call), (s_type_of_value_4 call)]
theorem m_type_of_value (call : CallT) (ws : List W) (S : Store) : runB cf call f_type_of_value ws S = endR S.length (b_type_of_value call (startE f_type_of_value.N ws) S) := by kernel_rfl
theorem e_type_of_value (c : Nat) (w0 : W) (S : Store) : runF cf (c + 1) ("type_of_value", none) [w0] S = endR S.length (b_type_of_value (runF cf c) [some w0] S) := (show runF cf (c + 1) ("type_of_value", none) [w0] S = runB cf (runF cf c) f_type_of_value [w0] S by kernel_rfl).trans (m_type_of_value _ _ S)
def f_column_index : Fn := ⟨("column_index", none), "column_index", ["fields", "name"], ["fields", "name", "index", "field"], top 8, [], [false, false], false⟩
def l_column_index_1 (call : CallT) : CS := (sBody [(sIf (tCmp .Eq (rIx (rL 3) (rK (.int 0))) (rL 1)) (sBody [(sRet (rD (rL 2)))]) (sBody []))])
def s_column_index_2 (call : CallT) : CS := (sFor (sEnum (rL 0)) (.many [2, 3]) (l_column_index_1 call))
def s_column_index_3 (call : CallT) : CS := (sRet (rD (rK .non)))
def b_column_index (call : CallT) : CS := sBody [(s_column_index_2 call), (s_column_index_3 call)]
theorem m_column_index (call : CallT) (ws : List W) (S : Store) : runB cf call f_column_index ws S = endR S.length (b_column_index call (startE f_column_index.N ws) S) := by kernel_rfl
theorem e_column_index (c : Nat) (w0 : W) (w1 : W) (S : Store) : runF cf (c + 1) ("column_index", none) [w0, w1] S = endR S.length (b_column_index (runF cf c) [some w0, some w1, none, none] S) := (show runF cf (c + 1) ("column_index", none) [w0, w1] S = runB cf (runF cf c) f_column_index [w0, w1] S by kernel_rfl).trans (m_column_index _ _ S)
def f_agree : Fn := ⟨("agree", none), "agree", ["first", "second"], ["first", "second"], top 10, [], [false, false], false⟩
def s_agree_1 (call : CallT) : CS := (sRet (rD (rBool .Or [(rT (tCmp .Is (rL 0) (rK .non))), (rT (tCmp .Is (rL 1) (rK .non))), (rT (tCmp .Eq (rL 0) (rL 1)))])))
def b_agree (call : CallT) : CS := sBody [(s_agree_1 call)]
theorem m_agree (call : CallT) (ws : List W) (S : Store) : runB cf call f_agree ws S = endR S.length (b_agree call (startE f_agree.N ws) S) := by kernel_rfl
theorem e_agree (c : Nat) (w0 : W) (w1 : W) (S : Store) : runF cf (c + 1) ("agree", none) [w0, w1] S = endR S.length (b_agree (runF cf c) [some w0, some w1] S) := (show runF cf (c + 1) ("agree", none) [w0, w1] S = runB cf (runF cf c) f_agree [w0, w1] S by kernel_rfl).trans (m_agree _ _ S)
def f_want : Fn := ⟨("want", none), "want", ["types", "wanted"], ["types", "wanted", "found"], top 11, [], [false, false], false⟩
def l_want_1 (call : CallT) : CS := (sBody [(sIf (tNot (tR (rCall true true call ("agree", none) 2 [(rD (rL 2)), (rD (rL 1))]))) (sBody [sBad]) (sBody []))])
def s_want_2 (call : CallT) : CS := (sFor (sRaw (rL 0)) (.one 2) (l_want_1 call))
def b_want (call : CallT) : CS := sBody [(s_want_2 call)]
theorem m_want (call : CallT) (ws : List W) (S : Store) : runB cf call f_want ws S = endR S.length (b_want call (startE f_want.N ws) S) := by kernel_rfl
theorem e_want (c : Nat) (w0 : W) (w1 : W) (S : Store) : runF cf (c + 1) ("want", none) [w0, w1] S = endR S.length (b_want (runF cf c) [some w0, some w1, none] S) := (show runF cf (c + 1) ("want", none) [w0, w1] S = runB cf (runF cf c) f_want [w0, w1] S by kernel_rfl).trans (m_want _ _ S)
def f_type_of_binary : Fn := ⟨("type_of_binary", none), "type_of_binary", ["sign", "types"], ["sign", "types"], top 12, [], [false, false], false⟩
def s_type_of_binary_1 (call : CallT) : CS := (sIf (tIn false (rL 0) (rTup [(rK (.str "+")), (rK (.str "-")), (rK (.str "*")), (rK (.str "/"))])) (sBody [(sX (rCall true true call ("want", none) 2 [(rD (rL 1)), (rD (rK (.str "whole")))])), (sRet (rD (rK (.str "whole"))))]) (sBody []))
def s_type_of_binary_2 (call : CallT) : CS := (sIf (tIn false (rL 0) (rTup [(rK (.str "and")), (rK (.str "or"))])) (sBody [(sX (rCall true true call ("want", none) 2 [(rD (rL 1)), (rD (rK (.str "flag")))])), (sRet (rD (rK (.str "flag"))))]) (sBody []))
def s_type_of_binary_3 (call : CallT) : CS := (sX (rCall true true call ("want", none) 2 [(rD (rSl (rL 1) none (some (rK (.int 1))))), (rD (rIx (rL 1) (rK (.int 1))))]))
def s_type_of_binary_4 (call : CallT) : CS := (sRet (rD (rK (.str "flag"))))
def b_type_of_binary (call : CallT) : CS := sBody [(s_type_of_binary_1 call), (s_type_of_binary_2 call), (s_type_of_binary_3 call), (s_type_of_binary_4 call)]
theorem m_type_of_binary (call : CallT) (ws : List W) (S : Store) : runB cf call f_type_of_binary ws S = endR S.length (b_type_of_binary call (startE f_type_of_binary.N ws) S) := by kernel_rfl
theorem e_type_of_binary (c : Nat) (w0 : W) (w1 : W) (S : Store) : runF cf (c + 1) ("type_of_binary", none) [w0, w1] S = endR S.length (b_type_of_binary (runF cf c) [some w0, some w1] S) := (show runF cf (c + 1) ("type_of_binary", none) [w0, w1] S = runB cf (runF cf c) f_type_of_binary [w0, w1] S by kernel_rfl).trans (m_type_of_binary _ _ S)
def f_type_of : Fn := ⟨("type_of", none), "type_of", ["expression", "fields"], ["expression", "fields", "word", "index", "types", "part"], top 13, [], [false, false], false⟩
def s_type_of_1 (call : CallT) : CS := (sSet 2 (rIx (rL 0) (rK (.int 0))))
def s_type_of_2 (call : CallT) : CS := (sIf (tCmp .Eq (rL 2) (rK (.str "column"))) (sBody [(sSet 3 (rCall true true call ("column_index", none) 2 [(rD (rL 1)), (rD (rIx (rL 0) (rK (.int 1))))])), (sIf (tCmp .Is (rL 3) (rK .non)) (sBody [sBad]) (sBody [])), (sRet (rD (rIx (rIx (rL 1) (rL 3)) (rK (.int 1)))))]) (sBody []))
def s_type_of_3 (call : CallT) : CS := (sIf (tCmp .Eq (rL 2) (rK (.str "value"))) (sBody [(sRet (rD (rCall true true call ("type_of_value", none) 1 [(rD (rIx (rL 0) (rK (.int 1))))])))]) (sBody []))
def c_type_of_4 (call : CallT) : CR := (rKeep (rCall false true call ("type_of", none) 2 [(rD (rL 5)), (rD (rL 1))]))
def s_type_of_5 (call : CallT) : CS := (sSet 4 (rLC (rComp (sRaw (rCall true true call ("parts_of", none) 1 [(rD (rL 0))])) [5] (.one 5) tYes (c_type_of_4 call))))
def s_type_of_6 (call : CallT) : CS := (sIf (tCmp .Eq (rL 2) (rK (.str "binary"))) (sBody [(sRet (rD (rCall true true call ("type_of_binary", none) 2 [(rD (rIx (rL 0) (rK (.int 1)))), (rD (rL 4))])))]) (sBody []))
def s_type_of_7 (call : CallT) : CS := (sIf (tCmp .Eq (rL 2) (rK (.str "pick"))) (sBody [(sX (rCall true true call ("want", none) 2 [(rD (rSl (rL 4) none (some (rK (.int 1))))), (rD (rK (.str "flag")))])), (sX (rCall true true call ("want", none) 2 [(rD (rSl (rL 4) (some (rK (.int 1))) (some (rK (.int 2))))), (rD (rIx (rL 4) (rK (.int 2))))])), (sRet (rD (rIf (tCmp .Is (rIx (rL 4) (rK (.int 1))) (rK .non)) (rIx (rL 4) (rK (.int 2))) (rIx (rL 4) (rK (.int 1))))))]) (sBody []))
def s_type_of_8 (call : CallT) : CS := (sIf (tCmp .Eq (rL 2) (rK (.str "not"))) (sBody [(sX (rCall true true call ("want", none) 2 [(rD (rL 4)), (rD (rK (.str "flag")))])), (sRet (rD (rK (.str "flag"))))]) (sBody []))
def s_type_of_9 (call : CallT) : CS := (sIf (tCmp .Eq (rL 2) (rK (.str "length"))) (sBody [(sX (rCall true true call ("want", none) 2 [(rD (rL 4)), (rD (rK (.str "text")))])), (sRet (rD (rK (.str "whole"))))]) (sBody []))
def s_type_of_10 (call : CallT) : CS := (sRet (rD (rK (.str "flag"))))
def b_type_of (call : CallT) : CS := sBody [(s_type_of_1 call), (s_type_of_2 call), (s_type_of_3 call), (s_type_of_5 call), (s_type_of_6 call), (s_type_of_7 call), (s_type_of_8 call), (s_type_of_9 call), (s_type_of_10 call)]
theorem m_type_of (call : CallT) (ws : List W) (S : Store) : runB cf call f_type_of ws S = endR S.length (b_type_of call (startE f_type_of.N ws) S) := by kernel_rfl
theorem e_type_of (c : Nat) (w0 : W) (w1 : W) (S : Store) : runF cf (c + 1) ("type_of", none) [w0, w1] S = endR S.length (b_type_of (runF cf c) [some w0, some w1, none, none, none, none] S) := (show runF cf (c + 1) ("type_of", none) [w0, w1] S = runB cf (runF cf c) f_type_of [w0, w1] S by kernel_rfl).trans (m_type_of _ _ S)
def f_sides_of : Fn := ⟨("sides_of", none), "sides_of", ["operator"], ["operator"], top 17, [], [false], false⟩
def s_sides_of_1 (call : CallT) : CS := (sIf (tIn false (rIx (rL 0) (rK (.int 0))) (rK (.tup [(.str "union"), (.str "near"), (.str "asof"), (.str "join")]))) (sBody [(sRet (rD (rK (.int 2))))]) (sBody []))
def s_sides_of_2 (call : CallT) : CS := (sRet (rD (rK (.int 1))))
def b_sides_of (call : CallT) : CS := sBody [(s_sides_of_1 call), (s_sides_of_2 call)]
theorem m_sides_of (call : CallT) (ws : List W) (S : Store) : runB cf call f_sides_of ws S = endR S.length (b_sides_of call (startE f_sides_of.N ws) S) := by kernel_rfl
theorem e_sides_of (c : Nat) (w0 : W) (S : Store) : runF cf (c + 1) ("sides_of", none) [w0] S = endR S.length (b_sides_of (runF cf c) [some w0] S) := (show runF cf (c + 1) ("sides_of", none) [w0] S = runB cf (runF cf c) f_sides_of [w0] S by kernel_rfl).trans (m_sides_of _ _ S)
def f_type_in : Fn := ⟨("type_in", none), "type_in", ["fields", "name"], ["fields", "name", "index"], top 18, [], [false, false], false⟩
def s_type_in_1 (call : CallT) : CS := (sSet 2 (rCall true true call ("column_index", none) 2 [(rD (rL 0)), (rD (rL 1))]))
def s_type_in_2 (call : CallT) : CS := (sIf (tCmp .Is (rL 2) (rK .non)) (sBody [sBad]) (sBody []))
def s_type_in_3 (call : CallT) : CS := (sRet (rD (rIx (rIx (rL 0) (rL 2)) (rK (.int 1)))))
def b_type_in (call : CallT) : CS := sBody [(s_type_in_1 call), (s_type_in_2 call), (s_type_in_3 call)]
theorem m_type_in (call : CallT) (ws : List W) (S : Store) : runB cf call f_type_in ws S = endR S.length (b_type_in call (startE f_type_in.N ws) S) := by kernel_rfl
theorem e_type_in (c : Nat) (w0 : W) (w1 : W) (S : Store) : runF cf (c + 1) ("type_in", none) [w0, w1] S = endR S.length (b_type_in (runF cf c) [some w0, some w1, none] S) := (show runF cf (c + 1) ("type_in", none) [w0, w1] S = runB cf (runF cf c) f_type_in [w0, w1] S by kernel_rfl).trans (m_type_in _ _ S)
def f_differ : Fn := ⟨("differ", none), "differ", [], [], top 19, [], [], false⟩
def s_differ_1 (call : CallT) : CS := sBad
def b_differ (call : CallT) : CS := sBody [(s_differ_1 call)]
theorem m_differ (call : CallT) (ws : List W) (S : Store) : runB cf call f_differ ws S = endR S.length (b_differ call (startE f_differ.N ws) S) := by kernel_rfl
theorem e_differ (c : Nat) (S : Store) : runF cf (c + 1) ("differ", none) [] S = endR S.length (b_differ (runF cf c) [] S) := (show runF cf (c + 1) ("differ", none) [] S = runB cf (runF cf c) f_differ [] S by kernel_rfl).trans (m_differ _ _ S)
def f_aggregate_type : Fn := ⟨("aggregate_type", none), "aggregate_type", ["word", "column", "fields"], ["word", "column", "fields", "found"], top 20, [], [false, false, false], false⟩
def s_aggregate_type_1 (call : CallT) : CS := (sIf (tCmp .Eq (rL 0) (rK (.str "count"))) (sBody [(sRet (rD (rK (.str "whole"))))]) (sBody []))
def s_aggregate_type_2 (call : CallT) : CS := (sSet 3 (rCall true true call ("type_in", none) 2 [(rD (rL 2)), (rD (rL 1))]))
def s_aggregate_type_3 (call : CallT) : CS := (sIf (tBool .And [(tIn false (rL 0) (rTup [(rK (.str "sum")), (rK (.str "mean"))])), (tCmp .NotEq (rL 3) (rK (.str "whole")))]) (sBody [(sX (rCall true true call ("differ", none) 0 []))]) (sBody []))
def s_aggregate_type_4 (call : CallT) : CS := (sRet (rD (rL 3)))
def b_aggregate_type (call : CallT) : CS := sBody [(s_aggregate_type_1 call), (s_aggregate_type_2 call), (s_aggregate_type_3 call), (s_aggregate_type_4 call)]
theorem m_aggregate_type (call : CallT) (ws : List W) (S : Store) : runB cf call f_aggregate_type ws S = endR S.length (b_aggregate_type call (startE f_aggregate_type.N ws) S) := by kernel_rfl
theorem e_aggregate_type (c : Nat) (w0 : W) (w1 : W) (w2 : W) (S : Store) : runF cf (c + 1) ("aggregate_type", none) [w0, w1, w2] S = endR S.length (b_aggregate_type (runF cf c) [some w0, some w1, some w2, none] S) := (show runF cf (c + 1) ("aggregate_type", none) [w0, w1, w2] S = runB cf (runF cf c) f_aggregate_type [w0, w1, w2] S by kernel_rfl).trans (m_aggregate_type _ _ S)
def f_check_columns : Fn := ⟨("check_columns", none), "check_columns", ["operator", "fields"], ["operator", "fields", "word", "name", "way", "first", "second", "aggregate", "column"], top 21, [], [false, false], false⟩
def s_check_columns_1 (call : CallT) : CS := (sSet 2 (rIx (rL 0) (rK (.int 0))))
def l_check_columns_2 (call : CallT) : CS := (sBody [(sX (rCall true true call ("type_in", none) 2 [(rD (rIx (rL 1) (rK (.int 0)))), (rD (rL 3))]))])
def s_check_columns_3 (call : CallT) : CS := (sIf (tIn false (rL 2) (rTup [(rK (.str "group")), (rK (.str "top")), (rK (.str "window")), (rK (.str "first"))])) (sBody [(sFor (sRaw (rIx (rL 0) (rK (.int 1)))) (.one 3) (l_check_columns_2 call))]) (sBody []))
def l_check_columns_4 (call : CallT) : CS := (sBody [(sX (rCall true true call ("type_in", none) 2 [(rD (rIx (rL 1) (rK (.int 0)))), (rD (rL 3))]))])
def s_check_columns_5 (call : CallT) : CS := (sIf (tCmp .Eq (rL 2) (rK (.str "top"))) (sBody [(sFor (sRaw (rIx (rL 0) (rK (.int 2)))) (.many [3, 4]) (l_check_columns_4 call))]) (sBody []))
def l_check_columns_6 (call : CallT) : CS := (sBody [(sX (rCall true true call ("type_in", none) 2 [(rD (rIx (rL 1) (rK (.int 0)))), (rD (rL 5))])), (sX (rCall true true call ("type_in", none) 2 [(rD (rIx (rL 1) (rK (.int 1)))), (rD (rL 6))]))])
def s_check_columns_7 (call : CallT) : CS := (sIf (tIn false (rL 2) (rTup [(rK (.str "near")), (rK (.str "asof")), (rK (.str "join"))])) (sBody [(sFor (sRaw (rIx (rL 0) (rK (.int 1)))) (.many [5, 6]) (l_check_columns_6 call))]) (sBody []))
def l_check_columns_8 (call : CallT) : CS := (sBody [(sIf (tCmp .IsNot (rL 8) (rK .non)) (sBody [(sX (rCall true true call ("type_in", none) 2 [(rD (rIx (rL 1) (rK (.int 0)))), (rD (rL 8))]))]) (sBody []))])
def s_check_columns_9 (call : CallT) : CS := (sIf (tIn false (rL 2) (rTup [(rK (.str "group")), (rK (.str "window"))])) (sBody [(sFor (sRaw (rIx (rL 0) (rNeg (rK (.int 1))))) (.many [3, 7, 8]) (l_check_columns_8 call))]) (sBody []))
def b_check_columns (call : CallT) : CS := sBody [(s_check_columns_1 call), (s_check_columns_3 call), (s_check_columns_5 call), (s_check_columns_7 call), (s_check_columns_9 call)]
theorem m_check_columns (call : CallT) (ws : List W) (S : Store) : runB cf call f_check_columns ws S = endR S.length (b_check_columns call (startE f_check_columns.N ws) S) := by kernel_rfl
theorem e_check_columns (c : Nat) (w0 : W) (w1 : W) (S : Store) : runF cf (c + 1) ("check_columns", none) [w0, w1] S = endR S.length (b_check_columns (runF cf c) [some w0, some w1, none, none, none, none, none, none, none] S) := (show runF cf (c + 1) ("check_columns", none) [w0, w1] S = runB cf (runF cf c) f_check_columns [w0, w1] S by kernel_rfl).trans (m_check_columns _ _ S)
def f_check_pairs : Fn := ⟨("check_pairs", none), "check_pairs", ["pairs", "fields"], ["pairs", "fields", "first", "second"], top 22, [], [false, false], false⟩
def l_check_pairs_1 (call : CallT) : CS := (sBody [(sIf (tCmp .NotEq (rCall true true call ("type_in", none) 2 [(rD (rIx (rL 1) (rK (.int 0)))), (rD (rL 2))]) (rCall true true call ("type_in", none) 2 [(rD (rIx (rL 1) (rK (.int 1)))), (rD (rL 3))])) (sBody [(sX (rCall true true call ("differ", none) 0 []))]) (sBody []))])
def s_check_pairs_2 (call : CallT) : CS := (sFor (sRaw (rL 0)) (.many [2, 3]) (l_check_pairs_1 call))
def b_check_pairs (call : CallT) : CS := sBody [(s_check_pairs_2 call)]
theorem m_check_pairs (call : CallT) (ws : List W) (S : Store) : runB cf call f_check_pairs ws S = endR S.length (b_check_pairs call (startE f_check_pairs.N ws) S) := by kernel_rfl
theorem e_check_pairs (c : Nat) (w0 : W) (w1 : W) (S : Store) : runF cf (c + 1) ("check_pairs", none) [w0, w1] S = endR S.length (b_check_pairs (runF cf c) [some w0, some w1, none, none] S) := (show runF cf (c + 1) ("check_pairs", none) [w0, w1] S = runB cf (runF cf c) f_check_pairs [w0, w1] S by kernel_rfl).trans (m_check_pairs _ _ S)
def f_mapped : Fn := ⟨("mapped", none), "mapped", ["to", "fields"], ["to", "fields", "found", "name", "expression", "kind"], top 23, ["found"], [false, false], false⟩
def s_mapped_1 (call : CallT) : CS := (sSet 2 (aLst []))
def l_mapped_2 (call : CallT) : CS := (sBody [(sSet 5 (rCall true true call ("type_of", none) 2 [(rD (rL 4)), (rD (rL 1))])), (sX (rApp (rL 2) (rTup [(rL 3), (rIf (tCmp .Is (rL 5) (rK .non)) (rK (.str "flag")) (rL 5))])))])
def s_mapped_3 (call : CallT) : CS := (sFor (sRaw (rL 0)) (.many [3, 4]) (l_mapped_2 call))
def s_mapped_4 (call : CallT) : CS := (sRet (rD (rL 2)))
def b_mapped (call : CallT) : CS := sBody [(s_mapped_1 call), (s_mapped_3 call), (s_mapped_4 call)]
theorem m_mapped (call : CallT) (ws : List W) (S : Store) : runB cf call f_mapped ws S = endR S.length (b_mapped call (startE f_mapped.N ws) S) := by kernel_rfl
theorem e_mapped (c : Nat) (w0 : W) (w1 : W) (S : Store) : runF cf (c + 1) ("mapped", none) [w0, w1] S = endR S.length (b_mapped (runF cf c) [some w0, some w1, none, none, none, none] S) := (show runF cf (c + 1) ("mapped", none) [w0, w1] S = runB cf (runF cf c) f_mapped [w0, w1] S by kernel_rfl).trans (m_mapped _ _ S)
def f_with_aggregates : Fn := ⟨("with_aggregates", none), "with_aggregates", ["operator", "fields"], ["operator", "fields", "found", "name", "word", "column"], top 24, ["found"], [false, false], false⟩
def c_with_aggregates_1 (call : CallT) : CR := (rKeep (rTup [(rL 3), (rCall false true call ("type_in", none) 2 [(rD (rL 1)), (rD (rL 3))])]))
def s_with_aggregates_2 (call : CallT) : CS := (sSet 2 (aLC (rComp (sRaw (rIx (rL 0) (rK (.int 1)))) [3] (.one 3) tYes (c_with_aggregates_1 call))))
def s_with_aggregates_3 (call : CallT) : CS := (sIf (tCmp .Eq (rIx (rL 0) (rK (.int 0))) (rK (.str "window"))) (sBody [(sX (rApp (rL 2) (rTup [(rK (.str "start")), (rK (.str "whole"))]))), (sX (rApp (rL 2) (rTup [(rK (.str "end")), (rK (.str "whole"))])))]) (sBody []))
def l_with_aggregates_4 (call : CallT) : CS := (sBody [(sX (rApp (rL 2) (rTup [(rL 3), (rCall true true call ("aggregate_type", none) 3 [(rD (rL 4)), (rD (rL 5)), (rD (rL 1))])])))])
def s_with_aggregates_5 (call : CallT) : CS := (sFor (sRaw (rIx (rL 0) (rNeg (rK (.int 1))))) (.many [3, 4, 5]) (l_with_aggregates_4 call))
def s_with_aggregates_6 (call : CallT) : CS := (sRet (rD (rL 2)))
def b_with_aggregates (call : CallT) : CS := sBody [(s_with_aggregates_2 call), (s_with_aggregates_3 call), (s_with_aggregates_5 call), (s_with_aggregates_6 call)]
theorem m_with_aggregates (call : CallT) (ws : List W) (S : Store) : runB cf call f_with_aggregates ws S = endR S.length (b_with_aggregates call (startE f_with_aggregates.N ws) S) := by kernel_rfl
theorem e_with_aggregates (c : Nat) (w0 : W) (w1 : W) (S : Store) : runF cf (c + 1) ("with_aggregates", none) [w0, w1] S = endR S.length (b_with_aggregates (runF cf c) [some w0, some w1, none, none, none, none] S) := (show runF cf (c + 1) ("with_aggregates", none) [w0, w1] S = runB cf (runF cf c) f_with_aggregates [w0, w1] S by kernel_rfl).trans (m_with_aggregates _ _ S)
def f_output_fields : Fn := ⟨("output_fields", none), "output_fields", ["operator", "fields"], ["operator", "fields", "word", "name", "kind"], top 25, [], [false, false], false⟩
def s_output_fields_1 (call : CallT) : CS := (sSet 2 (rIx (rL 0) (rK (.int 0))))
def s_output_fields_2 (call : CallT) : CS := (sIf (tCmp .Eq (rL 2) (rK (.str "filter"))) (sBody [(sIf (tNot (tR (rCall true true call ("agree", none) 2 [(rD (rCall true true call ("type_of", none) 2 [(rD (rIx (rL 0) (rK (.int 1)))), (rD (rIx (rL 1) (rK (.int 0))))])), (rD (rK (.str "flag")))]))) (sBody [(sX (rCall true true call ("differ", none) 0 []))]) (sBody [])), (sRet (rD (rList (rIx (rL 1) (rK (.int 0))))))]) (sBody []))
def s_output_fields_3 (call : CallT) : CS := (sIf (tCmp .Eq (rL 2) (rK (.str "map"))) (sBody [(sRet (rD (rCall true true call ("mapped", none) 2 [(rD (rIx (rL 0) (rK (.int 1)))), (rD (rIx (rL 1) (rK (.int 0))))])))]) (sBody []))
def c_output_fields_4 (call : CallT) : CR := (rKeep (rL 4))
def c_output_fields_5 (call : CallT) : CR := (rKeep (rL 4))
def s_output_fields_6 (call : CallT) : CS := (sIf (tCmp .Eq (rL 2) (rK (.str "union"))) (sBody [(sIf (tCmp .NotEq (rLC (rComp (sRaw (rIx (rL 1) (rK (.int 0)))) [3, 4] (.many [3, 4]) tYes (c_output_fields_4 call))) (rLC (rComp (sRaw (rIx (rL 1) (rK (.int 1)))) [3, 4] (.many [3, 4]) tYes (c_output_fields_5 call)))) (sBody [(sX (rCall true true call ("differ", none) 0 []))]) (sBody [])), (sRet (rD (rList (rIx (rL 1) (rK (.int 0))))))]) (sBody []))
def s_output_fields_7 (call : CallT) : CS := (sIf (tIn false (rL 2) (rTup [(rK (.str "group")), (rK (.str "window"))])) (sBody [(sRet (rD (rCall true true call ("with_aggregates", none) 2 [(rD (rL 0)), (rD (rIx (rL 1) (rK (.int 0))))])))]) (sBody []))
def s_output_fields_8 (call : CallT) : CS := (sIf (tIn false (rL 2) (rTup [(rK (.str "near")), (rK (.str "asof")), (rK (.str "join"))])) (sBody [(sX (rCall true true call ("check_pairs", none) 2 [(rD (rIx (rL 0) (rK (.int 1)))), (rD (rL 1))])), (sRet (rD (rBin .Add (rList (rIx (rL 1) (rK (.int 0)))) (rList (rIx (rL 1) (rK (.int 1)))))))]) (sBody []))
def s_output_fields_9 (call : CallT) : CS := (sRet (rD (rList (rIx (rL 1) (rK (.int 0))))))
def b_output_fields (call : CallT) : CS := sBody [(s_output_fields_1 call), (s_output_fields_2 call), (s_output_fields_3 call), (s_output_fields_6 call), (s_output_fields_7 call), (s_output_fields_8 call), (s_output_fields_9 call)]
theorem m_output_fields (call : CallT) (ws : List W) (S : Store) : runB cf call f_output_fields ws S = endR S.length (b_output_fields call (startE f_output_fields.N ws) S) := by kernel_rfl
theorem e_output_fields (c : Nat) (w0 : W) (w1 : W) (S : Store) : runF cf (c + 1) ("output_fields", none) [w0, w1] S = endR S.length (b_output_fields (runF cf c) [some w0, some w1, none, none, none] S) := (show runF cf (c + 1) ("output_fields", none) [w0, w1] S = runB cf (runF cf c) f_output_fields [w0, w1] S by kernel_rfl).trans (m_output_fields _ _ S)
def f_check_kinds : Fn := ⟨("check_kinds", none), "check_kinds", ["operator", "kinds"], ["operator", "kinds", "word", "wanted", "kind"], top 26, [], [false, false], false⟩
def s_check_kinds_1 (call : CallT) : CS := (sSet 2 (rIx (rL 0) (rK (.int 0))))
def s_check_kinds_2 (call : CallT) : CS := (sSet 3 (rLst []))
def s_check_kinds_3 (call : CallT) : CS := (sIf (tIn false (rL 2) (rTup [(rK (.str "window")), (rK (.str "first")), (rK (.str "asof"))])) (sBody [(sSet 3 (rSl (rL 1) none (some (rK (.int 1)))))]) (sBody []))
def s_check_kinds_4 (call : CallT) : CS := (sIf (tCmp .Eq (rL 2) (rK (.str "near"))) (sBody [(sSet 3 (rL 1))]) (sBody []))
def l_check_kinds_5 (call : CallT) : CS := (sBody [(sIf (tCmp .NotEq (rL 4) (rK (.str "events"))) (sBody [sBad]) (sBody []))])
def s_check_kinds_6 (call : CallT) : CS := (sFor (sRaw (rL 3)) (.one 4) (l_check_kinds_5 call))
def b_check_kinds (call : CallT) : CS := sBody [(s_check_kinds_1 call), (s_check_kinds_2 call), (s_check_kinds_3 call), (s_check_kinds_4 call), (s_check_kinds_6 call)]
theorem m_check_kinds (call : CallT) (ws : List W) (S : Store) : runB cf call f_check_kinds ws S = endR S.length (b_check_kinds call (startE f_check_kinds.N ws) S) := by kernel_rfl
theorem e_check_kinds (c : Nat) (w0 : W) (w1 : W) (S : Store) : runF cf (c + 1) ("check_kinds", none) [w0, w1] S = endR S.length (b_check_kinds (runF cf c) [some w0, some w1, none, none, none] S) := (show runF cf (c + 1) ("check_kinds", none) [w0, w1] S = runB cf (runF cf c) f_check_kinds [w0, w1] S by kernel_rfl).trans (m_check_kinds _ _ S)
def f_output_kind : Fn := ⟨("output_kind", none), "output_kind", ["operator", "kinds"], ["operator", "kinds", "word"], top 27, [], [false, false], false⟩
def s_output_kind_1 (call : CallT) : CS := (sSet 2 (rIx (rL 0) (rK (.int 0))))
def s_output_kind_2 (call : CallT) : CS := (sIf (tIn false (rL 2) (rTup [(rK (.str "filter")), (rK (.str "map"))])) (sBody [(sRet (rD (rIx (rL 1) (rK (.int 0)))))]) (sBody []))
def s_output_kind_3 (call : CallT) : CS := (sIf (tCmp .Eq (rL 2) (rK (.str "union"))) (sBody [(sRet (rD (rIf (tCmp .Eq (rL 1) (rLst [(rK (.str "events")), (rK (.str "events"))])) (rK (.str "events")) (rK (.str "table")))))]) (sBody []))
def s_output_kind_4 (call : CallT) : CS := (sIf (tIn false (rL 2) (rTup [(rK (.str "window")), (rK (.str "near")), (rK (.str "asof")), (rK (.str "first"))])) (sBody [(sRet (rD (rK (.str "events"))))]) (sBody []))
def s_output_kind_5 (call : CallT) : CS := (sRet (rD (rK (.str "table"))))
def b_output_kind (call : CallT) : CS := sBody [(s_output_kind_1 call), (s_output_kind_2 call), (s_output_kind_3 call), (s_output_kind_4 call), (s_output_kind_5 call)]
theorem m_output_kind (call : CallT) (ws : List W) (S : Store) : runB cf call f_output_kind ws S = endR S.length (b_output_kind call (startE f_output_kind.N ws) S) := by kernel_rfl
theorem e_output_kind (c : Nat) (w0 : W) (w1 : W) (S : Store) : runF cf (c + 1) ("output_kind", none) [w0, w1] S = endR S.length (b_output_kind (runF cf c) [some w0, some w1, none] S) := (show runF cf (c + 1) ("output_kind", none) [w0, w1] S = runB cf (runF cf c) f_output_kind [w0, w1] S by kernel_rfl).trans (m_output_kind _ _ S)
def f_check_operator : Fn := ⟨("check_operator", none), "check_operator", ["operator", "inputs"], ["operator", "inputs", "fields", "side", "kinds", "found", "names", "name", "kind"], top 28, ["names"], [false, false], false⟩
def c_check_operator_1 (call : CallT) : CR := (rKeep (rIx (rL 3) (rK (.int 0))))
def s_check_operator_2 (call : CallT) : CS := (sSet 2 (rLC (rComp (sRaw (rL 1)) [3] (.one 3) tYes (c_check_operator_1 call))))
def c_check_operator_3 (call : CallT) : CR := (rKeep (rIx (rL 3) (rK (.int 1))))
def s_check_operator_4 (call : CallT) : CS := (sSet 4 (rLC (rComp (sRaw (rL 1)) [3] (.one 3) tYes (c_check_operator_3 call))))
def s_check_operator_5 (call : CallT) : CS := (sX (rCall true true call ("check_columns", none) 2 [(rD (rL 0)), (rD (rL 2))]))
def s_check_operator_6 (call : CallT) : CS := (sSet 5 (rCall true true call ("output_fields", none) 2 [(rD (rL 0)), (rD (rL 2))]))
def s_check_operator_7 (call : CallT) : CS := (sX (rCall true true call ("check_kinds", none) 2 [(rD (rL 0)), (rD (rL 4))]))
def s_check_operator_8 (call : CallT) : CS := (sSet 6 (aLst []))
def l_check_operator_9 (call : CallT) : CS := (sBody [(sIf (tIn false (rL 7) (rL 6)) (sBody [sBad]) (sBody [])), (sX (rApp (rL 6) (rL 7)))])
def s_check_operator_10 (call : CallT) : CS := (sFor (sRaw (rL 5)) (.many [7, 8]) (l_check_operator_9 call))
def s_check_operator_11 (call : CallT) : CS := (sIf (tCmp .Gt (rLen (rL 5)) (rK (.int 8))) (sBody [sBad]) (sBody []))
def s_check_operator_12 (call : CallT) : CS := (sRet (rD (rTup [(rF1 tupleR (rL 5)), (rCall true true call ("output_kind", none) 2 [(rD (rL 0)), (rD (rL 4))])])))
def b_check_operator (call : CallT) : CS := sBody [(s_check_operator_2 call), (s_check_operator_4 call), (s_check_operator_5 call), (s_check_operator_6 call), (s_check_operator_7 call), (s_check_operator_8 call), (s_check_operator_10 call), (s_check_operator_11 call), (s_check_operator_12 call)]
theorem m_check_operator (call : CallT) (ws : List W) (S : Store) : runB cf call f_check_operator ws S = endR S.length (b_check_operator call (startE f_check_operator.N ws) S) := by kernel_rfl
theorem e_check_operator (c : Nat) (w0 : W) (w1 : W) (S : Store) : runF cf (c + 1) ("check_operator", none) [w0, w1] S = endR S.length (b_check_operator (runF cf c) [some w0, some w1, none, none, none, none, none, none, none] S) := (show runF cf (c + 1) ("check_operator", none) [w0, w1] S = runB cf (runF cf c) f_check_operator [w0, w1] S by kernel_rfl).trans (m_check_operator _ _ S)
def f_check_inputs : Fn := ⟨("check_inputs", none), "check_inputs", ["plan", "number"], ["plan", "number", "operator", "inputs", "sides", "right", "other"], top 31, [], [false, false], false⟩
def s_check_inputs_1 (call : CallT) : CS := (sSetT [2, 3] (rIx (rL 0) (rL 1)))
def s_check_inputs_2 (call : CallT) : CS := (sSet 4 (rIf (tCmp .Eq (rIx (rL 2) (rK (.int 0))) (rK (.str "source"))) (rK (.int 0)) (rCall true true call ("sides_of", none) 1 [(rD (rL 2))])))
def t_check_inputs_3 (call : CallT) : CT := (tCh (rK (.int 0)) .LtE (rL 6) .Lt (rL 1))
def c_check_inputs_4 (call : CallT) : CR := (rKeep (rL 6))
def s_check_inputs_5 (call : CallT) : CS := (sSet 5 (rLC (rComp (sRaw (rL 3)) [6] (.one 6) (t_check_inputs_3 call) (c_check_inputs_4 call))))
def s_check_inputs_6 (call : CallT) : CS := (sIf (tBool .Or [(tCmp .NotEq (rLen (rL 3)) (rL 4)), (tCmp .NotEq (rLen (rL 5)) (rL 4))]) (sBody [sBad]) (sBody []))
def b_check_inputs (call : CallT) : CS := sBody [(s_check_inputs_1 call), (s_check_inputs_2 call), (s_check_inputs_5 call), (s_check_inputs_6 call)]
theorem m_check_inputs (call : CallT) (ws : List W) (S : Store) : runB cf call f_check_inputs ws S = endR S.length (b_check_inputs call (startE f_check_inputs.N ws) S) := by kernel_rfl
theorem e_check_inputs (c : Nat) (w0 : W) (w1 : W) (S : Store) : runF cf (c + 1) ("check_inputs", none) [w0, w1] S = endR S.length (b_check_inputs (runF cf c) [some w0, some w1, none, none, none, none, none] S) := (show runF cf (c + 1) ("check_inputs", none) [w0, w1] S = runB cf (runF cf c) f_check_inputs [w0, w1] S by kernel_rfl).trans (m_check_inputs _ _ S)
def f_output_of : Fn := ⟨("output_of", none), "output_of", ["plan", "number", "outputs"], ["plan", "number", "outputs", "operator", "inputs", "other", "earlier", "error"], top 32, [], [false, false, true], false⟩
def s_output_of_1 (call : CallT) : CS := (sSetT [3, 4] (rIx (rL 0) (rL 1)))
def l_output_of_2 (call : CallT) : CS := (sBody [(sSet 6 (rIx (rIx (rL 0) (rL 5)) (rK (.int 0)))), (sIf (tBool .And [(tCmp .Eq (rIx (rL 6) (rK (.int 0))) (rK (.str "source"))), (tCmp .Eq (rIx (rL 6) (rK (.int 1))) (rIx (rL 3) (rK (.int 1)))), (tCmp .NotEq rBad rBad)]) (sBody [sBad]) (sBody []))])
def s_output_of_3 (call : CallT) : CS := (sIf (tCmp .Eq (rIx (rL 3) (rK (.int 0))) (rK (.str "source"))) (sBody [(sFor (sRng1 (rL 1)) (.one 5) (l_output_of_2 call)), (sRet (rD (rTup [(rIx (rL 3) (rK (.int 2))), (rK (.str "events"))])))]) (sBody []))
def c_output_of_4 (call : CallT) : CR := (rKeep (rIx (rL 2) (rL 5)))
def s_output_of_5 (call : CallT) : CS := (sTry (sBody [(sRet (rD (rCall false true call ("check_operator", none) 2 [(rD (rL 3)), (rD (rLC (rComp (sRaw (rL 4)) [5] (.one 5) tYes (c_output_of_4 call))))])))]) (sBody []))
def b_output_of (call : CallT) : CS := sBody [(s_output_of_1 call), (s_output_of_3 call), (s_output_of_5 call)]
theorem m_output_of (call : CallT) (ws : List W) (S : Store) : runB cf call f_output_of ws S = endR S.length (b_output_of call (startE f_output_of.N ws) S) := by kernel_rfl
theorem e_output_of (c : Nat) (w0 : W) (w1 : W) (w2 : W) (S : Store) : runF cf (c + 1) ("output_of", none) [w0, w1, w2] S = endR S.length (b_output_of (runF cf c) [some w0, some w1, some w2, none, none, none, none, none] S) := (show runF cf (c + 1) ("output_of", none) [w0, w1, w2] S = runB cf (runF cf c) f_output_of [w0, w1, w2] S by kernel_rfl).trans (m_output_of _ _ S)
def f_fields_of : Fn := ⟨("fields_of", none), "fields_of", ["plan"], ["plan", "outputs", "number"], top 33, ["outputs"], [false], false⟩
def s_fields_of_1 (call : CallT) : CS := (sIf (tCmp .Eq (rLen (rL 0)) (rK (.int 0))) (sBody [sBad]) (sBody []))
def s_fields_of_2 (call : CallT) : CS := (sIf (tCmp .Gt (rLen (rL 0)) (rK (.int 16))) (sBody [sBad]) (sBody []))
def s_fields_of_3 (call : CallT) : CS := (sSet 1 (aLst []))
def l_fields_of_4 (call : CallT) : CS := (sBody [(sX (rCall true true call ("check_inputs", none) 2 [(rD (rL 0)), (rD (rL 2))])), (sX (rApp (rL 1) (rCall true true call ("output_of", none) 3 [(rD (rL 0)), (rD (rL 2)), (rL 1)])))])
def s_fields_of_5 (call : CallT) : CS := (sFor (sRng1 (rLen (rL 0))) (.one 2) (l_fields_of_4 call))
def s_fields_of_6 (call : CallT) : CS := (sRet (rD (rL 1)))
def b_fields_of (call : CallT) : CS := sBody [(s_fields_of_1 call), (s_fields_of_2 call), (s_fields_of_3 call), (s_fields_of_5 call), (s_fields_of_6 call)]
theorem m_fields_of (call : CallT) (ws : List W) (S : Store) : runB cf call f_fields_of ws S = endR S.length (b_fields_of call (startE f_fields_of.N ws) S) := by kernel_rfl
theorem e_fields_of (c : Nat) (w0 : W) (S : Store) : runF cf (c + 1) ("fields_of", none) [w0] S = endR S.length (b_fields_of (runF cf c) [some w0, none, none] S) := (show runF cf (c + 1) ("fields_of", none) [w0] S = runB cf (runF cf c) f_fields_of [w0] S by kernel_rfl).trans (m_fields_of _ _ S)
def f_write_name : Fn := ⟨("write_name", none), "write_name", ["name"], ["name"], top 45, [], [false], false⟩
def s_write_name_1 (call : CallT) : CS := (sIf (tIn false (rL 0) (rK (.tup [(.str "true"), (.str "false"), (.str "none"), (.str "not"), (.str "and"), (.str "or"), (.str "null"), (.str "length"), (.str "pick"), (.str "where"), (.str "to"), (.str "by"), (.str "with"), (.str "order"), (.str "first"), (.str "up"), (.str "down"), (.str "tumble"), (.str "hop"), (.str "slide"), (.str "session"), (.str "on"), (.str "from"), (.str "keep"), (.str "ttl")]))) (sBody [(sRet (rD (rCat (rK (.str "[")) [(rL 0), (rK (.str "]"))])))]) (sBody []))
def s_write_name_2 (call : CallT) : CS := (sRet (rD (rL 0)))
def b_write_name (call : CallT) : CS := sBody [(s_write_name_1 call), (s_write_name_2 call)]
theorem m_write_name (call : CallT) (ws : List W) (S : Store) : runB cf call f_write_name ws S = endR S.length (b_write_name call (startE f_write_name.N ws) S) := by kernel_rfl
theorem e_write_name (c : Nat) (w0 : W) (S : Store) : runF cf (c + 1) ("write_name", none) [w0] S = endR S.length (b_write_name (runF cf c) [some w0] S) := (show runF cf (c + 1) ("write_name", none) [w0] S = runB cf (runF cf c) f_write_name [w0] S by kernel_rfl).trans (m_write_name _ _ S)
def f_write_value : Fn := ⟨("write_value", none), "write_value", ["value"], ["value"], top 46, [], [false], false⟩
def s_write_value_1 (call : CallT) : CS := (sIf (tCmp .Is (rL 0) (rK .non)) (sBody [(sRet (rD (rK (.str "none"))))]) (sBody []))
def s_write_value_2 (call : CallT) : CS := (sIf (tCmp .Is (rL 0) (rK (.bl true))) (sBody [(sRet (rD (rK (.str "true"))))]) (sBody []))
def s_write_value_3 (call : CallT) : CS := (sIf (tCmp .Is (rL 0) (rK (.bl false))) (sBody [(sRet (rD (rK (.str "false"))))]) (sBody []))
def s_write_value_4 (call : CallT) : CS := (sIf (tR (rIs "str" (rL 0))) (sBody [(sRet (rD (rCat (rK (.str "'")) [rBad, (rK (.str "'"))])))]) (sBody []))
def s_write_value_5 (call : CallT) : CS := (sRet (rD (rF1 strR (rL 0))))
def b_write_value (call : CallT) : CS := sBody [(s_write_value_1 call), (s_write_value_2 call), (s_write_value_3 call), (s_write_value_4 call), (s_write_value_5 call)]
theorem m_write_value (call : CallT) (ws : List W) (S : Store) : runB cf call f_write_value ws S = endR S.length (b_write_value call (startE f_write_value.N ws) S) := by kernel_rfl
theorem e_write_value (c : Nat) (w0 : W) (S : Store) : runF cf (c + 1) ("write_value", none) [w0] S = endR S.length (b_write_value (runF cf c) [some w0] S) := (show runF cf (c + 1) ("write_value", none) [w0] S = runB cf (runF cf c) f_write_value [w0] S by kernel_rfl).trans (m_write_value _ _ S)
def f_level_of : Fn := ⟨("level_of", none), "level_of", ["expression"], ["expression"], top 47, [], [false], false⟩
def s_level_of_1 (call : CallT) : CS := (sIf (tCmp .Eq (rIx (rL 0) (rK (.int 0))) (rK (.str "binary"))) (sBody [(sRet (rD (rTab [("or", (.int 1)), ("and", (.int 2)), ("==", (.int 4)), ("<=", (.int 4)), ("<", (.int 4)), ("+", (.int 5)), ("-", (.int 5)), ("*", (.int 6)), ("/", (.int 6))] (rIx (rL 0) (rK (.int 1))))))]) (sBody []))
def s_level_of_2 (call : CallT) : CS := (sIf (tCmp .Eq (rIx (rL 0) (rK (.int 0))) (rK (.str "not"))) (sBody [(sRet (rD (rK (.int 3))))]) (sBody []))
def s_level_of_3 (call : CallT) : CS := (sRet (rD (rK (.int 7))))
def b_level_of (call : CallT) : CS := sBody [(s_level_of_1 call), (s_level_of_2 call), (s_level_of_3 call)]
theorem m_level_of (call : CallT) (ws : List W) (S : Store) : runB cf call f_level_of ws S = endR S.length (b_level_of call (startE f_level_of.N ws) S) := by kernel_rfl
theorem e_level_of (c : Nat) (w0 : W) (S : Store) : runF cf (c + 1) ("level_of", none) [w0] S = endR S.length (b_level_of (runF cf c) [some w0] S) := (show runF cf (c + 1) ("level_of", none) [w0] S = runB cf (runF cf c) f_level_of [w0] S by kernel_rfl).trans (m_level_of _ _ S)
def f_write_within : Fn := ⟨("write_within", none), "write_within", ["expression", "level"], ["expression", "level", "text"], top 48, [], [false, false], false⟩
def s_write_within_1 (call : CallT) : CS := (sSet 2 (rCall true true call ("write_expression", none) 1 [(rD (rL 0))]))
def s_write_within_2 (call : CallT) : CS := (sIf (tCmp .Lt (rCall true true call ("level_of", none) 1 [(rD (rL 0))]) (rL 1)) (sBody [(sRet (rD (rCat (rK (.str "(")) [(rL 2), (rK (.str ")"))])))]) (sBody []))
def s_write_within_3 (call : CallT) : CS := (sRet (rD (rL 2)))
def b_write_within (call : CallT) : CS := sBody [(s_write_within_1 call), (s_write_within_2 call), (s_write_within_3 call)]
theorem m_write_within (call : CallT) (ws : List W) (S : Store) : runB cf call f_write_within ws S = endR S.length (b_write_within call (startE f_write_within.N ws) S) := by kernel_rfl
theorem e_write_within (c : Nat) (w0 : W) (w1 : W) (S : Store) : runF cf (c + 1) ("write_within", none) [w0, w1] S = endR S.length (b_write_within (runF cf c) [some w0, some w1, none] S) := (show runF cf (c + 1) ("write_within", none) [w0, w1] S = runB cf (runF cf c) f_write_within [w0, w1] S by kernel_rfl).trans (m_write_within _ _ S)
def f_write_expression : Fn := ⟨("write_expression", none), "write_expression", ["expression"], ["expression", "level", "left", "parts", "part"], top 49, [], [false], false⟩
def s_write_expression_1 (call : CallT) : CS := (sIf (tCmp .Eq (rIx (rL 0) (rK (.int 0))) (rK (.str "column"))) (sBody [(sRet (rD (rCall true true call ("write_name", none) 1 [(rD (rIx (rL 0) (rK (.int 1))))])))]) (sBody []))
def s_write_expression_2 (call : CallT) : CS := (sIf (tCmp .Eq (rIx (rL 0) (rK (.int 0))) (rK (.str "value"))) (sBody [(sRet (rD (rCall true true call ("write_value", none) 1 [(rD (rIx (rL 0) (rK (.int 1))))])))]) (sBody []))
def s_write_expression_3 (call : CallT) : CS := (sIf (tCmp .Eq (rIx (rL 0) (rK (.int 0))) (rK (.str "not"))) (sBody [(sRet (rD (rBin .Add (rK (.str "not ")) (rCall true true call ("write_within", none) 2 [(rD (rIx (rL 0) (rK (.int 1)))), (rD (rK (.int 3)))]))))]) (sBody []))
def s_write_expression_4 (call : CallT) : CS := (sIf (tCmp .Eq (rIx (rL 0) (rK (.int 0))) (rK (.str "binary"))) (sBody [(sSet 1 (rTab [("or", (.int 1)), ("and", (.int 2)), ("==", (.int 4)), ("<=", (.int 4)), ("<", (.int 4)), ("+", (.int 5)), ("-", (.int 5)), ("*", (.int 6)), ("/", (.int 6))] (rIx (rL 0) (rK (.int 1))))), (sSet 2 (rL 1)), (sIf (tCmp .Eq (rL 1) (rK (.int 4))) (sBody [(sSet 2 (rK (.int 5)))]) (sBody [])), (sRet (rD (rCat (rCall true true call ("write_within", none) 2 [(rD (rIx (rL 0) (rK (.int 2)))), (rD (rL 2))]) [(rK (.str " ")), (rIx (rL 0) (rK (.int 1))), (rK (.str " ")), (rCall true true call ("write_within", none) 2 [(rD (rIx (rL 0) (rK (.int 3)))), (rD (rBin .Add (rL 1) (rK (.int 1))))])])))]) (sBody []))
def c_write_expression_5 (call : CallT) : CR := (rKeep (rCall false true call ("write_expression", none) 1 [(rD (rL 4))]))
def s_write_expression_6 (call : CallT) : CS := (sSet 3 (rJoin (rK (.str ", ")) (rLC (rComp (sRaw (rSl (rL 0) (some (rK (.int 1))) none)) [4] (.one 4) tYes (c_write_expression_5 call)))))
def s_write_expression_7 (call : CallT) : CS := (sRet (rD (rCat (rIx (rL 0) (rK (.int 0))) [(rK (.str "(")), (rL 3), (rK (.str ")"))])))
def b_write_expression (call : CallT) : CS := sBody [(s_write_expression_1 call), (s_write_expression_2 call), (s_write_expression_3 call), (s_write_expression_4 call), (s_write_expression_6 call), (s_write_expression_7 call)]
theorem m_write_expression (call : CallT) (ws : List W) (S : Store) : runB cf call f_write_expression ws S = endR S.length (b_write_expression call (startE f_write_expression.N ws) S) := by kernel_rfl
theorem e_write_expression (c : Nat) (w0 : W) (S : Store) : runF cf (c + 1) ("write_expression", none) [w0] S = endR S.length (b_write_expression (runF cf c) [some w0, none, none, none, none] S) := (show runF cf (c + 1) ("write_expression", none) [w0] S = runB cf (runF cf c) f_write_expression [w0] S by kernel_rfl).trans (m_write_expression _ _ S)
def f_write_names : Fn := ⟨("write_names", none), "write_names", ["names"], ["names", "name"], top 51, [], [false], false⟩
def c_write_names_1 (call : CallT) : CR := (rKeep (rCall false true call ("write_name", none) 1 [(rD (rL 1))]))
def s_write_names_2 (call : CallT) : CS := (sRet (rD (rJoin (rK (.str ", ")) (rLC (rComp (sRaw (rL 0)) [1] (.one 1) tYes (c_write_names_1 call))))))
def b_write_names (call : CallT) : CS := sBody [(s_write_names_2 call)]
theorem m_write_names (call : CallT) (ws : List W) (S : Store) : runB cf call f_write_names ws S = endR S.length (b_write_names call (startE f_write_names.N ws) S) := by kernel_rfl
theorem e_write_names (c : Nat) (w0 : W) (S : Store) : runF cf (c + 1) ("write_names", none) [w0] S = endR S.length (b_write_names (runF cf c) [some w0, none] S) := (show runF cf (c + 1) ("write_names", none) [w0] S = runB cf (runF cf c) f_write_names [w0] S by kernel_rfl).trans (m_write_names _ _ S)
def f_write_by : Fn := ⟨("write_by", none), "write_by", ["keys"], ["keys"], top 52, [], [false], false⟩
def s_write_by_1 (call : CallT) : CS := (sIf (tNot (tR (rL 0))) (sBody [(sRet (rD (rK (.str ""))))]) (sBody []))
def s_write_by_2 (call : CallT) : CS := (sRet (rD (rBin .Add (rK (.str " by ")) (rCall true true call ("write_names", none) 1 [(rD (rL 0))]))))
def b_write_by (call : CallT) : CS := sBody [(s_write_by_1 call), (s_write_by_2 call)]
theorem m_write_by (call : CallT) (ws : List W) (S : Store) : runB cf call f_write_by ws S = endR S.length (b_write_by call (startE f_write_by.N ws) S) := by kernel_rfl
theorem e_write_by (c : Nat) (w0 : W) (S : Store) : runF cf (c + 1) ("write_by", none) [w0] S = endR S.length (b_write_by (runF cf c) [some w0] S) := (show runF cf (c + 1) ("write_by", none) [w0] S = runB cf (runF cf c) f_write_by [w0] S by kernel_rfl).trans (m_write_by _ _ S)
def f_write_aggregate : Fn := ⟨("write_aggregate", none), "write_aggregate", ["agg"], ["agg", "text"], top 53, [], [false], false⟩
def s_write_aggregate_1 (call : CallT) : CS := (sSet 1 (rCat (rCall true true call ("write_name", none) 1 [(rD (rIx (rL 0) (rK (.int 0))))]) [(rK (.str " = ")), (rIx (rL 0) (rK (.int 1)))]))
def s_write_aggregate_2 (call : CallT) : CS := (sIf (tCmp .Is (rIx (rL 0) (rK (.int 2))) (rK .non)) (sBody [(sRet (rD (rL 1)))]) (sBody []))
def s_write_aggregate_3 (call : CallT) : CS := (sRet (rD (rCat (rL 1) [(rK (.str "(")), (rCall true true call ("write_name", none) 1 [(rD (rIx (rL 0) (rK (.int 2))))]), (rK (.str ")"))])))
def b_write_aggregate (call : CallT) : CS := sBody [(s_write_aggregate_1 call), (s_write_aggregate_2 call), (s_write_aggregate_3 call)]
theorem m_write_aggregate (call : CallT) (ws : List W) (S : Store) : runB cf call f_write_aggregate ws S = endR S.length (b_write_aggregate call (startE f_write_aggregate.N ws) S) := by kernel_rfl
theorem e_write_aggregate (c : Nat) (w0 : W) (S : Store) : runF cf (c + 1) ("write_aggregate", none) [w0] S = endR S.length (b_write_aggregate (runF cf c) [some w0, none] S) := (show runF cf (c + 1) ("write_aggregate", none) [w0] S = runB cf (runF cf c) f_write_aggregate [w0] S by kernel_rfl).trans (m_write_aggregate _ _ S)
def f_write_with : Fn := ⟨("write_with", none), "write_with", ["aggs"], ["aggs", "agg"], top 54, [], [false], false⟩
def s_write_with_1 (call : CallT) : CS := (sIf (tNot (tR (rL 0))) (sBody [(sRet (rD (rK (.str ""))))]) (sBody []))
def c_write_with_2 (call : CallT) : CR := (rKeep (rCall false true call ("write_aggregate", none) 1 [(rD (rL 1))]))
def s_write_with_3 (call : CallT) : CS := (sRet (rD (rBin .Add (rK (.str " with ")) (rJoin (rK (.str ", ")) (rLC (rComp (sRaw (rL 0)) [1] (.one 1) tYes (c_write_with_2 call)))))))
def b_write_with (call : CallT) : CS := sBody [(s_write_with_1 call), (s_write_with_3 call)]
theorem m_write_with (call : CallT) (ws : List W) (S : Store) : runB cf call f_write_with ws S = endR S.length (b_write_with call (startE f_write_with.N ws) S) := by kernel_rfl
theorem e_write_with (c : Nat) (w0 : W) (S : Store) : runF cf (c + 1) ("write_with", none) [w0] S = endR S.length (b_write_with (runF cf c) [some w0, none] S) := (show runF cf (c + 1) ("write_with", none) [w0] S = runB cf (runF cf c) f_write_with [w0] S by kernel_rfl).trans (m_write_with _ _ S)
def f_write_on : Fn := ⟨("write_on", none), "write_on", ["on"], ["on", "left", "right"], top 55, [], [false], false⟩
def c_write_on_1 (call : CallT) : CR := (rKeep (rCat (rCall false true call ("write_name", none) 1 [(rD (rL 1))]) [(rK (.str " = ")), (rCall false true call ("write_name", none) 1 [(rD (rL 2))])]))
def s_write_on_2 (call : CallT) : CS := (sRet (rD (rBin .Add (rK (.str " on ")) (rJoin (rK (.str ", ")) (rLC (rComp (sRaw (rL 0)) [1, 2] (.many [1, 2]) tYes (c_write_on_1 call)))))))
def b_write_on (call : CallT) : CS := sBody [(s_write_on_2 call)]
theorem m_write_on (call : CallT) (ws : List W) (S : Store) : runB cf call f_write_on ws S = endR S.length (b_write_on call (startE f_write_on.N ws) S) := by kernel_rfl
theorem e_write_on (c : Nat) (w0 : W) (S : Store) : runF cf (c + 1) ("write_on", none) [w0] S = endR S.length (b_write_on (runF cf c) [some w0, none, none] S) := (show runF cf (c + 1) ("write_on", none) [w0] S = runB cf (runF cf c) f_write_on [w0] S by kernel_rfl).trans (m_write_on _ _ S)
def f_write_window : Fn := ⟨("write_window", none), "write_window", ["window"], ["window"], top 56, [], [false], false⟩
def s_write_window_1 (call : CallT) : CS := (sIf (tCmp .Eq (rIx (rL 0) (rK (.int 0))) (rK (.str "hop"))) (sBody [(sRet (rD (rJs [(fK " hop "), (fV (rIx (rL 0) (rK (.int 1)))), (fK " slide "), (fV (rIx (rL 0) (rK (.int 2))))])))]) (sBody []))
def s_write_window_2 (call : CallT) : CS := (sRet (rD (rJs [(fK " "), (fV (rIx (rL 0) (rK (.int 0)))), (fK " "), (fV (rIx (rL 0) (rK (.int 1))))])))
def b_write_window (call : CallT) : CS := sBody [(s_write_window_1 call), (s_write_window_2 call)]
theorem m_write_window (call : CallT) (ws : List W) (S : Store) : runB cf call f_write_window ws S = endR S.length (b_write_window call (startE f_write_window.N ws) S) := by kernel_rfl
theorem e_write_window (c : Nat) (w0 : W) (S : Store) : runF cf (c + 1) ("write_window", none) [w0] S = endR S.length (b_write_window (runF cf c) [some w0] S) := (show runF cf (c + 1) ("write_window", none) [w0] S = runB cf (runF cf c) f_write_window [w0] S by kernel_rfl).trans (m_write_window _ _ S)
def f_write_rest : Fn := ⟨("write_rest", none), "write_rest", ["operator"], ["operator", "word", "fields", "name", "kind", "part", "order", "way"], top 57, [], [false], false⟩
def s_write_rest_1 (call : CallT) : CS := (sSet 1 (rIx (rL 0) (rK (.int 0))))
def c_write_rest_2 (call : CallT) : CR := (rKeep (rCat (rCall false true call ("write_name", none) 1 [(rD (rL 3))]) [(rK (.str " ")), (rL 4)]))
def s_write_rest_3 (call : CallT) : CS := (sIf (tCmp .Eq (rL 1) (rK (.str "source"))) (sBody [(sSet 2 (rJoin (rK (.str ", ")) (rLC (rComp (sRaw (rIx (rL 0) (rK (.int 2)))) [3, 4] (.many [3, 4]) tYes (c_write_rest_2 call))))), (sRet (rD (rCat (rK (.str " ")) [(rCall true true call ("write_name", none) 1 [(rD (rIx (rL 0) (rK (.int 1))))]), (rK (.str " (")), (rL 2), (rK (.str ")"))])))]) (sBody []))
def s_write_rest_4 (call : CallT) : CS := (sIf (tCmp .Eq (rL 1) (rK (.str "filter"))) (sBody [(sRet (rD (rBin .Add (rK (.str " where ")) (rCall true true call ("write_expression", none) 1 [(rD (rIx (rL 0) (rK (.int 1))))]))))]) (sBody []))
def c_write_rest_5 (call : CallT) : CR := (rKeep (rCat (rCall false true call ("write_name", none) 1 [(rD (rL 3))]) [(rK (.str " = ")), (rCall false true call ("write_expression", none) 1 [(rD (rL 5))])]))
def s_write_rest_6 (call : CallT) : CS := (sIf (tCmp .Eq (rL 1) (rK (.str "map"))) (sBody [(sRet (rD (rBin .Add (rK (.str " to ")) (rJoin (rK (.str ", ")) (rLC (rComp (sRaw (rIx (rL 0) (rK (.int 1)))) [3, 5] (.many [3, 5]) tYes (c_write_rest_5 call)))))))]) (sBody []))
def s_write_rest_7 (call : CallT) : CS := (sIf (tCmp .Eq (rL 1) (rK (.str "group"))) (sBody [(sRet (rD (rBin .Add (rCall true true call ("write_by", none) 1 [(rD (rIx (rL 0) (rK (.int 1))))]) (rCall true true call ("write_with", none) 1 [(rD (rIx (rL 0) (rK (.int 2))))]))))]) (sBody []))
def c_write_rest_8 (call : CallT) : CR := (rKeep (rCat (rCall false true call ("write_name", none) 1 [(rD (rL 3))]) [(rK (.str " ")), (rL 7)]))
def s_write_rest_9 (call : CallT) : CS := (sIf (tCmp .Eq (rL 1) (rK (.str "top"))) (sBody [(sSet 6 (rJoin (rK (.str ", ")) (rLC (rComp (sRaw (rIx (rL 0) (rK (.int 2)))) [3, 7] (.many [3, 7]) tYes (c_write_rest_8 call))))), (sRet (rD (rCat (rCall true true call ("write_by", none) 1 [(rD (rIx (rL 0) (rK (.int 1))))]) [(rK (.str " order ")), (rL 6), (rJs [(fK " first "), (fV (rIx (rL 0) (rK (.int 3))))])])))]) (sBody []))
def s_write_rest_10 (call : CallT) : CS := (sIf (tCmp .Eq (rL 1) (rK (.str "window"))) (sBody [(sRet (rD (rCat (rCall true true call ("write_by", none) 1 [(rD (rIx (rL 0) (rK (.int 1))))]) [(rCall true true call ("write_window", none) 1 [(rD (rIx (rL 0) (rK (.int 2))))]), (rCall true true call ("write_with", none) 1 [(rD (rIx (rL 0) (rK (.int 3))))])])))]) (sBody []))
def s_write_rest_11 (call : CallT) : CS := (sIf (tCmp .Eq (rL 1) (rK (.str "near"))) (sBody [(sRet (rD (rBin .Add (rCall true true call ("write_on", none) 1 [(rD (rIx (rL 0) (rK (.int 1))))]) (rJs [(fK " from "), (fV (rIx (rL 0) (rK (.int 2)))), (fK " to "), (fV (rIx (rL 0) (rK (.int 3)))), (fK " keep "), (fV (rIx (rL 0) (rK (.int 4))))]))))]) (sBody []))
def s_write_rest_12 (call : CallT) : CS := (sIf (tCmp .Eq (rL 1) (rK (.str "asof"))) (sBody [(sRet (rD (rBin .Add (rCall true true call ("write_on", none) 1 [(rD (rIx (rL 0) (rK (.int 1))))]) (rJs [(fK " keep "), (fV (rIx (rL 0) (rK (.int 2))))]))))]) (sBody []))
def s_write_rest_13 (call : CallT) : CS := (sIf (tCmp .Eq (rL 1) (rK (.str "join"))) (sBody [(sRet (rD (rCall true true call ("write_on", none) 1 [(rD (rIx (rL 0) (rK (.int 1))))])))]) (sBody []))
def s_write_rest_14 (call : CallT) : CS := (sIf (tCmp .Eq (rL 1) (rK (.str "first"))) (sBody [(sRet (rD (rBin .Add (rCall true true call ("write_by", none) 1 [(rD (rIx (rL 0) (rK (.int 1))))]) (rJs [(fK " ttl "), (fV (rIx (rL 0) (rK (.int 2))))]))))]) (sBody []))
def s_write_rest_15 (call : CallT) : CS := (sRet (rD (rK (.str ""))))
def b_write_rest (call : CallT) : CS := sBody [(s_write_rest_1 call), (s_write_rest_3 call), (s_write_rest_4 call), (s_write_rest_6 call), (s_write_rest_7 call), (s_write_rest_9 call), (s_write_rest_10 call), (s_write_rest_11 call), (s_write_rest_12 call), (s_write_rest_13 call), (s_write_rest_14 call), (s_write_rest_15 call)]
theorem m_write_rest (call : CallT) (ws : List W) (S : Store) : runB cf call f_write_rest ws S = endR S.length (b_write_rest call (startE f_write_rest.N ws) S) := by kernel_rfl
theorem e_write_rest (c : Nat) (w0 : W) (S : Store) : runF cf (c + 1) ("write_rest", none) [w0] S = endR S.length (b_write_rest (runF cf c) [some w0, none, none, none, none, none, none, none] S) := (show runF cf (c + 1) ("write_rest", none) [w0] S = runB cf (runF cf c) f_write_rest [w0] S by kernel_rfl).trans (m_write_rest _ _ S)
def f_node_name : Fn := ⟨("node_name", none), "node_name", ["number"], ["number"], top 58, [], [false], false⟩
def s_node_name_1 (call : CallT) : CS := (sRet (rD (rJs [(fK "n"), (fV (rL 0))])))
def b_node_name (call : CallT) : CS := sBody [(s_node_name_1 call)]
theorem m_node_name (call : CallT) (ws : List W) (S : Store) : runB cf call f_node_name ws S = endR S.length (b_node_name call (startE f_node_name.N ws) S) := by kernel_rfl
theorem e_node_name (c : Nat) (w0 : W) (S : Store) : runF cf (c + 1) ("node_name", none) [w0] S = endR S.length (b_node_name (runF cf c) [some w0] S) := (show runF cf (c + 1) ("node_name", none) [w0] S = runB cf (runF cf c) f_node_name [w0] S by kernel_rfl).trans (m_node_name _ _ S)
def f_format_node : Fn := ⟨("format_node", none), "format_node", ["number", "node"], ["number", "node", "operator", "inputs", "text", "other"], top 59, [], [false, false], false⟩
def s_format_node_1 (call : CallT) : CS := (sSetT [2, 3] (rL 1))
def s_format_node_2 (call : CallT) : CS := (sSet 4 (rCat (rCall true true call ("node_name", none) 1 [(rD (rL 0))]) [(rK (.str " = ")), (rIx (rL 2) (rK (.int 0)))]))
def c_format_node_3 (call : CallT) : CR := (rKeep (rCall false true call ("node_name", none) 1 [(rD (rL 5))]))
def s_format_node_4 (call : CallT) : CS := (sIf (tR (rL 3)) (sBody [(sSet 4 (rCat (rL 4) [(rK (.str " ")), (rJoin (rK (.str ", ")) (rLC (rComp (sRaw (rL 3)) [5] (.one 5) tYes (c_format_node_3 call))))]))]) (sBody []))
def s_format_node_5 (call : CallT) : CS := (sRet (rD (rBin .Add (rL 4) (rCall true true call ("write_rest", none) 1 [(rD (rL 2))]))))
def b_format_node (call : CallT) : CS := sBody [(s_format_node_1 call), (s_format_node_2 call), (s_format_node_4 call), (s_format_node_5 call)]
theorem m_format_node (call : CallT) (ws : List W) (S : Store) : runB cf call f_format_node ws S = endR S.length (b_format_node call (startE f_format_node.N ws) S) := by kernel_rfl
theorem e_format_node (c : Nat) (w0 : W) (w1 : W) (S : Store) : runF cf (c + 1) ("format_node", none) [w0, w1] S = endR S.length (b_format_node (runF cf c) [some w0, some w1, none, none, none, none] S) := (show runF cf (c + 1) ("format_node", none) [w0, w1] S = runB cf (runF cf c) f_format_node [w0, w1] S by kernel_rfl).trans (m_format_node _ _ S)
def f_format_plan : Fn := ⟨("format_plan", none), "format_plan", ["plan"], ["plan", "number", "node"], top 60, [], [false], false⟩
def c_format_plan_1 (call : CallT) : CR := (rKeep (rBin .Add (rCall false true call ("format_node", none) 2 [(rD (rL 1)), (rD (rL 2))]) (rK (.str "\n"))))
def s_format_plan_2 (call : CallT) : CS := (sRet (rD (rJoin (rK (.str "")) (rLC (rComp (sEnum (rL 0)) [1, 2] (.many [1, 2]) tYes (c_format_plan_1 call))))))
def b_format_plan (call : CallT) : CS := sBody [(s_format_plan_2 call)]
theorem m_format_plan (call : CallT) (ws : List W) (S : Store) : runB cf call f_format_plan ws S = endR S.length (b_format_plan call (startE f_format_plan.N ws) S) := by kernel_rfl
theorem e_format_plan (c : Nat) (w0 : W) (S : Store) : runF cf (c + 1) ("format_plan", none) [w0] S = endR S.length (b_format_plan (runF cf c) [some w0, none, none] S) := (show runF cf (c + 1) ("format_plan", none) [w0] S = runB cf (runF cf c) f_format_plan [w0] S by kernel_rfl).trans (m_format_plan _ _ S)
def f_describe : Fn := ⟨("describe", none), "describe", ["plan", "number", "kinds"], ["plan", "number", "kinds", "operator", "fields", "kind", "told", "name", "word"], top 62, [], [false, false, false], false⟩
def s_describe_1 (call : CallT) : CS := (sSet 3 (rIx (rIx (rL 0) (rL 1)) (rK (.int 0))))
def s_describe_2 (call : CallT) : CS := (sSetT [4, 5] (rIx (rL 2) (rL 1)))
def c_describe_3 (call : CallT) : CR := (rKeep (rCat (rCall false true call ("write_name", none) 1 [(rD (rL 7))]) [(rK (.str " ")), (rL 8)]))
def s_describe_4 (call : CallT) : CS := (sSet 6 (rJoin (rK (.str ", ")) (rLC (rComp (sRaw (rL 4)) [7, 8] (.many [7, 8]) tYes (c_describe_3 call)))))
def s_describe_5 (call : CallT) : CS := (sIf (tCmp .Eq (rIx (rL 3) (rK (.int 0))) (rK (.str "source"))) (sBody [(sRet (rD (rCat (rCall true true call ("node_name", none) 1 [(rD (rL 1))]) [(rK (.str " source ")), (rCall true true call ("write_name", none) 1 [(rD (rIx (rL 3) (rK (.int 1))))]), (rK (.str ": ")), (rL 6), (rK (.str " (")), (rL 5), (rK (.str ")"))])))]) (sBody []))
def s_describe_6 (call : CallT) : CS := (sRet (rD (rCat (rCall true true call ("node_name", none) 1 [(rD (rL 1))]) [(rK (.str " ")), (rIx (rL 3) (rK (.int 0))), (rCall true true call ("write_rest", none) 1 [(rD (rL 3))]), (rK (.str ": ")), (rL 6), (rK (.str " (")), (rL 5), (rK (.str ")"))])))
def b_describe (call : CallT) : CS := sBody [(s_describe_1 call), (s_describe_2 call), (s_describe_4 call), (s_describe_5 call), (s_describe_6 call)]
theorem m_describe (call : CallT) (ws : List W) (S : Store) : runB cf call f_describe ws S = endR S.length (b_describe call (startE f_describe.N ws) S) := by kernel_rfl
theorem e_describe (c : Nat) (w0 : W) (w1 : W) (w2 : W) (S : Store) : runF cf (c + 1) ("describe", none) [w0, w1, w2] S = endR S.length (b_describe (runF cf c) [some w0, some w1, some w2, none, none, none, none, none, none] S) := (show runF cf (c + 1) ("describe", none) [w0, w1, w2] S = runB cf (runF cf c) f_describe [w0, w1, w2] S by kernel_rfl).trans (m_describe _ _ S)
def f_draw : Fn := ⟨("draw", none), "draw", ["plan", "number", "indent", "kinds", "seen", "lines"], ["plan", "number", "indent", "kinds", "seen", "lines", "other"], top 63, [], [false, false, false, false, true, true], false⟩
def s_draw_1 (call : CallT) : CS := (sIf (tIn false (rL 1) (rL 4)) (sBody [(sX (rApp (rL 5) (rCat (rL 2) [(rCall true true call ("node_name", none) 1 [(rD (rL 1))]), (rK (.str " as above"))]))), sRet0]) (sBody []))
def s_draw_2 (call : CallT) : CS := (sX (rApp (rL 4) (rL 1)))
def s_draw_3 (call : CallT) : CS := (sX (rApp (rL 5) (rBin .Add (rL 2) (rCall true true call ("describe", none) 3 [(rD (rL 0)), (rD (rL 1)), (rD (rL 3))]))))
def l_draw_4 (call : CallT) : CS := (sBody [(sX (rCall true true call ("draw", none) 6 [(rD (rL 0)), (rD (rL 6)), (rD (rBin .Add (rL 2) (rK (.str "  ")))), (rD (rL 3)), (rL 4), (rL 5)]))])
def s_draw_5 (call : CallT) : CS := (sFor (sRaw (rIx (rIx (rL 0) (rL 1)) (rK (.int 1)))) (.one 6) (l_draw_4 call))
def b_draw (call : CallT) : CS := sBody [(s_draw_1 call), (s_draw_2 call), (s_draw_3 call), (s_draw_5 call)]
theorem m_draw (call : CallT) (ws : List W) (S : Store) : runB cf call f_draw ws S = endR S.length (b_draw call (startE f_draw.N ws) S) := by kernel_rfl
theorem e_draw (c : Nat) (w0 : W) (w1 : W) (w2 : W) (w3 : W) (w4 : W) (w5 : W) (S : Store) : runF cf (c + 1) ("draw", none) [w0, w1, w2, w3, w4, w5] S = endR S.length (b_draw (runF cf c) [some w0, some w1, some w2, some w3, some w4, some w5, none] S) := (show runF cf (c + 1) ("draw", none) [w0, w1, w2, w3, w4, w5] S = runB cf (runF cf c) f_draw [w0, w1, w2, w3, w4, w5] S by kernel_rfl).trans (m_draw _ _ S)
def f_outline : Fn := ⟨("outline", none), "outline", ["plan"], ["plan", "kinds", "lines", "line"], top 64, ["lines"], [false], false⟩
def s_outline_1 (call : CallT) : CS := (sSet 1 (rCall true true call ("fields_of", none) 1 [(rD (rL 0))]))
def s_outline_2 (call : CallT) : CS := (sSet 2 (aLst []))
def s_outline_3 (call : CallT) : CS := (sX (rCall true true call ("draw", none) 6 [(rD (rL 0)), (rD (rBin .Sub (rLen (rL 0)) (rK (.int 1)))), (rD (rK (.str ""))), (rD (rL 1)), (aLst []), (rL 2)]))
def c_outline_4 (call : CallT) : CR := (rKeep (rBin .Add (rL 3) (rK (.str "\n"))))
def s_outline_5 (call : CallT) : CS := (sRet (rD (rJoin (rK (.str "")) (rLC (rComp (sRaw (rL 2)) [3] (.one 3) tYes (c_outline_4 call))))))
def b_outline (call : CallT) : CS := sBody [(s_outline_1 call), (s_outline_2 call), (s_outline_3 call), (s_outline_5 call)]
theorem m_outline (call : CallT) (ws : List W) (S : Store) : runB cf call f_outline ws S = endR S.length (b_outline call (startE f_outline.N ws) S) := by kernel_rfl
theorem e_outline (c : Nat) (w0 : W) (S : Store) : runF cf (c + 1) ("outline", none) [w0] S = endR S.length (b_outline (runF cf c) [some w0, none, none, none] S) := (show runF cf (c + 1) ("outline", none) [w0] S = runB cf (runF cf c) f_outline [w0] S by kernel_rfl).trans (m_outline _ _ S)
def f__law_events : Fn := ⟨("_law_events", none), "_law_events", [], [], top 66, [], [], false⟩
def s__law_events_1 (call : CallT) : CS := (sRet (rD (rTup [(rTup [(rK (.str "user")), (rK (.str "text"))]), (rTup [(rK (.str "price")), (rK (.str "whole"))])])))
def b__law_events (call : CallT) : CS := sBody [(s__law_events_1 call)]
theorem m__law_events (call : CallT) (ws : List W) (S : Store) : runB cf call f__law_events ws S = endR S.length (b__law_events call (startE f__law_events.N ws) S) := by kernel_rfl
theorem e__law_events (c : Nat) (S : Store) : runF cf (c + 1) ("_law_events", none) [] S = endR S.length (b__law_events (runF cf c) [] S) := (show runF cf (c + 1) ("_law_events", none) [] S = runB cf (runF cf c) f__law_events [] S by kernel_rfl).trans (m__law_events _ _ S)
def f__law_others : Fn := ⟨("_law_others", none), "_law_others", [], [], top 67, [], [], false⟩
def s__law_others_1 (call : CallT) : CS := (sRet (rD (rTup [(rTup [(rK (.str "name")), (rK (.str "text"))]), (rTup [(rK (.str "size")), (rK (.str "whole"))])])))
def b__law_others (call : CallT) : CS := sBody [(s__law_others_1 call)]
theorem m__law_others (call : CallT) (ws : List W) (S : Store) : runB cf call f__law_others ws S = endR S.length (b__law_others call (startE f__law_others.N ws) S) := by kernel_rfl
theorem e__law_others (c : Nat) (S : Store) : runF cf (c + 1) ("_law_others", none) [] S = endR S.length (b__law_others (runF cf c) [] S) := (show runF cf (c + 1) ("_law_others", none) [] S = runB cf (runF cf c) f__law_others [] S by kernel_rfl).trans (m__law_others _ _ S)
def f__law_counts : Fn := ⟨("_law_counts", none), "_law_counts", [], [], top 68, [], [], false⟩
def s__law_counts_1 (call : CallT) : CS := (sRet (rD (rTup [(rTup [(rK (.str "n")), (rK (.str "count")), (rK .non)]), (rTup [(rK (.str "m")), (rK (.str "most")), (rK (.str "price"))])])))
def b__law_counts (call : CallT) : CS := sBody [(s__law_counts_1 call)]
theorem m__law_counts (call : CallT) (ws : List W) (S : Store) : runB cf call f__law_counts ws S = endR S.length (b__law_counts call (startE f__law_counts.N ws) S) := by kernel_rfl
theorem e__law_counts (c : Nat) (S : Store) : runF cf (c + 1) ("_law_counts", none) [] S = endR S.length (b__law_counts (runF cf c) [] S) := (show runF cf (c + 1) ("_law_counts", none) [] S = runB cf (runF cf c) f__law_counts [] S by kernel_rfl).trans (m__law_counts _ _ S)
def f__law_cell : Fn := ⟨("_law_cell", none), "_law_cell", ["script", "k"], ["script", "k"], top 69, [], [false, false], false⟩
def s__law_cell_1 (call : CallT) : CS := (sIf (tCmp .Lt (rL 1) (rLen (rL 0))) (sBody [(sRet (rD (rIx (rL 0) (rL 1))))]) (sBody []))
def s__law_cell_2 (call : CallT) : CS := (sRet (rD (rK (.int 0))))
def b__law_cell (call : CallT) : CS := sBody [(s__law_cell_1 call), (s__law_cell_2 call)]
theorem m__law_cell (call : CallT) (ws : List W) (S : Store) : runB cf call f__law_cell ws S = endR S.length (b__law_cell call (startE f__law_cell.N ws) S) := by kernel_rfl
theorem e__law_cell (c : Nat) (w0 : W) (w1 : W) (S : Store) : runF cf (c + 1) ("_law_cell", none) [w0, w1] S = endR S.length (b__law_cell (runF cf c) [some w0, some w1] S) := (show runF cf (c + 1) ("_law_cell", none) [w0, w1] S = runB cf (runF cf c) f__law_cell [w0, w1] S by kernel_rfl).trans (m__law_cell _ _ S)
def f__law_is_integer : Fn := ⟨("_law_is_integer", none), "_law_is_integer", ["told"], ["told"], top 70, [], [false], false⟩
def s__law_is_integer_1 (call : CallT) : CS := (sRet (rD (rBool .And [(rIs "int" (rL 0)), (rNot (rIs "bool" (rL 0)))])))
def b__law_is_integer (call : CallT) : CS := sBody [(s__law_is_integer_1 call)]
theorem m__law_is_integer (call : CallT) (ws : List W) (S : Store) : runB cf call f__law_is_integer ws S = endR S.length (b__law_is_integer call (startE f__law_is_integer.N ws) S) := by kernel_rfl
theorem e__law_is_integer (c : Nat) (w0 : W) (S : Store) : runF cf (c + 1) ("_law_is_integer", none) [w0] S = endR S.length (b__law_is_integer (runF cf c) [some w0] S) := (show runF cf (c + 1) ("_law_is_integer", none) [w0] S = runB cf (runF cf c) f__law_is_integer [w0] S by kernel_rfl).trans (m__law_is_integer _ _ S)
def f__law_start : Fn := ⟨("_law_start", none), "_law_start", ["cell", "k"], ["cell", "k"], top 71, [], [false, false], true⟩
def s__law_start_1 (call : CallT) : CS := (sRet (aLst [(rBin .Mod (rF1 intR (rBin .Add (rBin .Mult (rL 0) (rK (.int 2654435761))) (rBin .Mult (rBin .Add (rL 1) (rK (.int 1))) (rK (.int 6700417))))) (rK (.int 18446744073709551557)))]))
def b__law_start (call : CallT) : CS := sBody [(s__law_start_1 call)]
theorem m__law_start (call : CallT) (ws : List W) (S : Store) : runB cf call f__law_start ws S = endR S.length (b__law_start call (startE f__law_start.N ws) S) := by kernel_rfl
theorem e__law_start (c : Nat) (w0 : W) (w1 : W) (S : Store) : runF cf (c + 1) ("_law_start", none) [w0, w1] S = endR S.length (b__law_start (runF cf c) [some w0, some w1] S) := (show runF cf (c + 1) ("_law_start", none) [w0, w1] S = runB cf (runF cf c) f__law_start [w0, w1] S by kernel_rfl).trans (m__law_start _ _ S)
def f__law_digit : Fn := ⟨("_law_digit", none), "_law_digit", ["state", "many"], ["state", "many"], top 72, [], [true, false], false⟩
def s__law_digit_1 (call : CallT) : CS := (sPut (rL 0) (rK (.int 0)) (rBin .Mod (rF1 intR (rBin .Add (rBin .Mult (rIx (rL 0) (rK (.int 0))) (rK (.int 6364136223846793005))) (rK (.int 1442695040888963407)))) (rK (.int 18446744073709551557))))
def s__law_digit_2 (call : CallT) : CS := (sRet (rD (rBin .Mod (rF1 intR (rBin .FloorDiv (rIx (rL 0) (rK (.int 0))) (rK (.int 65536)))) (rL 1))))
def b__law_digit (call : CallT) : CS := sBody [(s__law_digit_1 call), (s__law_digit_2 call)]
theorem m__law_digit (call : CallT) (ws : List W) (S : Store) : runB cf call f__law_digit ws S = endR S.length (b__law_digit call (startE f__law_digit.N ws) S) := by kernel_rfl
theorem e__law_digit (c : Nat) (w0 : W) (w1 : W) (S : Store) : runF cf (c + 1) ("_law_digit", none) [w0, w1] S = endR S.length (b__law_digit (runF cf c) [some w0, some w1] S) := (show runF cf (c + 1) ("_law_digit", none) [w0, w1] S = runB cf (runF cf c) f__law_digit [w0, w1] S by kernel_rfl).trans (m__law_digit _ _ S)
def f__law_chain : Fn := ⟨("_law_chain", none), "_law_chain", ["state"], ["state", "price", "some", "chains", "plan", "kind", "operator"], top 73, ["plan"], [true], true⟩
def s__law_chain_1 (call : CallT) : CS := (sSet 1 (rTup [(rK (.str "column")), (rK (.str "price"))]))
def s__law_chain_2 (call : CallT) : CS := (sSet 2 (rBin .Add (rK (.int 1)) (rCall true true call ("_law_digit", none) 2 [(rL 0), (rD (rK (.int 5)))])))
def s__law_chain_3 (call : CallT) : CS := (sSet 3 (rLst [(rLst [(rTup [(rK (.str "filter")), (rTup [(rK (.str "binary")), (rK (.str "<")), (rTup [(rK (.str "value")), (rK (.int 0))]), (rL 1)])])]), (rLst [(rTup [(rK (.str "map")), (rTup [(rTup [(rK (.str "user")), (rTup [(rK (.str "column")), (rK (.str "user"))])]), (rTup [(rK (.str "price")), (rTup [(rK (.str "binary")), (rK (.str "+")), (rL 1), (rTup [(rK (.str "value")), (rK (.int 1))])])])])])]), (rLst []), (rLst [(rTup [(rK (.str "distinct"))])]), (rLst [(rTup [(rK (.str "first")), (rTup [(rK (.str "user"))]), (rL 2)])])]))
def s__law_chain_4 (call : CallT) : CS := (sSet 4 (aLst [(rTup [(rTup [(rK (.str "source")), (rK (.str "s")), (rCall true true call ("_law_events", none) 0 [])]), (rTup [])])]))
def s__law_chain_5 (call : CallT) : CS := (sSet 5 (rCall true true call ("_law_digit", none) 2 [(rL 0), (rD (rK (.int 5)))]))
def l__law_chain_6 (call : CallT) : CS := (sBody [(sX (rApp (rL 4) (rTup [(rL 6), (rTup [(rBin .Sub (rLen (rL 4)) (rK (.int 1)))])])))])
def s__law_chain_7 (call : CallT) : CS := (sFor (sRaw (rBin .Add (rIx (rL 3) (rL 5)) (rIx (rL 3) (rCall true true call ("_law_digit", none) 2 [(rL 0), (rD (rIx (rTup [(rK (.int 5)), (rK (.int 3))]) (rF1 intR (rT (tCmp .Eq (rL 5) (rK (.int 3)))))))])))) (.one 6) (l__law_chain_6 call))
def s__law_chain_8 (call : CallT) : CS := (sRet (rL 4))
def b__law_chain (call : CallT) : CS := sBody [(s__law_chain_1 call), (s__law_chain_2 call), (s__law_chain_3 call), (s__law_chain_4 call), (s__law_chain_5 call), (s__law_chain_7 call), (s__law_chain_8 call)]
theorem m__law_chain (call : CallT) (ws : List W) (S : Store) : runB cf call f__law_chain ws S = endR S.length (b__law_chain call (startE f__law_chain.N ws) S) := by kernel_rfl
theorem e__law_chain (c : Nat) (w0 : W) (S : Store) : runF cf (c + 1) ("_law_chain", none) [w0] S = endR S.length (b__law_chain (runF cf c) [some w0, none, none, none, none, none, none] S) := (show runF cf (c + 1) ("_law_chain", none) [w0] S = runB cf (runF cf c) f__law_chain [w0] S by kernel_rfl).trans (m__law_chain _ _ S)
def f__law_ending : Fn := ⟨("_law_ending", none), "_law_ending", ["state", "plan"], ["state", "plan", "kind", "some", "last", "keys", "windows", "is_events", "node"], top 74, [], [true, true], false⟩
def s__law_ending_1 (call : CallT) : CS := (sSet 2 (rCall true true call ("_law_digit", none) 2 [(rL 0), (rD (rK (.int 6)))]))
def s__law_ending_2 (call : CallT) : CS := (sSet 3 (rBin .Add (rK (.int 1)) (rCall true true call ("_law_digit", none) 2 [(rL 0), (rD (rK (.int 5)))])))
def s__law_ending_3 (call : CallT) : CS := (sSet 4 (rTup [(rBin .Sub (rLen (rL 1)) (rK (.int 1)))]))
def s__law_ending_4 (call : CallT) : CS := (sSet 5 (rIx (rTup [(rTup [(rK (.str "user"))]), (rTup []), (rTup [(rK (.str "price")), (rK (.str "user"))])]) (rCall true true call ("_law_digit", none) 2 [(rL 0), (rD (rK (.int 3)))])))
def s__law_ending_5 (call : CallT) : CS := (sSet 6 (rTup [(rTup [(rK (.str "tumble")), (rL 3)]), (rTup [(rK (.str "hop")), (rBin .Add (rL 3) (rK (.int 2))), (rK (.int 2))]), (rTup [(rK (.str "session")), (rL 3)])]))
def t__law_ending_6 (call : CallT) : CT := (tCmp .Eq (rIx (rIx (rL 8) (rK (.int 0))) (rK (.int 0))) (rK (.str "distinct")))
def c__law_ending_7 (call : CallT) : CR := (rKeep (rL 8))
def s__law_ending_8 (call : CallT) : CS := (sSet 7 (rT (tCmp .Eq (rLen (rLC (rComp (sRaw (rL 1)) [8] (.one 8) (t__law_ending_6 call) (c__law_ending_7 call)))) (rK (.int 0)))))
def s__law_ending_9 (call : CallT) : CS := (sIf (tBool .And [(tCmp .Lt (rL 2) (rK (.int 3))), (tR (rL 7))]) (sBody [(sX (rApp (rL 1) (rTup [(rTup [(rK (.str "window")), (rL 5), (rIx (rL 6) (rL 2)), (rTup [(rTup [(rK (.str "n")), (rK (.str "count")), (rK .non)]), (rTup [(rK (.str "f")), (rK (.str "last")), (rK (.str "price"))])])]), (rL 4)]))), (sX (rApp (rL 1) (rTup [(rTup [(rK (.str "group")), (rTup [(rK (.str "n"))]), (rTup [(rTup [(rK (.str "c")), (rK (.str "count")), (rK .non)])])]), (rTup [(rBin .Sub (rLen (rL 1)) (rK (.int 1)))])]))), (sRet (rD (rSl (rL 1) none (some (rBin .Sub (rLen (rL 1)) (rCall true true call ("_law_digit", none) 2 [(rL 0), (rD (rK (.int 2)))]))))))]) (sBody []))
def s__law_ending_10 (call : CallT) : CS := (sIf (tCmp .Eq (rL 2) (rK (.int 4))) (sBody [(sRet (rD (rBin .Add (rL 1) (rLst [(rTup [(rTup [(rK (.str "top")), (rL 5), (rTup [(rTup [(rK (.str "price")), (rK (.str "down"))])]), (rL 3)]), (rL 4)])]))))]) (sBody []))
def s__law_ending_11 (call : CallT) : CS := (sRet (rD (rBin .Add (rL 1) (rLst [(rTup [(rTup [(rK (.str "group")), (rL 5), (rCall true true call ("_law_counts", none) 0 [])]), (rL 4)])]))))
def b__law_ending (call : CallT) : CS := sBody [(s__law_ending_1 call), (s__law_ending_2 call), (s__law_ending_3 call), (s__law_ending_4 call), (s__law_ending_5 call), (s__law_ending_8 call), (s__law_ending_9 call), (s__law_ending_10 call), (s__law_ending_11 call)]
theorem m__law_ending (call : CallT) (ws : List W) (S : Store) : runB cf call f__law_ending ws S = endR S.length (b__law_ending call (startE f__law_ending.N ws) S) := by kernel_rfl
theorem e__law_ending (c : Nat) (w0 : W) (w1 : W) (S : Store) : runF cf (c + 1) ("_law_ending", none) [w0, w1] S = endR S.length (b__law_ending (runF cf c) [some w0, some w1, none, none, none, none, none, none, none] S) := (show runF cf (c + 1) ("_law_ending", none) [w0, w1] S = runB cf (runF cf c) f__law_ending [w0, w1] S by kernel_rfl).trans (m__law_ending _ _ S)
def f__law_two : Fn := ⟨("_law_two", none), "_law_two", ["state", "plan"], ["state", "plan", "on", "keep", "low", "left", "kind", "is_events", "node", "names"], top 75, [], [true, true], false⟩
def s__law_two_1 (call : CallT) : CS := (sSet 2 (rIx (rTup [(rTup [(rTup [(rK (.str "user")), (rK (.str "name"))])]), (rTup [(rTup [(rK (.str "price")), (rK (.str "size"))]), (rTup [(rK (.str "user")), (rK (.str "name"))])])]) (rCall true true call ("_law_digit", none) 2 [(rL 0), (rD (rK (.int 2)))])))
def s__law_two_2 (call : CallT) : CS := (sSet 3 (rIx (rTup [(rK (.str "inner")), (rK (.str "left"))]) (rCall true true call ("_law_digit", none) 2 [(rL 0), (rD (rK (.int 2)))])))
def s__law_two_3 (call : CallT) : CS := (sSet 4 (rBin .Sub (rCall true true call ("_law_digit", none) 2 [(rL 0), (rD (rK (.int 7)))]) (rK (.int 4))))
def s__law_two_4 (call : CallT) : CS := (sSet 5 (rBin .Sub (rLen (rL 1)) (rK (.int 1))))
def s__law_two_5 (call : CallT) : CS := (sSet 6 (rCall true true call ("_law_digit", none) 2 [(rL 0), (rD (rK (.int 4)))]))
def t__law_two_6 (call : CallT) : CT := (tCmp .Eq (rIx (rIx (rL 8) (rK (.int 0))) (rK (.int 0))) (rK (.str "distinct")))
def c__law_two_7 (call : CallT) : CR := (rKeep (rL 8))
def s__law_two_8 (call : CallT) : CS := (sSet 7 (rT (tCmp .Eq (rLen (rLC (rComp (sRaw (rL 1)) [8] (.one 8) (t__law_two_6 call) (c__law_two_7 call)))) (rK (.int 0)))))
def s__law_two_9 (call : CallT) : CS := (sX (rApp (rL 1) (rTup [(rTup [(rK (.str "source")), (rK (.str "t")), (rCall true true call ("_law_others", none) 0 [])]), (rTup [])])))
def s__law_two_10 (call : CallT) : CS := (sSet 9 (rTup [(rTup [(rK (.str "user")), (rTup [(rK (.str "column")), (rK (.str "name"))])]), (rTup [(rK (.str "price")), (rTup [(rK (.str "column")), (rK (.str "size"))])])]))
def s__law_two_11 (call : CallT) : CS := (sIf (tCmp .Eq (rL 6) (rK (.int 0))) (sBody [(sX (rApp (rL 1) (rTup [(rTup [(rK (.str "map")), (rL 9)]), (rTup [(rBin .Add (rL 5) (rK (.int 1)))])]))), (sX (rApp (rL 1) (rTup [(rTup [(rK (.str "union"))]), (rTup [(rL 5), (rBin .Add (rL 5) (rK (.int 2)))])]))), (sRet (rD (rL 1)))]) (sBody []))
def s__law_two_12 (call : CallT) : CS := (sIf (tBool .Or [(tCmp .Eq (rL 6) (rK (.int 1))), (tNot (tR (rL 7)))]) (sBody [(sRet (rD (rBin .Add (rL 1) (rLst [(rTup [(rTup [(rK (.str "join")), (rL 2)]), (rTup [(rL 5), (rBin .Add (rL 5) (rK (.int 1)))])])]))))]) (sBody []))
def s__law_two_13 (call : CallT) : CS := (sIf (tCmp .Eq (rL 6) (rK (.int 2))) (sBody [(sRet (rD (rBin .Add (rL 1) (rLst [(rTup [(rTup [(rK (.str "asof")), (rL 2), (rL 3)]), (rTup [(rL 5), (rBin .Add (rL 5) (rK (.int 1)))])])]))))]) (sBody []))
def s__law_two_14 (call : CallT) : CS := (sRet (rD (rBin .Add (rL 1) (rLst [(rTup [(rTup [(rK (.str "near")), (rL 2), (rL 4), (rBin .Add (rL 4) (rCall true true call ("_law_digit", none) 2 [(rL 0), (rD (rK (.int 5)))])), (rL 3)]), (rTup [(rL 5), (rBin .Add (rL 5) (rK (.int 1)))])])]))))
def b__law_two (call : CallT) : CS := sBody [(s__law_two_1 call), (s__law_two_2 call), (s__law_two_3 call), (s__law_two_4 call), (s__law_two_5 call), (s__law_two_8 call), (s__law_two_9 call), (s__law_two_10 call), (s__law_two_11 call), (s__law_two_12 call), (s__law_two_13 call), (s__law_two_14 call)]
theorem m__law_two (call : CallT) (ws : List W) (S : Store) : runB cf call f__law_two ws S = endR S.length (b__law_two call (startE f__law_two.N ws) S) := by kernel_rfl
theorem e__law_two (c : Nat) (w0 : W) (w1 : W) (S : Store) : runF cf (c + 1) ("_law_two", none) [w0, w1] S = endR S.length (b__law_two (runF cf c) [some w0, some w1, none, none, none, none, none, none, none, none] S) := (show runF cf (c + 1) ("_law_two", none) [w0, w1] S = runB cf (runF cf c) f__law_two [w0, w1] S by kernel_rfl).trans (m__law_two _ _ S)
def f__law_fan : Fn := ⟨("_law_fan", none), "_law_fan", ["plan"], ["plan", "last", "price"], top 76, [], [false], true⟩
def s__law_fan_1 (call : CallT) : CS := (sSet 1 (rBin .Sub (rLen (rL 0)) (rK (.int 1))))
def s__law_fan_2 (call : CallT) : CS := (sSet 2 (rTup [(rK (.str "column")), (rK (.str "price"))]))
def s__law_fan_3 (call : CallT) : CS := (sRet (aCat (rL 0) (rLst [(rTup [(rTup [(rK (.str "filter")), (rTup [(rK (.str "binary")), (rK (.str "<")), (rTup [(rK (.str "value")), (rK (.int 0))]), (rL 2)])]), (rTup [(rL 1)])]), (rTup [(rTup [(rK (.str "union"))]), (rTup [(rL 1), (rBin .Add (rL 1) (rK (.int 1)))])])])))
def b__law_fan (call : CallT) : CS := sBody [(s__law_fan_1 call), (s__law_fan_2 call), (s__law_fan_3 call)]
theorem m__law_fan (call : CallT) (ws : List W) (S : Store) : runB cf call f__law_fan ws S = endR S.length (b__law_fan call (startE f__law_fan.N ws) S) := by kernel_rfl
theorem e__law_fan (c : Nat) (w0 : W) (S : Store) : runF cf (c + 1) ("_law_fan", none) [w0] S = endR S.length (b__law_fan (runF cf c) [some w0, none, none] S) := (show runF cf (c + 1) ("_law_fan", none) [w0] S = runB cf (runF cf c) f__law_fan [w0] S by kernel_rfl).trans (m__law_fan _ _ S)
def f__law_plan : Fn := ⟨("_law_plan", none), "_law_plan", ["state"], ["state", "plan"], top 77, ["plan"], [true], false⟩
def s__law_plan_1 (call : CallT) : CS := (sSet 1 (rCall true false call ("_law_chain", none) 1 [(rL 0)]))
def s__law_plan_2 (call : CallT) : CS := (sIf (tCmp .Eq (rCall true true call ("_law_digit", none) 2 [(rL 0), (rD (rK (.int 3)))]) (rK (.int 0))) (sBody [(sSet 1 (rCall true false call ("_law_fan", none) 1 [(rD (rL 1))]))]) (sBody []))
def s__law_plan_3 (call : CallT) : CS := (sIf (tCmp .Eq (rCall true true call ("_law_digit", none) 2 [(rL 0), (rD (rK (.int 2)))]) (rK (.int 0))) (sBody [(sRet (rD (rF1 tupleR (rCall true true call ("_law_ending", none) 2 [(rL 0), (rL 1)]))))]) (sBody []))
def s__law_plan_4 (call : CallT) : CS := (sRet (rD (rF1 tupleR (rCall true true call ("_law_two", none) 2 [(rL 0), (rL 1)]))))
def b__law_plan (call : CallT) : CS := sBody [(s__law_plan_1 call), (s__law_plan_2 call), (s__law_plan_3 call), (s__law_plan_4 call)]
theorem m__law_plan (call : CallT) (ws : List W) (S : Store) : runB cf call f__law_plan ws S = endR S.length (b__law_plan call (startE f__law_plan.N ws) S) := by kernel_rfl
theorem e__law_plan (c : Nat) (w0 : W) (S : Store) : runF cf (c + 1) ("_law_plan", none) [w0] S = endR S.length (b__law_plan (runF cf c) [some w0, none] S) := (show runF cf (c + 1) ("_law_plan", none) [w0] S = runB cf (runF cf c) f__law_plan [w0] S by kernel_rfl).trans (m__law_plan _ _ S)
def f__law_entries : Fn := ⟨("_law_entries", none), "_law_entries", ["state", "many", "whole"], ["state", "many", "whole", "entries", "mark", "k", "user"], top 78, [], [false, false, false], false⟩
def s__law_entries_1 (call : CallT) : CS := (sSet 3 (rLst []))
def s__law_entries_2 (call : CallT) : CS := (sSet 4 (rK (.int 0)))
def l__law_entries_3 (call : CallT) : CS := (sBody [(sIf (tCmp .Eq (rCall true true call ("_law_digit", none) 2 [(rL 0), (rD (rK (.int 3)))]) (rK (.int 0))) (sBody [(sSet 4 (rBin .Add (rL 4) (rCall true true call ("_law_digit", none) 2 [(rL 0), (rD (rK (.int 5)))]))), (sX (rApp (rL 3) (rTup [(rK (.str "mark")), (rF2 maxR (rK (.int 0)) (rBin .Sub (rL 4) (rCall true true call ("_law_digit", none) 2 [(rL 0), (rD (rK (.int 2)))])))])))]) (sBody [(sSet 6 (rIx (rTup [(rK (.str "a")), (rK (.str "b")), (rK (.str "c")), (rK (.str "d")), (rK .non)]) (rCall true true call ("_law_digit", none) 2 [(rL 0), (rD (rK (.int 5)))]))), (sX (rApp (rL 3) (rTup [(rK (.str "event")), (rBin .Add (rL 4) (rCall true true call ("_law_digit", none) 2 [(rL 0), (rD (rK (.int 6)))])), (rTup [(rL 6), (rIx (rTup [(rCall true true call ("_law_digit", none) 2 [(rL 0), (rD (rK (.int 3)))]), (rK .non)]) (rBin .FloorDiv (rCall true true call ("_law_digit", none) 2 [(rL 0), (rD (rK (.int 4)))]) (rK (.int 3))))])])))]))])
def s__law_entries_4 (call : CallT) : CS := (sFor (sRng1 (rCall true true call ("_law_digit", none) 2 [(rL 0), (rD (rL 1))])) (.one 5) (l__law_entries_3 call))
def s__law_entries_5 (call : CallT) : CS := (sIf (tR (rL 2)) (sBody [(sX (rApp (rL 3) (rTup [(rK (.str "mark")), (rK (.int 1000000))])))]) (sBody []))
def s__law_entries_6 (call : CallT) : CS := (sRet (rD (rL 3)))
def b__law_entries (call : CallT) : CS := sBody [(s__law_entries_1 call), (s__law_entries_2 call), (s__law_entries_4 call), (s__law_entries_5 call), (s__law_entries_6 call)]
theorem m__law_entries (call : CallT) (ws : List W) (S : Store) : runB cf call f__law_entries ws S = endR S.length (b__law_entries call (startE f__law_entries.N ws) S) := by kernel_rfl
theorem e__law_entries (c : Nat) (w0 : W) (w1 : W) (w2 : W) (S : Store) : runF cf (c + 1) ("_law_entries", none) [w0, w1, w2] S = endR S.length (b__law_entries (runF cf c) [some w0, some w1, some w2, none, none, none, none] S) := (show runF cf (c + 1) ("_law_entries", none) [w0, w1, w2] S = runB cf (runF cf c) f__law_entries [w0, w1, w2] S by kernel_rfl).trans (m__law_entries _ _ S)
def f__law_logs : Fn := ⟨("_law_logs", none), "_law_logs", ["state", "many", "whole"], ["state", "many", "whole", "logs", "k"], top 79, [], [false, false, false], false⟩
def s__law_logs_1 (call : CallT) : CS := (sSet 3 rBad)
def c__law_logs_2 (call : CallT) : CR := (rKeep (rCall false true call ("_law_entries", none) 3 [(rD (rL 0)), (rD (rL 1)), (rD (rL 2))]))
def s__law_logs_3 (call : CallT) : CS := (sPut (rL 3) (rK (.str "t")) (rLC (rComp (sRng1 (rBin .Add (rK (.int 1)) (rCall true true call ("_law_digit", none) 2 [(rL 0), (rD (rK (.int 2)))]))) [4] (.one 4) tYes (c__law_logs_2 call))))
def s__law_logs_4 (call : CallT) : CS := (sRet (rD (rL 3)))
def b__law_logs (call : CallT) : CS := sBody [(s__law_logs_1 call), (s__law_logs_3 call), (s__law_logs_4 call)]
theorem m__law_logs (call : CallT) (ws : List W) (S : Store) : runB cf call f__law_logs ws S = endR S.length (b__law_logs call (startE f__law_logs.N ws) S) := by kernel_rfl
theorem e__law_logs (c : Nat) (w0 : W) (w1 : W) (w2 : W) (S : Store) : runF cf (c + 1) ("_law_logs", none) [w0, w1, w2] S = endR S.length (b__law_logs (runF cf c) [some w0, some w1, some w2, none, none] S) := (show runF cf (c + 1) ("_law_logs", none) [w0, w1, w2] S = runB cf (runF cf c) f__law_logs [w0, w1, w2] S by kernel_rfl).trans (m__law_logs _ _ S)
def f__law_parallel : Fn := ⟨("_law_parallel", none), "_law_parallel", ["state", "plan"], ["state", "plan", "parallel", "operator", "inputs", "many"], top 80, [], [false, false], false⟩
def s__law_parallel_1 (call : CallT) : CS := (sSet 2 (rLst []))
def l__law_parallel_2 (call : CallT) : CS := (sBody [(sSet 5 (rIx (rTup [(rK (.int 1)), (rK (.int 2)), (rK (.int 2)), (rK (.int 3))]) (rCall true true call ("_law_digit", none) 2 [(rL 0), (rD (rK (.int 4)))]))), (sIf (tCmp .Eq (rIx (rL 3) (rK (.int 0))) (rK (.str "source"))) (sBody [(sSet 5 (rK (.int 1))), (sIf (tCmp .Eq (rIx (rL 3) (rK (.int 1))) (rK (.str "s"))) (sBody [(sSet 5 (rBin .Add (rK (.int 1)) (rCall true true call ("_law_digit", none) 2 [(rL 0), (rD (rK (.int 2)))])))]) (sBody []))]) (sBody [])), (sX (rApp (rL 2) (rL 5)))])
def s__law_parallel_3 (call : CallT) : CS := (sFor (sRaw (rL 1)) (.many [3, 4]) (l__law_parallel_2 call))
def s__law_parallel_4 (call : CallT) : CS := (sRet (rD (rL 2)))
def b__law_parallel (call : CallT) : CS := sBody [(s__law_parallel_1 call), (s__law_parallel_3 call), (s__law_parallel_4 call)]
theorem m__law_parallel (call : CallT) (ws : List W) (S : Store) : runB cf call f__law_parallel ws S = endR S.length (b__law_parallel call (startE f__law_parallel.N ws) S) := by kernel_rfl
theorem e__law_parallel (c : Nat) (w0 : W) (w1 : W) (S : Store) : runF cf (c + 1) ("_law_parallel", none) [w0, w1] S = endR S.length (b__law_parallel (runF cf c) [some w0, some w1, none, none, none, none] S) := (show runF cf (c + 1) ("_law_parallel", none) [w0, w1] S = runB cf (runF cf c) f__law_parallel [w0, w1] S by kernel_rfl).trans (m__law_parallel _ _ S)
def f__law_behind : Fn := ⟨("_law_behind", none), "_law_behind", ["plan", "number"], ["plan", "number", "line", "operator", "inputs", "ahead", "other"], top 81, [], [false, false], false⟩
def s__law_behind_1 (call : CallT) : CS := (sSet 2 (rIx (rSplit (rCall true true call ("format_plan", none) 1 [(rD (rL 0))]) (rK (.str "\n"))) (rL 1)))
def s__law_behind_2 (call : CallT) : CS := (sSetT [3, 4] (rIx (rL 0) (rL 1)))
def s__law_behind_3 (call : CallT) : CS := (sSet 5 (rCat (rK (.str "n")) [(rF1 strR (rL 1)), (rK (.str " = ")), (rIx (rL 3) (rK (.int 0)))]))
def c__law_behind_4 (call : CallT) : CR := (rKeep (rBin .Add (rK (.str "n")) (rF1 strR (rL 6))))
def s__law_behind_5 (call : CallT) : CS := (sIf (tCmp .Gt (rLen (rL 4)) (rK (.int 0))) (sBody [(sSet 5 (rCat (rL 5) [(rK (.str " ")), (rJoin (rK (.str ", ")) (rLC (rComp (sRaw (rL 4)) [6] (.one 6) tYes (c__law_behind_4 call))))]))]) (sBody []))
def s__law_behind_6 (call : CallT) : CS := (sRet (rD (rSl (rL 2) (some (rLen (rL 5))) none)))
def b__law_behind (call : CallT) : CS := sBody [(s__law_behind_1 call), (s__law_behind_2 call), (s__law_behind_3 call), (s__law_behind_5 call), (s__law_behind_6 call)]
theorem m__law_behind (call : CallT) (ws : List W) (S : Store) : runB cf call f__law_behind ws S = endR S.length (b__law_behind call (startE f__law_behind.N ws) S) := by kernel_rfl
theorem e__law_behind (c : Nat) (w0 : W) (w1 : W) (S : Store) : runF cf (c + 1) ("_law_behind", none) [w0, w1] S = endR S.length (b__law_behind (runF cf c) [some w0, some w1, none, none, none, none, none] S) := (show runF cf (c + 1) ("_law_behind", none) [w0, w1] S = runB cf (runF cf c) f__law_behind [w0, w1] S by kernel_rfl).trans (m__law_behind _ _ S)
def f__law_line : Fn := ⟨("_law_line", none), "_law_line", ["plan", "number"], ["plan", "number", "operator", "fields", "kind", "text", "name", "word"], top 82, [], [false, false], false⟩
def s__law_line_1 (call : CallT) : CS := (sSet 2 (rIx (rIx (rL 0) (rL 1)) (rK (.int 0))))
def s__law_line_2 (call : CallT) : CS := (sSetT [3, 4] (rIx (rCall true true call ("fields_of", none) 1 [(rD (rL 0))]) (rL 1)))
def s__law_line_3 (call : CallT) : CS := (sSet 5 (rCat (rK (.str "n")) [(rF1 strR (rL 1)), (rK (.str " ")), (rIx (rL 2) (rK (.int 0)))]))
def s__law_line_4 (call : CallT) : CS := (sIf (tCmp .Eq (rIx (rL 2) (rK (.int 0))) (rK (.str "source"))) (sBody [(sSet 5 (rCat (rL 5) [(rK (.str " ")), (rIx (rL 2) (rK (.int 1)))]))]) (sBody [(sSet 5 (rBin .Add (rL 5) (rCall true true call ("_law_behind", none) 2 [(rD (rL 0)), (rD (rL 1))])))]))
def c__law_line_5 (call : CallT) : CR := (rKeep (rCat (rL 6) [(rK (.str " ")), (rL 7)]))
def s__law_line_6 (call : CallT) : CS := (sRet (rD (rCat (rL 5) [(rK (.str ": ")), (rJoin (rK (.str ", ")) (rLC (rComp (sRaw (rL 3)) [6, 7] (.many [6, 7]) tYes (c__law_line_5 call)))), (rK (.str " (")), (rL 4), (rK (.str ")"))])))
def b__law_line (call : CallT) : CS := sBody [(s__law_line_1 call), (s__law_line_2 call), (s__law_line_3 call), (s__law_line_4 call), (s__law_line_6 call)]
theorem m__law_line (call : CallT) (ws : List W) (S : Store) : runB cf call f__law_line ws S = endR S.length (b__law_line call (startE f__law_line.N ws) S) := by kernel_rfl
theorem e__law_line (c : Nat) (w0 : W) (w1 : W) (S : Store) : runF cf (c + 1) ("_law_line", none) [w0, w1] S = endR S.length (b__law_line (runF cf c) [some w0, some w1, none, none, none, none, none, none] S) := (show runF cf (c + 1) ("_law_line", none) [w0, w1] S = runB cf (runF cf c) f__law_line [w0, w1] S by kernel_rfl).trans (m__law_line _ _ S)
def f__law_lines : Fn := ⟨("_law_lines", none), "_law_lines", ["plan"], ["plan", "todo", "seen", "lines", "number", "depth", "other"], top 83, ["seen", "lines"], [false], false⟩
def s__law_lines_1 (call : CallT) : CS := (sSet 1 (rLst [(rTup [(rBin .Sub (rLen (rL 0)) (rK (.int 1))), (rK (.int 0))])]))
def s__law_lines_2 (call : CallT) : CS := (sSet 2 (aLst []))
def s__law_lines_3 (call : CallT) : CS := (sSet 3 (aLst []))
def t__law_lines_4 (call : CallT) : CT := (tCmp .Gt (rLen (rL 1)) (rK (.int 0)))
def c__law_lines_5 (call : CallT) : CR := (rKeep (rTup [(rL 6), (rBin .Add (rL 5) (rK (.int 1)))]))
def l__law_lines_6 (call : CallT) : CS := (sBody [(sSetT [4, 5] (rIx (rL 1) (rK (.int 0)))), (sSet 1 (rSl (rL 1) (some (rK (.int 1))) none)), (sIf (tIn false (rL 4) (rL 2)) (sBody [(sX (rApp (rL 3) (rCat (rBin .Mult (rK (.str "  ")) (rL 5)) [(rK (.str "n")), (rF1 strR (rL 4)), (rK (.str " as above"))])))]) (sBody [(sX (rApp (rL 2) (rL 4))), (sX (rApp (rL 3) (rBin .Add (rBin .Mult (rK (.str "  ")) (rL 5)) (rCall true true call ("_law_line", none) 2 [(rD (rL 0)), (rD (rL 4))])))), (sSet 1 (rBin .Add (rLC (rComp (sRaw (rIx (rIx (rL 0) (rL 4)) (rK (.int 1)))) [6] (.one 6) tYes (c__law_lines_5 call))) (rL 1)))]))])
def s__law_lines_7 (call : CallT) : CS := (sWhile (t__law_lines_4 call) (l__law_lines_6 call))
def s__law_lines_8 (call : CallT) : CS := (sRet (rD (rL 3)))
def b__law_lines (call : CallT) : CS := sBody [(s__law_lines_1 call), (s__law_lines_2 call), (s__law_lines_3 call), (s__law_lines_7 call), (s__law_lines_8 call)]
theorem m__law_lines (call : CallT) (ws : List W) (S : Store) : runB cf call f__law_lines ws S = endR S.length (b__law_lines call (startE f__law_lines.N ws) S) := by kernel_rfl
theorem e__law_lines (c : Nat) (w0 : W) (S : Store) : runF cf (c + 1) ("_law_lines", none) [w0] S = endR S.length (b__law_lines (runF cf c) [some w0, none, none, none, none, none, none] S) := (show runF cf (c + 1) ("_law_lines", none) [w0] S = runB cf (runF cf c) f__law_lines [w0] S by kernel_rfl).trans (m__law_lines _ _ S)
def f_law : Fn := ⟨("law", none), "law", ["script"], ["script", "k", "state", "plan", "line"], top 84, [], [false], false⟩
def c_law_1 (call : CallT) : CR := (rKeep (rBin .Add (rL 4) (rK (.str "\n"))))
def l_law_2 (call : CallT) : CS := (sBody [(sSet 2 (rCall true false call ("_law_start", none) 2 [(rD (rCall true true call ("_law_cell", none) 2 [(rD (rL 0)), (rD (rL 1))])), (rD (rL 1))])), (sSet 3 (rCall true true call ("_law_plan", none) 1 [(rL 2)])), (sIf (tCmp .NotEq (rCall true true call ("outline", none) 1 [(rD (rL 3))]) (rJoin (rK (.str "")) (rLC (rComp (sRaw (rCall true true call ("_law_lines", none) 1 [(rD (rL 3))])) [4] (.one 4) tYes (c_law_1 call))))) (sBody [(sRet (rD (rK (.bl false))))]) (sBody [])), (sIf (tCmp .NotEq (rCall true true call ("outline", none) 1 [(rD (rTup [(rIx (rL 3) (rK (.int 0)))]))]) (rK (.str "n0 source s: user text, price whole (events)\n"))) (sBody [(sRet (rD (rK (.bl false))))]) (sBody []))])
def s_law_3 (call : CallT) : CS := (sFor (sRng1 (rF2 minR (rK (.int 12)) (rBin .Add (rK (.int 1)) (rLen (rL 0))))) (.one 1) (l_law_2 call))
def s_law_4 (call : CallT) : CS := (sRet (rD (rK (.bl true))))
def b_law (call : CallT) : CS := sBody [(s_law_3 call), (s_law_4 call)]
theorem m_law (call : CallT) (ws : List W) (S : Store) : runB cf call f_law ws S = endR S.length (b_law call (startE f_law.N ws) S) := by kernel_rfl
theorem e_law (c : Nat) (w0 : W) (S : Store) : runF cf (c + 1) ("law", none) [w0] S = endR S.length (b_law (runF cf c) [some w0, none, none, none, none] S) := (show runF cf (c + 1) ("law", none) [w0] S = runB cf (runF cf c) f_law [w0] S by kernel_rfl).trans (m_law _ _ S)
@[simp] theorem sl_0 : (Str.ofString "tidehold.errors").length = 15 := by decide +kernel
@[simp] theorem so_0 : PyData.strOk (Str.ofString "tidehold.errors") = true := by decide +kernel
@[simp] theorem sn_0 : 10 ∉ tlS (Str.ofString "tidehold.errors") := by decide +kernel
@[simp] theorem sl_1 : (Str.ofString "tidehold.expressions.trees").length = 26 := by decide +kernel
@[simp] theorem so_1 : PyData.strOk (Str.ofString "tidehold.expressions.trees") = true := by decide +kernel
@[simp] theorem sn_1 : 10 ∉ tlS (Str.ofString "tidehold.expressions.trees") := by decide +kernel
@[simp] theorem sl_2 : (Str.ofString "tidehold.values.rows").length = 20 := by decide +kernel
@[simp] theorem so_2 : PyData.strOk (Str.ofString "tidehold.values.rows") = true := by decide +kernel
@[simp] theorem sn_2 : 10 ∉ tlS (Str.ofString "tidehold.values.rows") := by decide +kernel
@[simp] theorem sl_3 : (Str.ofString "tidehold.expressions.checking").length = 29 := by decide +kernel
@[simp] theorem so_3 : PyData.strOk (Str.ofString "tidehold.expressions.checking") = true := by decide +kernel
@[simp] theorem sn_3 : 10 ∉ tlS (Str.ofString "tidehold.expressions.checking") := by decide +kernel
@[simp] theorem sl_4 : (Str.ofString "tidehold.operators.checks").length = 25 := by decide +kernel
@[simp] theorem so_4 : PyData.strOk (Str.ofString "tidehold.operators.checks") = true := by decide +kernel
@[simp] theorem sn_4 : 10 ∉ tlS (Str.ofString "tidehold.operators.checks") := by decide +kernel
@[simp] theorem sl_5 : (Str.ofString "tidehold.plans.plans").length = 20 := by decide +kernel
@[simp] theorem so_5 : PyData.strOk (Str.ofString "tidehold.plans.plans") = true := by decide +kernel
@[simp] theorem sn_5 : 10 ∉ tlS (Str.ofString "tidehold.plans.plans") := by decide +kernel
@[simp] theorem sl_6 : (Str.ofString "'").length = 1 := by decide +kernel
@[simp] theorem so_6 : PyData.strOk (Str.ofString "'") = true := by decide +kernel
@[simp] theorem sn_6 : 10 ∉ tlS (Str.ofString "'") := by decide +kernel
@[simp] theorem sl_7 : (Str.ofString "tidehold.texts.expressions").length = 26 := by decide +kernel
@[simp] theorem so_7 : PyData.strOk (Str.ofString "tidehold.texts.expressions") = true := by decide +kernel
@[simp] theorem sn_7 : 10 ∉ tlS (Str.ofString "tidehold.texts.expressions") := by decide +kernel
@[simp] theorem sl_8 : (Str.ofString "tidehold.texts.statements").length = 25 := by decide +kernel
@[simp] theorem so_8 : PyData.strOk (Str.ofString "tidehold.texts.statements") = true := by decide +kernel
@[simp] theorem sn_8 : 10 ∉ tlS (Str.ofString "tidehold.texts.statements") := by decide +kernel
@[simp] theorem sl_9 : (Str.ofString "tidehold.texts.outline").length = 22 := by decide +kernel
@[simp] theorem so_9 : PyData.strOk (Str.ofString "tidehold.texts.outline") = true := by decide +kernel
@[simp] theorem sn_9 : 10 ∉ tlS (Str.ofString "tidehold.texts.outline") := by decide +kernel
@[simp] theorem sl_10 : (Str.ofString "law_tidehold_k93_outlines").length = 25 := by decide +kernel
@[simp] theorem so_10 : PyData.strOk (Str.ofString "law_tidehold_k93_outlines") = true := by decide +kernel
@[simp] theorem sn_10 : 10 ∉ tlS (Str.ofString "law_tidehold_k93_outlines") := by decide +kernel
@[simp] theorem sl_11 : (Str.ofString "text").length = 4 := by decide +kernel
@[simp] theorem so_11 : PyData.strOk (Str.ofString "text") = true := by decide +kernel
@[simp] theorem sn_11 : 10 ∉ tlS (Str.ofString "text") := by decide +kernel
@[simp] theorem sl_12 : (Str.ofString "flag").length = 4 := by decide +kernel
@[simp] theorem so_12 : PyData.strOk (Str.ofString "flag") = true := by decide +kernel
@[simp] theorem sn_12 : 10 ∉ tlS (Str.ofString "flag") := by decide +kernel
@[simp] theorem sl_13 : (Str.ofString "union").length = 5 := by decide +kernel
@[simp] theorem so_13 : PyData.strOk (Str.ofString "union") = true := by decide +kernel
@[simp] theorem sn_13 : 10 ∉ tlS (Str.ofString "union") := by decide +kernel
@[simp] theorem sl_14 : (Str.ofString "near").length = 4 := by decide +kernel
@[simp] theorem so_14 : PyData.strOk (Str.ofString "near") = true := by decide +kernel
@[simp] theorem sn_14 : 10 ∉ tlS (Str.ofString "near") := by decide +kernel
@[simp] theorem sl_15 : (Str.ofString "asof").length = 4 := by decide +kernel
@[simp] theorem so_15 : PyData.strOk (Str.ofString "asof") = true := by decide +kernel
@[simp] theorem sn_15 : 10 ∉ tlS (Str.ofString "asof") := by decide +kernel
@[simp] theorem sl_16 : (Str.ofString "join").length = 4 := by decide +kernel
@[simp] theorem so_16 : PyData.strOk (Str.ofString "join") = true := by decide +kernel
@[simp] theorem sn_16 : 10 ∉ tlS (Str.ofString "join") := by decide +kernel
@[simp] theorem sl_17 : (Str.ofString "table").length = 5 := by decide +kernel
@[simp] theorem so_17 : PyData.strOk (Str.ofString "table") = true := by decide +kernel
@[simp] theorem sn_17 : 10 ∉ tlS (Str.ofString "table") := by decide +kernel
@[simp] theorem sl_18 : (Str.ofString "true").length = 4 := by decide +kernel
@[simp] theorem so_18 : PyData.strOk (Str.ofString "true") = true := by decide +kernel
@[simp] theorem sn_18 : 10 ∉ tlS (Str.ofString "true") := by decide +kernel
@[simp] theorem sl_19 : (Str.ofString "false").length = 5 := by decide +kernel
@[simp] theorem so_19 : PyData.strOk (Str.ofString "false") = true := by decide +kernel
@[simp] theorem sn_19 : 10 ∉ tlS (Str.ofString "false") := by decide +kernel
@[simp] theorem sl_20 : (Str.ofString "none").length = 4 := by decide +kernel
@[simp] theorem so_20 : PyData.strOk (Str.ofString "none") = true := by decide +kernel
@[simp] theorem sn_20 : 10 ∉ tlS (Str.ofString "none") := by decide +kernel
@[simp] theorem sl_21 : (Str.ofString "not").length = 3 := by decide +kernel
@[simp] theorem so_21 : PyData.strOk (Str.ofString "not") = true := by decide +kernel
@[simp] theorem sn_21 : 10 ∉ tlS (Str.ofString "not") := by decide +kernel
@[simp] theorem sl_22 : (Str.ofString "and").length = 3 := by decide +kernel
@[simp] theorem so_22 : PyData.strOk (Str.ofString "and") = true := by decide +kernel
@[simp] theorem sn_22 : 10 ∉ tlS (Str.ofString "and") := by decide +kernel
@[simp] theorem sl_23 : (Str.ofString "or").length = 2 := by decide +kernel
@[simp] theorem so_23 : PyData.strOk (Str.ofString "or") = true := by decide +kernel
@[simp] theorem sn_23 : 10 ∉ tlS (Str.ofString "or") := by decide +kernel
@[simp] theorem sl_24 : (Str.ofString "null").length = 4 := by decide +kernel
@[simp] theorem so_24 : PyData.strOk (Str.ofString "null") = true := by decide +kernel
@[simp] theorem sn_24 : 10 ∉ tlS (Str.ofString "null") := by decide +kernel
@[simp] theorem sl_25 : (Str.ofString "length").length = 6 := by decide +kernel
@[simp] theorem so_25 : PyData.strOk (Str.ofString "length") = true := by decide +kernel
@[simp] theorem sn_25 : 10 ∉ tlS (Str.ofString "length") := by decide +kernel
@[simp] theorem sl_26 : (Str.ofString "pick").length = 4 := by decide +kernel
@[simp] theorem so_26 : PyData.strOk (Str.ofString "pick") = true := by decide +kernel
@[simp] theorem sn_26 : 10 ∉ tlS (Str.ofString "pick") := by decide +kernel
@[simp] theorem sl_27 : (Str.ofString "where").length = 5 := by decide +kernel
@[simp] theorem so_27 : PyData.strOk (Str.ofString "where") = true := by decide +kernel
@[simp] theorem sn_27 : 10 ∉ tlS (Str.ofString "where") := by decide +kernel
@[simp] theorem sl_28 : (Str.ofString "to").length = 2 := by decide +kernel
@[simp] theorem so_28 : PyData.strOk (Str.ofString "to") = true := by decide +kernel
@[simp] theorem sn_28 : 10 ∉ tlS (Str.ofString "to") := by decide +kernel
@[simp] theorem sl_29 : (Str.ofString "by").length = 2 := by decide +kernel
@[simp] theorem so_29 : PyData.strOk (Str.ofString "by") = true := by decide +kernel
@[simp] theorem sn_29 : 10 ∉ tlS (Str.ofString "by") := by decide +kernel
@[simp] theorem sl_30 : (Str.ofString "with").length = 4 := by decide +kernel
@[simp] theorem so_30 : PyData.strOk (Str.ofString "with") = true := by decide +kernel
@[simp] theorem sn_30 : 10 ∉ tlS (Str.ofString "with") := by decide +kernel
@[simp] theorem sl_31 : (Str.ofString "order").length = 5 := by decide +kernel
@[simp] theorem so_31 : PyData.strOk (Str.ofString "order") = true := by decide +kernel
@[simp] theorem sn_31 : 10 ∉ tlS (Str.ofString "order") := by decide +kernel
@[simp] theorem sl_32 : (Str.ofString "first").length = 5 := by decide +kernel
@[simp] theorem so_32 : PyData.strOk (Str.ofString "first") = true := by decide +kernel
@[simp] theorem sn_32 : 10 ∉ tlS (Str.ofString "first") := by decide +kernel
@[simp] theorem sl_33 : (Str.ofString "up").length = 2 := by decide +kernel
@[simp] theorem so_33 : PyData.strOk (Str.ofString "up") = true := by decide +kernel
@[simp] theorem sn_33 : 10 ∉ tlS (Str.ofString "up") := by decide +kernel
@[simp] theorem sl_34 : (Str.ofString "down").length = 4 := by decide +kernel
@[simp] theorem so_34 : PyData.strOk (Str.ofString "down") = true := by decide +kernel
@[simp] theorem sn_34 : 10 ∉ tlS (Str.ofString "down") := by decide +kernel
@[simp] theorem sl_35 : (Str.ofString "tumble").length = 6 := by decide +kernel
@[simp] theorem so_35 : PyData.strOk (Str.ofString "tumble") = true := by decide +kernel
@[simp] theorem sn_35 : 10 ∉ tlS (Str.ofString "tumble") := by decide +kernel
@[simp] theorem sl_36 : (Str.ofString "hop").length = 3 := by decide +kernel
@[simp] theorem so_36 : PyData.strOk (Str.ofString "hop") = true := by decide +kernel
@[simp] theorem sn_36 : 10 ∉ tlS (Str.ofString "hop") := by decide +kernel
@[simp] theorem sl_37 : (Str.ofString "slide").length = 5 := by decide +kernel
@[simp] theorem so_37 : PyData.strOk (Str.ofString "slide") = true := by decide +kernel
@[simp] theorem sn_37 : 10 ∉ tlS (Str.ofString "slide") := by decide +kernel
@[simp] theorem sl_38 : (Str.ofString "session").length = 7 := by decide +kernel
@[simp] theorem so_38 : PyData.strOk (Str.ofString "session") = true := by decide +kernel
@[simp] theorem sn_38 : 10 ∉ tlS (Str.ofString "session") := by decide +kernel
@[simp] theorem sl_39 : (Str.ofString "on").length = 2 := by decide +kernel
@[simp] theorem so_39 : PyData.strOk (Str.ofString "on") = true := by decide +kernel
@[simp] theorem sn_39 : 10 ∉ tlS (Str.ofString "on") := by decide +kernel
@[simp] theorem sl_40 : (Str.ofString "from").length = 4 := by decide +kernel
@[simp] theorem so_40 : PyData.strOk (Str.ofString "from") = true := by decide +kernel
@[simp] theorem sn_40 : 10 ∉ tlS (Str.ofString "from") := by decide +kernel
@[simp] theorem sl_41 : (Str.ofString "keep").length = 4 := by decide +kernel
@[simp] theorem so_41 : PyData.strOk (Str.ofString "keep") = true := by decide +kernel
@[simp] theorem sn_41 : 10 ∉ tlS (Str.ofString "keep") := by decide +kernel
@[simp] theorem sl_42 : (Str.ofString "ttl").length = 3 := by decide +kernel
@[simp] theorem so_42 : PyData.strOk (Str.ofString "ttl") = true := by decide +kernel
@[simp] theorem sn_42 : 10 ∉ tlS (Str.ofString "ttl") := by decide +kernel
@[simp] theorem sl_43 : (Str.ofString "==").length = 2 := by decide +kernel
@[simp] theorem so_43 : PyData.strOk (Str.ofString "==") = true := by decide +kernel
@[simp] theorem sn_43 : 10 ∉ tlS (Str.ofString "==") := by decide +kernel
@[simp] theorem sl_44 : (Str.ofString "<=").length = 2 := by decide +kernel
@[simp] theorem so_44 : PyData.strOk (Str.ofString "<=") = true := by decide +kernel
@[simp] theorem sn_44 : 10 ∉ tlS (Str.ofString "<=") := by decide +kernel
@[simp] theorem sl_45 : (Str.ofString "<").length = 1 := by decide +kernel
@[simp] theorem so_45 : PyData.strOk (Str.ofString "<") = true := by decide +kernel
@[simp] theorem sn_45 : 10 ∉ tlS (Str.ofString "<") := by decide +kernel
@[simp] theorem sl_46 : (Str.ofString "+").length = 1 := by decide +kernel
@[simp] theorem so_46 : PyData.strOk (Str.ofString "+") = true := by decide +kernel
@[simp] theorem sn_46 : 10 ∉ tlS (Str.ofString "+") := by decide +kernel
@[simp] theorem sl_47 : (Str.ofString "-").length = 1 := by decide +kernel
@[simp] theorem so_47 : PyData.strOk (Str.ofString "-") = true := by decide +kernel
@[simp] theorem sn_47 : 10 ∉ tlS (Str.ofString "-") := by decide +kernel
@[simp] theorem sl_48 : (Str.ofString "*").length = 1 := by decide +kernel
@[simp] theorem so_48 : PyData.strOk (Str.ofString "*") = true := by decide +kernel
@[simp] theorem sn_48 : 10 ∉ tlS (Str.ofString "*") := by decide +kernel
@[simp] theorem sl_49 : (Str.ofString "/").length = 1 := by decide +kernel
@[simp] theorem so_49 : PyData.strOk (Str.ofString "/") = true := by decide +kernel
@[simp] theorem sn_49 : 10 ∉ tlS (Str.ofString "/") := by decide +kernel
@[simp] theorem sl_50 : (Str.ofString "").length = 0 := by decide +kernel
@[simp] theorem so_50 : PyData.strOk (Str.ofString "") = true := by decide +kernel
@[simp] theorem sn_50 : 10 ∉ tlS (Str.ofString "") := by decide +kernel
@[simp] theorem sl_51 : (Str.ofString "binary").length = 6 := by decide +kernel
@[simp] theorem so_51 : PyData.strOk (Str.ofString "binary") = true := by decide +kernel
@[simp] theorem sn_51 : 10 ∉ tlS (Str.ofString "binary") := by decide +kernel
@[simp] theorem sl_52 : (Str.ofString "whole").length = 5 := by decide +kernel
@[simp] theorem so_52 : PyData.strOk (Str.ofString "whole") = true := by decide +kernel
@[simp] theorem sn_52 : 10 ∉ tlS (Str.ofString "whole") := by decide +kernel
@[simp] theorem sl_53 : (Str.ofString "column").length = 6 := by decide +kernel
@[simp] theorem so_53 : PyData.strOk (Str.ofString "column") = true := by decide +kernel
@[simp] theorem sn_53 : 10 ∉ tlS (Str.ofString "column") := by decide +kernel
@[simp] theorem sl_54 : (Str.ofString "value").length = 5 := by decide +kernel
@[simp] theorem so_54 : PyData.strOk (Str.ofString "value") = true := by decide +kernel
@[simp] theorem sn_54 : 10 ∉ tlS (Str.ofString "value") := by decide +kernel
@[simp] theorem sl_55 : (Str.ofString "types differ").length = 12 := by decide +kernel
@[simp] theorem so_55 : PyData.strOk (Str.ofString "types differ") = true := by decide +kernel
@[simp] theorem sn_55 : 10 ∉ tlS (Str.ofString "types differ") := by decide +kernel
@[simp] theorem sl_56 : (Str.ofString "count").length = 5 := by decide +kernel
@[simp] theorem so_56 : PyData.strOk (Str.ofString "count") = true := by decide +kernel
@[simp] theorem sn_56 : 10 ∉ tlS (Str.ofString "count") := by decide +kernel
@[simp] theorem sl_57 : (Str.ofString "top").length = 3 := by decide +kernel
@[simp] theorem so_57 : PyData.strOk (Str.ofString "top") = true := by decide +kernel
@[simp] theorem sn_57 : 10 ∉ tlS (Str.ofString "top") := by decide +kernel
@[simp] theorem sl_58 : (Str.ofString "window").length = 6 := by decide +kernel
@[simp] theorem so_58 : PyData.strOk (Str.ofString "window") = true := by decide +kernel
@[simp] theorem sn_58 : 10 ∉ tlS (Str.ofString "window") := by decide +kernel
@[simp] theorem sl_59 : (Str.ofString "filter").length = 6 := by decide +kernel
@[simp] theorem so_59 : PyData.strOk (Str.ofString "filter") = true := by decide +kernel
@[simp] theorem sn_59 : 10 ∉ tlS (Str.ofString "filter") := by decide +kernel
@[simp] theorem sl_60 : (Str.ofString "map").length = 3 := by decide +kernel
@[simp] theorem so_60 : PyData.strOk (Str.ofString "map") = true := by decide +kernel
@[simp] theorem sn_60 : 10 ∉ tlS (Str.ofString "map") := by decide +kernel
@[simp] theorem sl_61 : (Str.ofString "events").length = 6 := by decide +kernel
@[simp] theorem so_61 : PyData.strOk (Str.ofString "events") = true := by decide +kernel
@[simp] theorem sn_61 : 10 ∉ tlS (Str.ofString "events") := by decide +kernel
@[simp] theorem sl_62 : (Str.ofString "source").length = 6 := by decide +kernel
@[simp] theorem so_62 : PyData.strOk (Str.ofString "source") = true := by decide +kernel
@[simp] theorem sn_62 : 10 ∉ tlS (Str.ofString "source") := by decide +kernel
@[simp] theorem sl_63 : (Str.ofString ")").length = 1 := by decide +kernel
@[simp] theorem so_63 : PyData.strOk (Str.ofString ")") = true := by decide +kernel
@[simp] theorem sn_63 : 10 ∉ tlS (Str.ofString ")") := by decide +kernel
@[simp] theorem sl_64 : (Str.ofString " by ").length = 4 := by decide +kernel
@[simp] theorem so_64 : PyData.strOk (Str.ofString " by ") = true := by decide +kernel
@[simp] theorem sn_64 : 10 ∉ tlS (Str.ofString " by ") := by decide +kernel
@[simp] theorem sl_65 : (Str.ofString " with ").length = 6 := by decide +kernel
@[simp] theorem so_65 : PyData.strOk (Str.ofString " with ") = true := by decide +kernel
@[simp] theorem sn_65 : 10 ∉ tlS (Str.ofString " with ") := by decide +kernel
@[simp] theorem sl_66 : (Str.ofString " on ").length = 4 := by decide +kernel
@[simp] theorem so_66 : PyData.strOk (Str.ofString " on ") = true := by decide +kernel
@[simp] theorem sn_66 : 10 ∉ tlS (Str.ofString " on ") := by decide +kernel
@[simp] theorem sl_67 : (Str.ofString " ").length = 1 := by decide +kernel
@[simp] theorem so_67 : PyData.strOk (Str.ofString " ") = true := by decide +kernel
@[simp] theorem sn_67 : 10 ∉ tlS (Str.ofString " ") := by decide +kernel
@[simp] theorem sl_68 : (Str.ofString "group").length = 5 := by decide +kernel
@[simp] theorem so_68 : PyData.strOk (Str.ofString "group") = true := by decide +kernel
@[simp] theorem sn_68 : 10 ∉ tlS (Str.ofString "group") := by decide +kernel
@[simp] theorem sl_69 : (Str.ofString "n").length = 1 := by decide +kernel
@[simp] theorem so_69 : PyData.strOk (Str.ofString "n") = true := by decide +kernel
@[simp] theorem sn_69 : 10 ∉ tlS (Str.ofString "n") := by decide +kernel
@[simp] theorem sl_70 : (Str.ofString "price").length = 5 := by decide +kernel
@[simp] theorem so_70 : PyData.strOk (Str.ofString "price") = true := by decide +kernel
@[simp] theorem sn_70 : 10 ∉ tlS (Str.ofString "price") := by decide +kernel
@[simp] theorem sl_71 : (Str.ofString "s").length = 1 := by decide +kernel
@[simp] theorem so_71 : PyData.strOk (Str.ofString "s") = true := by decide +kernel
@[simp] theorem sn_71 : 10 ∉ tlS (Str.ofString "s") := by decide +kernel
@[simp] theorem sl_72 : (Str.ofString "t").length = 1 := by decide +kernel
@[simp] theorem so_72 : PyData.strOk (Str.ofString "t") = true := by decide +kernel
@[simp] theorem sn_72 : 10 ∉ tlS (Str.ofString "t") := by decide +kernel
@[simp] theorem sl_73 : (Str.ofString "too many columns").length = 16 := by decide +kernel
@[simp] theorem so_73 : PyData.strOk (Str.ofString "too many columns") = true := by decide +kernel
@[simp] theorem sn_73 : 10 ∉ tlS (Str.ofString "too many columns") := by decide +kernel
@[simp] theorem sl_74 : (Str.ofString "no nodes").length = 8 := by decide +kernel
@[simp] theorem so_74 : PyData.strOk (Str.ofString "no nodes") = true := by decide +kernel
@[simp] theorem sn_74 : 10 ∉ tlS (Str.ofString "no nodes") := by decide +kernel
@[simp] theorem sl_75 : (Str.ofString "more than 16 nodes").length = 18 := by decide +kernel
@[simp] theorem so_75 : PyData.strOk (Str.ofString "more than 16 nodes") = true := by decide +kernel
@[simp] theorem sn_75 : 10 ∉ tlS (Str.ofString "more than 16 nodes") := by decide +kernel
@[simp] theorem sl_76 : (Str.ofString "]").length = 1 := by decide +kernel
@[simp] theorem so_76 : PyData.strOk (Str.ofString "]") = true := by decide +kernel
@[simp] theorem sn_76 : 10 ∉ tlS (Str.ofString "]") := by decide +kernel
@[simp] theorem sl_77 : (Str.ofString "not ").length = 4 := by decide +kernel
@[simp] theorem so_77 : PyData.strOk (Str.ofString "not ") = true := by decide +kernel
@[simp] theorem sn_77 : 10 ∉ tlS (Str.ofString "not ") := by decide +kernel
@[simp] theorem sl_78 : (Str.ofString ", ").length = 2 := by decide +kernel
@[simp] theorem so_78 : PyData.strOk (Str.ofString ", ") = true := by decide +kernel
@[simp] theorem sn_78 : 10 ∉ tlS (Str.ofString ", ") := by decide +kernel
@[simp] theorem sl_79 : (Str.ofString " = ").length = 3 := by decide +kernel
@[simp] theorem so_79 : PyData.strOk (Str.ofString " = ") = true := by decide +kernel
@[simp] theorem sn_79 : 10 ∉ tlS (Str.ofString " = ") := by decide +kernel
@[simp] theorem sl_80 : (Str.ofString " hop ").length = 5 := by decide +kernel
@[simp] theorem so_80 : PyData.strOk (Str.ofString " hop ") = true := by decide +kernel
@[simp] theorem sn_80 : 10 ∉ tlS (Str.ofString " hop ") := by decide +kernel
@[simp] theorem sl_81 : (Str.ofString " slide ").length = 7 := by decide +kernel
@[simp] theorem so_81 : PyData.strOk (Str.ofString " slide ") = true := by decide +kernel
@[simp] theorem sn_81 : 10 ∉ tlS (Str.ofString " slide ") := by decide +kernel
@[simp] theorem sl_82 : (Str.ofString " where ").length = 7 := by decide +kernel
@[simp] theorem so_82 : PyData.strOk (Str.ofString " where ") = true := by decide +kernel
@[simp] theorem sn_82 : 10 ∉ tlS (Str.ofString " where ") := by decide +kernel
@[simp] theorem sl_83 : (Str.ofString " to ").length = 4 := by decide +kernel
@[simp] theorem so_83 : PyData.strOk (Str.ofString " to ") = true := by decide +kernel
@[simp] theorem sn_83 : 10 ∉ tlS (Str.ofString " to ") := by decide +kernel
@[simp] theorem sl_84 : (Str.ofString "user").length = 4 := by decide +kernel
@[simp] theorem so_84 : PyData.strOk (Str.ofString "user") = true := by decide +kernel
@[simp] theorem sn_84 : 10 ∉ tlS (Str.ofString "user") := by decide +kernel
@[simp] theorem sl_85 : (Str.ofString "name").length = 4 := by decide +kernel
@[simp] theorem so_85 : PyData.strOk (Str.ofString "name") = true := by decide +kernel
@[simp] theorem sn_85 : 10 ∉ tlS (Str.ofString "name") := by decide +kernel
@[simp] theorem sl_86 : (Str.ofString "size").length = 4 := by decide +kernel
@[simp] theorem so_86 : PyData.strOk (Str.ofString "size") = true := by decide +kernel
@[simp] theorem sn_86 : 10 ∉ tlS (Str.ofString "size") := by decide +kernel
@[simp] theorem sl_87 : (Str.ofString "m").length = 1 := by decide +kernel
@[simp] theorem so_87 : PyData.strOk (Str.ofString "m") = true := by decide +kernel
@[simp] theorem sn_87 : 10 ∉ tlS (Str.ofString "m") := by decide +kernel
@[simp] theorem sl_88 : (Str.ofString "most").length = 4 := by decide +kernel
@[simp] theorem so_88 : PyData.strOk (Str.ofString "most") = true := by decide +kernel
@[simp] theorem sn_88 : 10 ∉ tlS (Str.ofString "most") := by decide +kernel
@[simp] theorem sl_89 : (Str.ofString "inner").length = 5 := by decide +kernel
@[simp] theorem so_89 : PyData.strOk (Str.ofString "inner") = true := by decide +kernel
@[simp] theorem sn_89 : 10 ∉ tlS (Str.ofString "inner") := by decide +kernel
@[simp] theorem sl_90 : (Str.ofString "left").length = 4 := by decide +kernel
@[simp] theorem so_90 : PyData.strOk (Str.ofString "left") = true := by decide +kernel
@[simp] theorem sn_90 : 10 ∉ tlS (Str.ofString "left") := by decide +kernel
@[simp] theorem sl_91 : (Str.ofString "\n").length = 1 := by decide +kernel
@[simp] theorem so_91 : PyData.strOk (Str.ofString "\n") = true := by decide +kernel
@[simp] theorem sl_92 : (Str.ofString "n0 source s: user text, price whole (events)\n").length = 45 := by decide +kernel
@[simp] theorem so_92 : PyData.strOk (Str.ofString "n0 source s: user text, price whole (events)\n") = true := by decide +kernel
@[simp] theorem sl_93 : (Str.ofString "there is no column ").length = 19 := by decide +kernel
@[simp] theorem so_93 : PyData.strOk (Str.ofString "there is no column ") = true := by decide +kernel
@[simp] theorem sn_93 : 10 ∉ tlS (Str.ofString "there is no column ") := by decide +kernel
@[simp] theorem sl_94 : (Str.ofString "sum").length = 3 := by decide +kernel
@[simp] theorem so_94 : PyData.strOk (Str.ofString "sum") = true := by decide +kernel
@[simp] theorem sn_94 : 10 ∉ tlS (Str.ofString "sum") := by decide +kernel
@[simp] theorem sl_95 : (Str.ofString "mean").length = 4 := by decide +kernel
@[simp] theorem so_95 : PyData.strOk (Str.ofString "mean") = true := by decide +kernel
@[simp] theorem sn_95 : 10 ∉ tlS (Str.ofString "mean") := by decide +kernel
@[simp] theorem sl_96 : (Str.ofString "start").length = 5 := by decide +kernel
@[simp] theorem so_96 : PyData.strOk (Str.ofString "start") = true := by decide +kernel
@[simp] theorem sn_96 : 10 ∉ tlS (Str.ofString "start") := by decide +kernel
@[simp] theorem sl_97 : (Str.ofString "end").length = 3 := by decide +kernel
@[simp] theorem so_97 : PyData.strOk (Str.ofString "end") = true := by decide +kernel
@[simp] theorem sn_97 : 10 ∉ tlS (Str.ofString "end") := by decide +kernel
@[simp] theorem sl_98 : (Str.ofString "events are wanted").length = 17 := by decide +kernel
@[simp] theorem so_98 : PyData.strOk (Str.ofString "events are wanted") = true := by decide +kernel
@[simp] theorem sn_98 : 10 ∉ tlS (Str.ofString "events are wanted") := by decide +kernel
@[simp] theorem sl_99 : (Str.ofString "node ").length = 5 := by decide +kernel
@[simp] theorem so_99 : PyData.strOk (Str.ofString "node ") = true := by decide +kernel
@[simp] theorem sn_99 : 10 ∉ tlS (Str.ofString "node ") := by decide +kernel
@[simp] theorem sl_100 : (Str.ofString ": inputs").length = 8 := by decide +kernel
@[simp] theorem so_100 : PyData.strOk (Str.ofString ": inputs") = true := by decide +kernel
@[simp] theorem sn_100 : 10 ∉ tlS (Str.ofString ": inputs") := by decide +kernel
@[simp] theorem sl_101 : (Str.ofString "[").length = 1 := by decide +kernel
@[simp] theorem so_101 : PyData.strOk (Str.ofString "[") = true := by decide +kernel
@[simp] theorem sn_101 : 10 ∉ tlS (Str.ofString "[") := by decide +kernel
@[simp] theorem sl_102 : (Str.ofString "(").length = 1 := by decide +kernel
@[simp] theorem so_102 : PyData.strOk (Str.ofString "(") = true := by decide +kernel
@[simp] theorem sn_102 : 10 ∉ tlS (Str.ofString "(") := by decide +kernel
@[simp] theorem sl_103 : (Str.ofString " first ").length = 7 := by decide +kernel
@[simp] theorem so_103 : PyData.strOk (Str.ofString " first ") = true := by decide +kernel
@[simp] theorem sn_103 : 10 ∉ tlS (Str.ofString " first ") := by decide +kernel
@[simp] theorem sl_104 : (Str.ofString " from ").length = 6 := by decide +kernel
@[simp] theorem so_104 : PyData.strOk (Str.ofString " from ") = true := by decide +kernel
@[simp] theorem sn_104 : 10 ∉ tlS (Str.ofString " from ") := by decide +kernel
@[simp] theorem sl_105 : (Str.ofString " keep ").length = 6 := by decide +kernel
@[simp] theorem so_105 : PyData.strOk (Str.ofString " keep ") = true := by decide +kernel
@[simp] theorem sn_105 : 10 ∉ tlS (Str.ofString " keep ") := by decide +kernel
@[simp] theorem sl_106 : (Str.ofString " ttl ").length = 5 := by decide +kernel
@[simp] theorem so_106 : PyData.strOk (Str.ofString " ttl ") = true := by decide +kernel
@[simp] theorem sn_106 : 10 ∉ tlS (Str.ofString " ttl ") := by decide +kernel
@[simp] theorem sl_107 : (Str.ofString " (").length = 2 := by decide +kernel
@[simp] theorem so_107 : PyData.strOk (Str.ofString " (") = true := by decide +kernel
@[simp] theorem sn_107 : 10 ∉ tlS (Str.ofString " (") := by decide +kernel
@[simp] theorem sl_108 : (Str.ofString " as above").length = 9 := by decide +kernel
@[simp] theorem so_108 : PyData.strOk (Str.ofString " as above") = true := by decide +kernel
@[simp] theorem sn_108 : 10 ∉ tlS (Str.ofString " as above") := by decide +kernel
@[simp] theorem sl_109 : (Str.ofString "  ").length = 2 := by decide +kernel
@[simp] theorem so_109 : PyData.strOk (Str.ofString "  ") = true := by decide +kernel
@[simp] theorem sn_109 : 10 ∉ tlS (Str.ofString "  ") := by decide +kernel
@[simp] theorem sl_110 : (Str.ofString "distinct").length = 8 := by decide +kernel
@[simp] theorem so_110 : PyData.strOk (Str.ofString "distinct") = true := by decide +kernel
@[simp] theorem sn_110 : 10 ∉ tlS (Str.ofString "distinct") := by decide +kernel
@[simp] theorem sl_111 : (Str.ofString "mark").length = 4 := by decide +kernel
@[simp] theorem so_111 : PyData.strOk (Str.ofString "mark") = true := by decide +kernel
@[simp] theorem sn_111 : 10 ∉ tlS (Str.ofString "mark") := by decide +kernel
@[simp] theorem sl_112 : (Str.ofString " is there twice").length = 15 := by decide +kernel
@[simp] theorem so_112 : PyData.strOk (Str.ofString " is there twice") = true := by decide +kernel
@[simp] theorem sn_112 : 10 ∉ tlS (Str.ofString " is there twice") := by decide +kernel
@[simp] theorem sl_113 : (Str.ofString ": ").length = 2 := by decide +kernel
@[simp] theorem so_113 : PyData.strOk (Str.ofString ": ") = true := by decide +kernel
@[simp] theorem sn_113 : 10 ∉ tlS (Str.ofString ": ") := by decide +kernel
@[simp] theorem sl_114 : (Str.ofString " order ").length = 7 := by decide +kernel
@[simp] theorem so_114 : PyData.strOk (Str.ofString " order ") = true := by decide +kernel
@[simp] theorem sn_114 : 10 ∉ tlS (Str.ofString " order ") := by decide +kernel
@[simp] theorem sl_115 : (Str.ofString "a").length = 1 := by decide +kernel
@[simp] theorem so_115 : PyData.strOk (Str.ofString "a") = true := by decide +kernel
@[simp] theorem sn_115 : 10 ∉ tlS (Str.ofString "a") := by decide +kernel
@[simp] theorem sl_116 : (Str.ofString "b").length = 1 := by decide +kernel
@[simp] theorem so_116 : PyData.strOk (Str.ofString "b") = true := by decide +kernel
@[simp] theorem sn_116 : 10 ∉ tlS (Str.ofString "b") := by decide +kernel
@[simp] theorem sl_117 : (Str.ofString "c").length = 1 := by decide +kernel
@[simp] theorem so_117 : PyData.strOk (Str.ofString "c") = true := by decide +kernel
@[simp] theorem sn_117 : 10 ∉ tlS (Str.ofString "c") := by decide +kernel
@[simp] theorem sl_118 : (Str.ofString "d").length = 1 := by decide +kernel
@[simp] theorem so_118 : PyData.strOk (Str.ofString "d") = true := by decide +kernel
@[simp] theorem sn_118 : 10 ∉ tlS (Str.ofString "d") := by decide +kernel
@[simp] theorem sl_119 : (Str.ofString "event").length = 5 := by decide +kernel
@[simp] theorem so_119 : PyData.strOk (Str.ofString "event") = true := by decide +kernel
@[simp] theorem sn_119 : 10 ∉ tlS (Str.ofString "event") := by decide +kernel
@[simp] theorem sl_120 : (Str.ofString ": other fields").length = 14 := by decide +kernel
@[simp] theorem so_120 : PyData.strOk (Str.ofString ": other fields") = true := by decide +kernel
@[simp] theorem sn_120 : 10 ∉ tlS (Str.ofString ": other fields") := by decide +kernel
@[simp] theorem sl_121 : (Str.ofString "f").length = 1 := by decide +kernel
@[simp] theorem so_121 : PyData.strOk (Str.ofString "f") = true := by decide +kernel
@[simp] theorem sn_121 : 10 ∉ tlS (Str.ofString "f") := by decide +kernel
@[simp] theorem sl_122 : (Str.ofString "last").length = 4 := by decide +kernel
@[simp] theorem so_122 : PyData.strOk (Str.ofString "last") = true := by decide +kernel
@[simp] theorem sn_122 : 10 ∉ tlS (Str.ofString "last") := by decide +kernel
@[simp] theorem sl_123 : (Str.ofString " source ").length = 8 := by decide +kernel
@[simp] theorem so_123 : PyData.strOk (Str.ofString " source ") = true := by decide +kernel
@[simp] theorem sn_123 : 10 ∉ tlS (Str.ofString " source ") := by decide +kernel
end T
end
section
set_option Elab.async false
set_option linter.all false
set_option maxRecDepth 100000
set_option autoImplicit false
namespace T
open PySem PySem.Spec PyProof.Rows L2 Mp

/-! ### digits -/
def nx (s : Int) : Int := (s * 6364136223846793005 + 1442695040888963407).fmod 18446744073709551557
def dg (s many : Int) : Int := ((nx s).fdiv 65536).fmod many
theorem r_digit (c : Nat) (s many : Int) (h : many ≠ 0) : runF cf (c + 1) ("_law_digit", none) [.o 0, .p (.int many)] [.lst [.p (.int s)]] = .ok (.p (.int (dg s many))) [.lst [.p (.int (nx s))]] := by
  rw [e__law_digit]
  simp [b__law_digit, s__law_digit_1, s__law_digit_2, x_sPut, binop, intR, idxW, seqOf, atI, ixN, setAt, h, endR, trim, dg, nx, W.below, Cell.below]
/-- small numbers' texts -/
def small (i : Int) : Prop := i.natAbs.log2 < 1920 ∧ (iS i).length ≤ 20 ∧ 10 ∉ tlS (iS i)
theorem small_lt : ∀ i : Fin 20, small (i.1 : Int) := by
  unfold small
  decide +kernel
theorem small_of {i : Nat} (h : i < 20) : small (i : Int) := small_lt ⟨i, h⟩
def nS (i : Int) : Str := "n" ++ iS i
theorem nS_len {i : Int} (h : small i) : (nS i).length ≤ 21 := by
  have := h.2.1
  simp [nS]
  omega
theorem r_node_name (c : Nat) (i : Int) (h : small i) : runF cf (c + 1) ("node_name", none) [.p (.int i)] [] = .ok (.p (.str (nS i))) [] := by
  rw [e_node_name]
  have h2 : 1 + (iS i).length ≤ 16777216 := by have := h.2.1; omega
  simp [b_node_name, s_node_name_1, x_fV, fP_i, h.1, sz, h2, nS]

/-! ### nodes -/
structure Nd where
  w : Str
  more : List P
  ins : List Nat
  rest : Str
  nm : Str
  fs : List (Str × Str)
  kd : Str
def Nd.op (d : Nd) : P := .tup (.str d.w :: d.more)
def inP (k : Nat) : P := .int (k : Int)
def Nd.node (d : Nd) : P := .tup [d.op, .tup (d.ins.map inP)]
def fld (p : Str × Str) : P := .tup [.str p.1, .str p.2]
def Nd.kind (d : Nd) : P := .tup [.tup (d.fs.map fld), .str d.kd]
def wn (x : Str) : Prop := x.length ≤ 20 ∧ ∀ c, runF cf (c + 1) ("write_name", none) [.p (.str x)] [] = .ok (.p (.str x)) []
structure Nd.Ok (d : Nd) : Prop where
  wl : d.w.length ≤ 20
  ws : PyData.strOk d.w = true
  rl : d.rest.length ≤ 400
  nlw : 10 ∉ tlS d.w
  nlr : 10 ∉ tlS d.rest
  rest : ∀ c, runF cf (c + 10) ("write_rest", none) [.p d.op] [] = .ok (.p (.str d.rest)) []
  fl : d.fs.length ≤ 10
  fn : ∀ p ∈ d.fs, wn p.1 ∧ p.2.length ≤ 20
  kl : d.kd.length ≤ 20
  il : d.ins.length ≤ 2
  so : PyData.strOk d.rest = true ∧ PyData.strOk d.kd = true ∧ (∀ p ∈ d.fs, PyData.strOk p.1 = true ∧ PyData.strOk p.2 = true) ∧ PyData.strOk d.nm = true
  src : (d.w == ("source" : Str)) = true → (∃ f, d.more = [.str d.nm, f]) ∧ wn d.nm
def fw (p : Str × Str) : Str := p.1 ++ " " ++ p.2
def told (d : Nd) : Str := Txt.join ", " (d.fs.map fw)
def desc (i : Int) (d : Nd) : Str := if (d.w == ("source" : Str)) = true then nS i ++ " source " ++ d.nm ++ ": " ++ told d ++ " (" ++ d.kd ++ ")" else nS i ++ " " ++ d.w ++ d.rest ++ ": " ++ told d ++ " (" ++ d.kd ++ ")"
theorem fw_len {d : Nd} (h : d.Ok) : ∀ p ∈ d.fs, (fw p).length ≤ 41 := fun p hp => by
  have h1 := (h.fn p hp).1.1
  have h2 := (h.fn p hp).2
  simp [fw]
  omega
theorem told_len {d : Nd} (h : d.Ok) : (told d).length ≤ 430 := by
  have := join_len (", " : Str) (d.fs.map fw) 41 10 (fun y hy => by
    obtain ⟨p, hp, rfl⟩ := List.mem_map.mp hy
    exact fw_len h p hp) (by rw [List.length_map]; exact h.fl)
  simp at this
  exact this
theorem told_j {d : Nd} (h : d.Ok) (S : Store) : joinK (", " : Str) (.lst (d.fs.map fun p => .str (fw p))) S = .ok (.p (.str (told d))) S := joinK_m S _ d.fs fw 41 10 (fw_len h) h.fl (by simp)
theorem c_desc {d : Nd} (hd : d.Ok) (c : Nat) (ws : List W) (e0 e1 e2 e3 e4 e5 e6 e7 e8 : Option W) : compS ⟨ws, none⟩ (stepG (.many [7, 8]) tYes (c_describe_3 (runF cf (c + 1))) [e0, e1, e2, e3, e4, e5, e6, e7, e8]) (d.fs.map (W.p ∘ fld)) [] = .ok (d.fs.map fun p => W.p (.str (fw p))) [] := by
  refine compS_mapN (f := W.p ∘ fld) (g := fun p => W.p (.str (fw p))) d.fs (fun p hp => ?_)
  have h1 := (hd.fn p hp).1
  have h2 := (hd.fn p hp).2
  have h3 := h1.1
  have h4 := h1.2 c
  simp (disch := first | assumption | (simp [sz]; done) | (simp [sz]; omega) | fail) [stepG, fld, sG_cons, x_callT, h4, add_s, fw, c_describe_3]
set_option maxHeartbeats 1000000 in
theorem r_describe (c : Nat) (ns ks : List P) (i : Nat) (d : Nd) (hd : d.Ok) (hn : ns[i]? = some d.node) (hk : ks[i]? = some d.kind) (hi : i < 20) :
    runF cf (c + 11) ("describe", none) [.p (.tup ns), .p (.int i), .p (.lst ks)] [] = .ok (.p (.str (desc i d))) [] := by
  rw [e_describe]
  have h1 := told_len hd
  have h2 := hd.wl
  have h3 := hd.rl
  have h4 := hd.fl
  have h5 := hd.kl
  have hs := small_of hi
  have h6 := nS_len hs
  have hfl : d.fs.length ≤ sizeLine := by have := sz; omega
  have hj := told_j hd []
  have hq := eq_s d.w "source" hd.ws (by simp)
  have hnn := r_node_name (c + 9) i hs
  simp [b_describe, idx_t _ hn, idx_l _ hk, Nd.node, Nd.kind, Nd.op, sG_cons, x_rJoin, hfl, s_describe_1, s_describe_2, s_describe_4, c_desc hd, datsR_m, hj]
  cases hw : (d.w == ("source" : Str)) with
  | true =>
    obtain ⟨⟨f, hm⟩, hnm⟩ := hd.src hw
    have h7 := hnm.1
    have h8 := hnm.2 (c + 9)
    have h9 := eq_of_beq hw
    rw [hw] at hq
    simp (disch := first | assumption | (simp [sz]; done) | (simp [sz]; omega) | fail) [hm, x_callT, hnn, h8, add_s, desc, hq, s_describe_5, hw]
  | false =>
    have h10 : runF cf (c + 10) ("write_rest", none) [.p (.tup (.str d.w :: d.more))] [] = .ok (.p (.str d.rest)) [] := hd.rest c
    rw [hw] at hq
    simp (disch := first | assumption | (simp [sz]; done) | (simp [sz]; omega) | fail) [x_callT, hnn, h10, add_s, desc, hq, s_describe_5, s_describe_6, hw]

/-! ### a node's row -/
def insS (d : Nd) : Str := Txt.join ", " (d.ins.map fun (k : Nat) => nS (k : Int))
def ahead (i : Int) (d : Nd) : Str := if d.ins = [] then nS i ++ " = " ++ d.w else nS i ++ " = " ++ d.w ++ " " ++ insS d
def fmtN (i : Int) (d : Nd) : Str := ahead i d ++ d.rest
theorem ins_len {d : Nd} (h : d.Ok) (hi : ∀ k ∈ d.ins, k < 20) : (insS d).length ≤ 46 := by
  have := join_len (", " : Str) (d.ins.map fun (k : Nat) => nS (k : Int)) 21 2 (fun y hy => by
    obtain ⟨k, hk, rfl⟩ := List.mem_map.mp hy
    exact nS_len (small_of (hi k hk))) (by rw [List.length_map]; exact h.il)
  simp at this
  exact this
theorem ins_j {d : Nd} (h : d.Ok) (hi : ∀ k ∈ d.ins, k < 20) (S : Store) : joinK (", " : Str) (.lst (d.ins.map fun (k : Nat) => .str (nS (k : Int)))) S = .ok (.p (.str (insS d))) S := joinK_m S _ d.ins (fun (k : Nat) => nS (k : Int)) 21 2 (fun k hk => nS_len (small_of (hi k hk))) h.il (by simp)
theorem c_fmt {d : Nd} (hi : ∀ k ∈ d.ins, k < 20) (c : Nat) (ws : List W) (e0 e1 e2 e3 e4 e5 : Option W) : compS ⟨ws, none⟩ (stepG (.one 5) tYes (c_format_node_3 (runF cf (c + 1))) [e0, e1, e2, e3, e4, e5]) (d.ins.map (W.p ∘ inP)) [] = .ok (d.ins.map fun (k : Nat) => W.p (.str (nS (k : Int)))) [] := by
  refine compS_mapN (f := W.p ∘ inP) (g := fun (k : Nat) => W.p (.str (nS (k : Int)))) d.ins (fun k hk => ?_)
  have h1 := r_node_name c k (small_of (hi k hk))
  simp [stepG, c_format_node_3, inP, h1]
set_option maxHeartbeats 1000000 in
theorem r_format_node (c : Nat) (i : Nat) (d : Nd) (hd : d.Ok) (hi : i < 20) (hin : ∀ k ∈ d.ins, k < 20) :
    runF cf (c + 11) ("format_node", none) [.p (.int i), .p d.node] [] = .ok (.p (.str (fmtN i d))) [] := by
  rw [e_format_node]
  have hs := small_of hi
  have h6 := nS_len hs
  have h2 := hd.wl
  have h3 := hd.rl
  have h4 := ins_len hd hin
  have h5 := hd.il
  have hnn := r_node_name (c + 9) i hs
  have hrest : runF cf (c + 10) ("write_rest", none) [.p (.tup (.str d.w :: d.more))] [] = .ok (.p (.str d.rest)) [] := hd.rest c
  have hj := ins_j hd hin []
  have hil : d.ins.length ≤ sizeLine := by have := sz; omega
  cases he : d.ins with
  | nil =>
    simp (disch := first | assumption | (simp [sz]; done) | (simp [sz]; omega) | fail) [b_format_node, Nd.node, Nd.op, sG_cons, s_format_node_1, s_format_node_2, s_format_node_4, s_format_node_5, hnn, hrest, add_s, he, fmtN, ahead]
  | cons k0 kr =>
    have hne : (!(d.ins.map inP).isEmpty) = true := by rw [he]; rfl
    have hne2 : d.ins ≠ [] := by rw [he]; simp
    rw [← he] at *
    simp (disch := first | assumption | (simp [sz]; done) | (simp [sz]; omega) | fail) only [b_format_node, Nd.node, Nd.op, hne]
    simp (disch := first | assumption | (simp [sz]; done) | (simp [sz]; omega) | fail) [sG_cons, s_format_node_1, s_format_node_2, s_format_node_4, s_format_node_5, hnn, hrest, add_s, fmtN, ahead, hne2, x_rJoin, hil, c_fmt hin, datsR_m, hj]
end T
end
section
set_option Elab.async false
set_option linter.all false
set_option maxRecDepth 100000
set_option autoImplicit false
set_option maxHeartbeats 1000000
namespace T
open PySem PySem.Spec PyProof.Rows L2 Mp
/-! ### a plan's rows -/
structure NdsOk (nds : List Nd) : Prop where
  len : nds.length ≤ 8
  ok : ∀ (i : Nat) (d : Nd), nds[i]? = some d → d.Ok ∧ ∀ k ∈ d.ins, k < i
def planP (nds : List Nd) : P := .tup (nds.map Nd.node)
def FL (nds : List Nd) : List Str := nds.zipIdx.map fun a => fmtN (a.2 : Int) a.1
def zN (a : Nd × Nat) : P := .tup [.int (a.2 : Int), a.1.node]
section
variable {nds : List Nd}
theorem zip_mem (h : NdsOk nds) {a : Nd × Nat} (ha : a ∈ nds.zipIdx) : a.2 < 10 ∧ a.1.Ok ∧ ∀ k ∈ a.1.ins, k < 10 := by
  obtain ⟨d, i⟩ := a
  have := List.mem_zipIdx_iff_getElem?.mp ha
  simp only at this
  obtain ⟨h1, h2⟩ := h.ok i d this
  have hi : i < nds.length := (List.getElem?_eq_some_iff.mp this).1
  have := h.len
  exact ⟨by omega, h1, fun k hk => by have := h2 k hk; omega⟩
theorem ahead_len {d : Nd} (hd : d.Ok) {i : Int} (hs : small i) (hin : ∀ k ∈ d.ins, k < 20) : (ahead i d).length ≤ 100 := by
  have h1 := nS_len hs
  have h2 := ins_len hd hin
  have h3 := hd.wl
  unfold ahead
  split <;> simp <;> omega
theorem fmtN_len {d : Nd} (hd : d.Ok) {i : Int} (hs : small i) (hin : ∀ k ∈ d.ins, k < 20) : (fmtN i d).length ≤ 500 := by
  have h1 := ahead_len hd hs hin
  have h2 := hd.rl
  simp [fmtN]
  omega
theorem tl_app {a b : Str} (h1 : 10 ∉ tlS a) (h2 : 10 ∉ tlS b) : 10 ∉ tlS (a ++ b) := by
  rw [tlS_append, List.mem_append]
  exact fun h => h.elim h1 h2
theorem nS_nl {i : Int} (h : small i) : 10 ∉ tlS (nS i) := tl_app (by decide +kernel) h.2.2
theorem join_nl {z : Str} (hz : 10 ∉ tlS z) : ∀ {ys : List Str}, (∀ y ∈ ys, 10 ∉ tlS y) → 10 ∉ tlS (Str.join z ys)
  | [], _ => by simp [Str.join, tlS, Str.empty]
  | [x], h => h x List.mem_cons_self
  | x :: y :: r, h => tl_app (tl_app (h x List.mem_cons_self) hz) (join_nl hz fun w hw => h w (List.mem_cons_of_mem _ hw))
theorem ins_nl {d : Nd} (hin : ∀ k ∈ d.ins, k < 20) : 10 ∉ tlS (insS d) := by
  unfold insS
  show 10 ∉ tlS (Builtin.Str.glued _ _)
  rw [StrLaws.glued_eq_join]
  refine join_nl (by decide +kernel) fun y hy => ?_
  obtain ⟨k, hk, rfl⟩ := List.mem_map.mp hy
  exact nS_nl (small_of (hin k hk))
theorem fmtN_nl {d : Nd} (hd : d.Ok) {i : Int} (hs : small i) (hin : ∀ k ∈ d.ins, k < 20) : 10 ∉ tlS (fmtN i d) := by
  refine tl_app ?_ hd.nlr
  unfold ahead
  split
  · exact tl_app (tl_app (nS_nl hs) (by decide +kernel)) hd.nlw
  · exact tl_app (tl_app (tl_app (tl_app (nS_nl hs) (by decide +kernel)) hd.nlw) (by decide +kernel)) (ins_nl hin)
theorem zip_plan : pairsP 0 (nds.map Nd.node) = nds.zipIdx.map (W.p ∘ zN) := by
  rw [pairs_zip, List.zipIdx_map, List.map_map]
  rfl
theorem c_fplan (h : NdsOk nds) (c : Nat) (ws : List W) (e0 e1 e2 : Option W) : compS ⟨ws, none⟩ (stepG (.many [1, 2]) tYes (c_format_plan_1 (runF cf (c + 11))) [e0, e1, e2]) (nds.zipIdx.map (W.p ∘ zN)) [] = .ok (nds.zipIdx.map fun a => W.p (.str (fmtN (a.2 : Int) a.1 ++ "\n"))) [] := by
  refine compS_mapN (f := W.p ∘ zN) (g := fun a => W.p (.str (fmtN (a.2 : Int) a.1 ++ "\n"))) _ (fun a ha => ?_)
  obtain ⟨h1, h2, h3⟩ := zip_mem h ha
  have h4 : ∀ k ∈ a.1.ins, k < 20 := fun k hk => by have := h3 k hk; omega
  have h5 := r_format_node c a.2 a.1 h2 (by omega) h4
  have h6 := fmtN_len h2 (small_of (i := a.2) (by omega)) h4
  simp (disch := first | assumption | (simp [sz]; done) | (simp [sz]; omega) | fail) [stepG, c_format_plan_1, zN, sG_cons, h5, add_s]
def allS (nds : List Nd) : Str := Txt.join "" ((FL nds).map (· ++ ("\n" : Str)))
theorem FL_len : (FL nds).length = nds.length := by simp [FL]
theorem FL_get {i : Nat} {d : Nd} (hn : nds[i]? = some d) : (FL nds)[i]? = some (fmtN (i : Int) d) := by
  unfold FL
  rw [List.getElem?_map, List.getElem?_zipIdx, hn]
  simp
theorem FL_nl (h : NdsOk nds) : ∀ l ∈ FL nds, 10 ∉ tlS l := fun l hl => by
  obtain ⟨a, ha, rfl⟩ := List.mem_map.mp hl
  obtain ⟨h1, h2, h3⟩ := zip_mem h ha
  exact fmtN_nl h2 (small_of (i := a.2) (by omega)) fun k hk => by have := h3 k hk; omega
theorem all_len (h : NdsOk nds) : (allS nds).length ≤ 5010 := by
  have := join_len ("" : Str) ((FL nds).map (· ++ ("\n" : Str))) 501 10 (fun y hy => by
    obtain ⟨l, hl, rfl⟩ := List.mem_map.mp hy
    obtain ⟨a, ha, rfl⟩ := List.mem_map.mp hl
    obtain ⟨h1, h2, h3⟩ := zip_mem h ha
    have := fmtN_len h2 (small_of (i := a.2) (by omega)) fun k hk => by have := h3 k hk; omega
    simp
    omega) (by rw [List.length_map, FL_len]; have := h.len; omega)
  have e : (("" : Str)).length = 0 := by decide +kernel
  rw [e] at this
  exact this
theorem r_format_plan (h : NdsOk nds) (c : Nat) : runF cf (c + 12) ("format_plan", none) [.p (planP nds)] [] = .ok (.p (.str (allS nds))) [] := by
  rw [e_format_plan]
  have hl : nds.length ≤ sizeLine := by have := sz; have := h.len; omega
  have e : (("" : Str)).length = 0 := by decide +kernel
  have hj := joinK_m [] ("" : Str) nds.zipIdx (fun a => fmtN (a.2 : Int) a.1 ++ ("\n" : Str)) 501 10 (fun a ha => by
    obtain ⟨h1, h2, h3⟩ := zip_mem h ha
    have := fmtN_len h2 (small_of (i := a.2) (by omega)) fun k hk => by have := h3 k hk; omega
    simp
    omega) (by rw [List.length_zipIdx]; have := h.len; omega) (by rw [e]; decide)
  have e2 : nds.zipIdx.map (fun a => fmtN (a.2 : Int) a.1 ++ ("\n" : Str)) = (FL nds).map (· ++ ("\n" : Str)) := by rw [FL, List.map_map]; rfl
  rw [e2] at hj
  simp [b_format_plan, s_format_plan_2, planP, x_rJoin, x_sEnum, zip_plan, hl, c_fplan h, datsR_m, hj, allS]
/-! ### what the law tells of a row -/
theorem c_beh {d : Nd} (hi : ∀ k ∈ d.ins, k < 20) (call : CallT) (ws : List W) (e0 e1 e2 e3 e4 e5 e6 : Option W) : compS ⟨ws, none⟩ (stepG (.one 6) tYes (c__law_behind_4 call) [e0, e1, e2, e3, e4, e5, e6]) (d.ins.map (W.p ∘ inP)) [] = .ok (d.ins.map fun (k : Nat) => W.p (.str (nS (k : Int)))) [] := by
  refine compS_mapN (f := W.p ∘ inP) (g := fun (k : Nat) => W.p (.str (nS (k : Int)))) d.ins (fun k hk => ?_)
  have hs := small_of (hi k hk)
  have h6 := hs.2.1
  simp (disch := first | assumption | (simp [sz]; done) | (simp [sz]; omega) | fail) [stepG, c__law_behind_4, inP, str_i _ hs.1, add_s, nS]
def FLP (nds : List Nd) : List P := (FL nds ++ [Str.empty]).map .str
theorem r_behind (h : NdsOk nds) (c i : Nat) (d : Nd) (hn : nds[i]? = some d) : runF cf (c + 13) ("_law_behind", none) [.p (planP nds), .p (.int i)] [] = .ok (.p (.str d.rest)) [] := by
  rw [e__law_behind]
  obtain ⟨hd, hin⟩ := h.ok i d hn
  have hil : i < nds.length := (List.getElem?_eq_some_iff.mp hn).1
  have h10 := h.len
  have hin' : ∀ k ∈ d.ins, k < 20 := fun k hk => by have := hin k hk; omega
  have hs := small_of (i := i) (by omega)
  have h1 := r_format_plan h c
  have h2 := all_len h
  have h3 := split_lines (FL nds) (FL_nl h)
  have h4 : (FLP nds)[i]? = some (.str (fmtN (i : Int) d)) := by
    unfold FLP
    rw [List.getElem?_map, List.getElem?_append_left (by rw [FL_len]; exact hil), FL_get hn]
    rfl
  have h5 : (nds.map Nd.node)[i]? = some d.node := by rw [List.getElem?_map, hn]; rfl
  have h6 := hs.2.1
  have h7 := hd.wl
  have h8 := ins_len hd hin'
  have h9 := fmtN_len hd hs hin'
  have h11 := ahead_len hd hs hin'
  have hj := ins_j hd hin' []
  have hc : cutS (fmtN (i : Int) d) (some ((ahead (i : Int) d).length : Int)) none = d.rest := cutS_app _ _
  have hsp := splitK_s [] (allS nds) ("\n" : Str) (by simp) (by have := sz; omega)
  have h3' : Txt.split (allS nds) ("\n" : Str) = FL nds ++ [Str.empty] := h3
  rw [h3'] at hsp
  replace hsp : splitK (allS nds) (.str ("\n" : Str)) [] = .ok (.p (.lst (FLP nds))) [] := hsp
  have hi1 := idx_l [] h4
  have hi2 := idx_t [] h5
  have hil2 : d.ins.length ≤ sizeLine := by have := sz; have := hd.il; omega
  rw [planP] at h1
  cases he : d.ins with
  | nil =>
    have ea : ahead (i : Int) d = nS i ++ " = " ++ d.w := by unfold ahead; rw [if_pos he]
    rw [ea] at hc
    simp [nS] at hc
    simp (disch := first | assumption | (simp [sz]; done) | (simp [sz]; omega) | fail) [b__law_behind, planP, h1, s__law_behind_1, x_rSplit, hsp, hi1, s__law_behind_2, hi2, Nd.node, sG_cons, s__law_behind_3, Nd.op, str_i _ hs.1, add_s, s__law_behind_5, he, s__law_behind_6, x_part1, lenR_s, sl_s, hc]
  | cons k0 kr =>
    have ea : ahead (i : Int) d = nS i ++ " = " ++ d.w ++ " " ++ insS d := by unfold ahead; rw [if_neg (by rw [he]; simp)]
    rw [ea] at hc
    simp [nS] at hc
    have hne : 0 < d.ins.length := by rw [he]; simp
    rw [← he] at *
    simp (disch := first | assumption | (simp [sz]; done) | (simp [sz]; omega) | fail) [b__law_behind, planP, h1, s__law_behind_1, x_rSplit, hsp, hi1, s__law_behind_2, hi2, Nd.node, sG_cons, s__law_behind_3, Nd.op, str_i _ hs.1, add_s, s__law_behind_5, hne, s__law_behind_6, x_part1, lenR_s, sl_s, hc, x_rJoin, hil2, c_beh hin', datsR_m, hj]

/-! ### the law's row -/
theorem src_w : (" source " : Str) = " " ++ ("source" ++ " ") := by decide +kernel
theorem c_line {d : Nd} (hd : d.Ok) (call : CallT) (ws : List W) (e0 e1 e2 e3 e4 e5 e6 e7 : Option W) : compS ⟨ws, none⟩ (stepG (.many [6, 7]) tYes (c__law_line_5 call) [e0, e1, e2, e3, e4, e5, e6, e7]) (d.fs.map (W.p ∘ fld)) [] = .ok (d.fs.map fun p => W.p (.str (fw p))) [] := by
  refine compS_mapN (f := W.p ∘ fld) (g := fun p => W.p (.str (fw p))) d.fs (fun p hp => ?_)
  have h1 := (hd.fn p hp).1
  have h2 := (hd.fn p hp).2
  have h3 := h1.1
  simp (disch := first | assumption | (simp [sz]; done) | (simp [sz]; omega) | fail) [stepG, fld, sG_cons, add_s, fw, c__law_line_5]
/-- its rows are told by fields_of -/
def KindsOk (nds : List Nd) : Prop := ∀ c, runF cf (c + 20) ("fields_of", none) [.p (planP nds)] [] = .ok (.p (.lst (nds.map Nd.kind))) []
theorem r_line (h : NdsOk nds) (hk : KindsOk nds) (c i : Nat) (d : Nd) (hn : nds[i]? = some d) : runF cf (c + 21) ("_law_line", none) [.p (planP nds), .p (.int i)] [] = .ok (.p (.str (desc i d))) [] := by
  rw [e__law_line]
  obtain ⟨hd, hin⟩ := h.ok i d hn
  have hil : i < nds.length := (List.getElem?_eq_some_iff.mp hn).1
  have h10 := h.len
  have hs := small_of (i := i) (by omega)
  have hf := hk c
  have h5 : (nds.map Nd.node)[i]? = some d.node := by rw [List.getElem?_map, hn]; rfl
  have h5' : (nds.map Nd.kind)[i]? = some d.kind := by rw [List.getElem?_map, hn]; rfl
  have hi2 := idx_t [] h5
  have hi3 := idx_l [] h5'
  have h6 := hs.2.1
  have h7 := hd.wl
  have h8 := told_len hd
  have h9 := hd.rl
  have h11 := hd.kl
  have hj := told_j hd []
  have hfl : d.fs.length ≤ sizeLine := by have := sz; have := hd.fl; omega
  have hq := eq_s d.w "source" hd.ws (by simp)
  have hb := r_behind h (c + 7) i d hn
  rw [planP] at hf hb
  simp (disch := first | assumption | (simp [sz]; done) | (simp [sz]; omega) | fail) [b__law_line, planP, s__law_line_1, hi2, Nd.node, Nd.op, s__law_line_2, hf, hi3, Nd.kind, sG_cons, s__law_line_3, str_i _ hs.1, add_s]
  cases hw : (d.w == ("source" : Str)) with
  | true =>
    obtain ⟨⟨f, hm⟩, hnm⟩ := hd.src hw
    have h12 := hnm.1
    have h13 := eq_of_beq hw
    rw [hw, h13] at hq
    simp (disch := first | assumption | (simp [sz]; done) | (simp [sz]; omega) | fail) [s__law_line_4, hq, hm, add_s, s__law_line_6, x_rJoin, hfl, c_line hd, datsR_m, hj, desc, hw, nS, src_w, h13, Str.append_assoc]
  | false =>
    rw [hw] at hq
    simp (disch := first | assumption | (simp [sz]; done) | (simp [sz]; omega) | fail) [s__law_line_4, hq, hb, add_s, s__law_line_6, x_rJoin, hfl, c_line hd, datsR_m, hj, desc, hw, nS, Str.append_assoc]
end
end T
end
section
set_option Elab.async false
set_option linter.all false
set_option maxRecDepth 100000
set_option autoImplicit false
set_option maxHeartbeats 1000000
namespace T
open PySem PySem.Spec PyProof.Rows L2 Mp
/-! ### lists of numbers, of rows -/
def iW (k : Nat) : W := .p (inP k)
def sW (z : Str) : W := .p (.str z)
theorem dats_i : ∀ sn : List Nat, datsOf (sn.map iW) = some (sn.map inP)
  | [] => rfl
  | k :: r => by
    show (datsOf (r.map iW)).map (inP k :: ·) = _
    rw [dats_i r]; rfl
theorem lows_i (n : Nat) : ∀ sn : List Nat, lows n (sn.map inP) = true
  | [] => by cases n <;> rfl
  | k :: r => by
    show (low n (inP k) && lows n (r.map inP)) = true
    rw [lows_i n r]
    cases n <;> rfl
theorem any_i (i : Nat) : ∀ sn : List Nat, ((sn.map inP).any fun z => peq z (.int (i : Int))) = decide (i ∈ sn)
  | [] => by simp
  | k :: r => by
    rw [List.map_cons, List.any_cons, any_i i r]
    have : peq (inP k) (.int (i : Int)) = decide (i = k) := by
      show ((k : Int) == (i : Int)) = _
      by_cases h : i = k
      · subst h; simp
      · rw [decide_eq_false h]
        simp
        omega
    rw [this]
    simp
theorem in_nat (S : Store) {id : Nat} {sn : List Nat} (i : Nat) (h : S[id]? = some (.lst (sn.map iW))) : Mp.inR S false (.int (i : Int)) (.o id) = some (decide (i ∈ sn)) := by
  have h1 : seqOf S (.o id) = some (sn.map iW) := by simp [seqOf, h]
  have h2 : low 60 (.lst (sn.map inP)) = true := lows_i 59 sn
  unfold Mp.inR
  dsimp only
  rw [h1]
  dsimp only
  rw [dats_i]
  dsimp only
  rw [if_pos ⟨rfl, h2⟩, any_i]
  rfl
theorem app_0 (a b : List W) (y : W) (h : a.length < sizeLine) : appW [.lst a, .lst b] 0 y = .ok (.p .non) [.lst (a ++ [y]), .lst b] := if_pos h
theorem app_1 (a b : List W) (y : W) (h : b.length < sizeLine) : appW [.lst a, .lst b] 1 y = .ok (.p .non) [.lst a, .lst (b ++ [y])] := if_pos h
theorem lstAt_0 (a b : List W) : lstAt [.lst a, .lst b] 0 = true := rfl
theorem lstAt_1 (a b : List W) : lstAt [.lst a, .lst b] 1 = true := rfl
/-! ### the drawing -/
def ind (k : Nat) : Str := Txt.mul "  " (k : Int)
theorem mul_len (z : Str) : ∀ k : Nat, ((List.replicate k z.cps).foldl (· ++ ·) #[]).size = k * z.length := by
  have h : ∀ (k : Nat) (a : Array Nat), ((List.replicate k z.cps).foldl (· ++ ·) a).size = a.size + k * z.length := by
    intro k
    induction k with
    | zero => intro a; simp
    | succ k ih =>
      intro a
      rw [List.replicate_succ, List.foldl_cons, ih, Array.size_append, Nat.succ_mul]
      show a.size + z.length + _ = _
      omega
  intro k
  rw [h]
  simp
theorem rep_snoc (z : Array Nat) : ∀ (k : Nat) (a : Array Nat), (List.replicate (k + 1) z).foldl (· ++ ·) a = (List.replicate k z).foldl (· ++ ·) a ++ z := by
  intro k
  induction k with
  | zero => intro a; rfl
  | succ k ih =>
    intro a
    rw [List.replicate_succ, List.foldl_cons, ih, List.replicate_succ, List.foldl_cons]
theorem ind_succ (k : Nat) : ind (k + 1) = ind k ++ "  " := by
  have hl : (("  " : Str).length == 0) = false := by decide +kernel
  apply str_ext
  rw [tlS_append]
  unfold ind Txt.mul
  rw [if_neg (by omega)]
  cases k with
  | zero => decide +kernel
  | succ k =>
    rw [if_neg (by rw [hl, Bool.or_false, beq_iff_eq]; omega), if_neg (by omega)]
    have e1 : ((((k + 1 : Nat) + 1 : Nat) : Int)).toNat = k + 1 + 1 := by omega
    rw [e1]
    by_cases h0 : k = 0
    · subst h0; decide +kernel
    · rw [if_neg (by rw [hl, Bool.or_false, beq_iff_eq]; omega)]
      have e2 : (((k + 1 : Nat) : Int)).toNat = k + 1 := by omega
      rw [e2]
      show ((List.replicate (k + 1 + 1) _).foldl (· ++ ·) #[]).toList = _
      rw [rep_snoc, Array.toList_append]
theorem ind_len : ∀ k : Nat, (ind k).length = 2 * k
  | 0 => by decide +kernel
  | k + 1 => by
    rw [ind_succ, Str.length_append, ind_len k]
    have : ("  " : Str).length = 2 := by decide +kernel
    omega
theorem mul_ind (k : Nat) (h : k < 1000) : binop .Mult (.str "  ") (.int (k : Int)) = some (.str (ind k)) := by
  have hl : ("  " : Str).length = 2 := by decide +kernel
  have e : binop .Mult (.str ("  " : Str)) (.int (k : Int)) = if -1000000 < (k : Int) ∧ (k : Int) < 1000000 ∧ ("  " : Str).length * (k : Int).toNat ≤ sizeLine then some (.str (Txt.mul ("  " : Str) (k : Int))) else none := rfl
  rw [e, if_pos ⟨by omega, by omega, by rw [hl]; have := sz; omega⟩]
  rfl
abbrev Sn := List Nat × List Str
def asAbove (i : Nat) (dep : Nat) : Str := ind dep ++ nS (i : Int) ++ " as above"
def dr (nds : List Nd) : Nat → Nat → Nat → Sn → Sn
  | 0, _, _, st => st
  | f + 1, i, dep, st => match nds[i]? with
    | none => st
    | some d => if i ∈ st.1 then (st.1, st.2 ++ [asAbove i dep]) else d.ins.foldl (fun st k => dr nds f k (dep + 1) st) (st.1 ++ [i], st.2 ++ [ind dep ++ desc (i : Int) d])
/-- how much is added -/
theorem fold_len {g : Sn → Nat → Sn} {B : Nat} (hg : ∀ st k, (g st k).1.length ≤ st.1.length + B ∧ (g st k).2.length ≤ st.2.length + B) : ∀ (ks : List Nat) (st : Sn), (ks.foldl g st).1.length ≤ st.1.length + ks.length * B ∧ (ks.foldl g st).2.length ≤ st.2.length + ks.length * B
  | [], st => by simp
  | k :: ks, st => by
    have h1 := hg st k
    have h2 := fold_len hg ks (g st k)
    rw [List.foldl_cons, List.length_cons, Nat.succ_mul]
    omega
theorem dr_len {nds : List Nd} (h : NdsOk nds) : ∀ (f i dep : Nat) (st : Sn), (dr nds f i dep st).1.length ≤ st.1.length + 3 ^ f ∧ (dr nds f i dep st).2.length ≤ st.2.length + 3 ^ f
  | 0, i, dep, st => by simp [dr]
  | f + 1, i, dep, st => by
    have hp : 3 ^ (f + 1) = 3 * 3 ^ f := by rw [Nat.pow_succ]; omega
    have h1 : 1 ≤ 3 ^ f := Nat.one_le_pow _ _ (by decide)
    unfold dr
    split
    · omega
    · rename_i d hd
      split
      · simp; omega
      · have hl := (h.ok i d hd).1.il
        have h3 := fold_len (fun st k => dr_len h f k (dep + 1) st) d.ins (st.1 ++ [i], st.2 ++ [ind dep ++ desc (i : Int) d])
        have h4 := Nat.mul_le_mul_right (3 ^ f) hl
        simp only [List.length_append, List.length_singleton] at h3
        omega
/-- the store while it draws: the rows, what was seen -/
def StD (st : Sn) : Store := [.lst (st.2.map sW), .lst (st.1.map iW)]
theorem app_D0 (sn : List Nat) (ln : List Str) (z : Str) (h : ln.length < sizeLine) : appW (StD (sn, ln)) 0 (.p (.str z)) = .ok (.p .non) (StD (sn, ln ++ [z])) := by
  unfold StD
  rw [app_0 _ _ _ (by simpa using h)]
  simp [sW]
theorem app_D1 (sn : List Nat) (ln : List Str) (i : Nat) (h : sn.length < sizeLine) : appW (StD (sn, ln)) 1 (.p (.int (i : Int))) = .ok (.p .non) (StD (sn ++ [i], ln)) := by
  unfold StD
  rw [app_1 _ _ _ (by simpa using h)]
  simp [iW, inP]
@[simp] theorem at_D0 (st : Sn) : lstAt (StD st) 0 = true := id rfl
@[simp] theorem at_D1 (st : Sn) : lstAt (StD st) 1 = true := id rfl
@[simp] theorem len_D (st : Sn) : (StD st).length = 2 := id rfl
theorem below_i (n : Nat) : ∀ sn : List Nat, (sn.map iW).all (W.below n) = true
  | [] => rfl
  | _ :: r => by rw [List.map_cons, List.all_cons, below_i n r]; rfl
theorem below_s (n : Nat) : ∀ sn : List Str, (sn.map sW).all (W.below n) = true
  | [] => rfl
  | _ :: r => by rw [List.map_cons, List.all_cons, below_s n r]; rfl
@[simp] theorem trim_D (st : Sn) : trim 2 (.p .non) (StD st) = StD st := by
  have h : (W.below 2 (.p .non) && ((StD st).take 2).all (Cell.below 2)) = true := by
    show (true && ((st.2.map sW).all (W.below 2) && ((st.1.map iW).all (W.below 2) && true))) = true
    rw [below_i, below_s]; rfl
  unfold trim
  rw [if_pos h]
  rfl
theorem desc_len {d : Nd} (hd : d.Ok) {i : Int} (hs : small i) : (desc i d).length ≤ 1000 := by
  have h1 := told_len hd
  have h2 := nS_len hs
  have h3 := hd.wl
  have h4 := hd.rl
  have h5 := hd.kl
  unfold desc
  split
  · rename_i hw
    obtain ⟨_, hnm⟩ := hd.src hw
    have h6 := hnm.1
    simp
    omega
  · simp
    omega
section
variable {nds : List Nd}
theorem r_draw (h : NdsOk nds) : ∀ (f c i dep : Nat) (st : Sn), i < f → i < nds.length → dep + f ≤ 20 → st.1.length + 3 ^ f ≤ 1000000 → st.2.length + 3 ^ f ≤ 1000000 →
    runF cf (c + 11 + f) ("draw", none) [.p (planP nds), .p (.int i), .p (.str (ind dep)), .p (.lst (nds.map Nd.kind)), .o 1, .o 0] (StD st) = .ok (.p .non) (StD (dr nds f i dep st))
  | 0, _, i, _, _, hi, _, _, _, _ => absurd hi (Nat.not_lt_zero i)
  | f + 1, c, i, dep, (sn, ln), hi, hin, hdep, hb1, hb2 => by
    obtain ⟨d, hd'⟩ : ∃ d, nds[i]? = some d := ⟨_, List.getElem?_eq_getElem hin⟩
    obtain ⟨hd, hins⟩ := h.ok i d hd'
    have h10 := h.len
    have hs := small_of (i := i) (by omega)
    have hp : 3 ^ (f + 1) = 3 * 3 ^ f := by rw [Nat.pow_succ]; omega
    have h1 : 1 ≤ 3 ^ f := Nat.one_le_pow _ _ (by decide)
    simp only at hb1 hb2
    have hnn := r_node_name (c + 10 + f) i hs
    have hn6 := nS_len hs
    have hil := ind_len dep
    have hde := desc_len hd hs
    have hdesc := r_describe (c + f) (nds.map Nd.node) (nds.map Nd.kind) i d hd (by rw [List.getElem?_map, hd']; rfl) (by rw [List.getElem?_map, hd']; rfl) (by omega)
    have hx := in_nat (StD (sn, ln)) (id := 1) (sn := sn) i rfl
    rw [show c + 11 + (f + 1) = (c + 11 + f) + 1 by omega, e_draw]
    have e1 : c + f + 11 = c + 11 + f := by omega
    have e2 : c + 10 + f + 1 = c + 11 + f := by omega
    rw [e1] at hdesc
    rw [e2] at hnn
    unfold dr
    rw [hd']
    simp only
    by_cases hm : i ∈ sn
    · rw [if_pos hm]
      rw [decide_eq_true hm] at hx
      simp (disch := first | assumption | (simp [sz]; done) | (simp [sz]; omega) | fail) [b_draw, s_draw_1, hx, x_rApp, hnn, add_s, app_D0, asAbove]
    · rw [if_neg hm]
      rw [decide_eq_false hm] at hx
      -- the loop
      have loop : ∀ (ks : List Nat), (∀ k ∈ ks, k < i) → ks.length ≤ 2 → ∀ (st : Sn) (ws : List W) (e6 : Option W), st.1.length + ks.length * 3 ^ f ≤ 1000000 → st.2.length + ks.length * 3 ^ f ≤ 1000000 →
          ∃ e6', forS ⟨ws, none⟩ (.one 6) (l_draw_4 (runF cf (c + 11 + f))) (ks.map (W.p ∘ inP)) [some (W.p (planP nds)), some (W.p (P.int ↑i)), some (W.p (P.str (ind dep))), some (W.p (P.lst (List.map Nd.kind nds))), some (W.o 1), some (W.o 0), e6] (StD st) =
            .nx [some (W.p (planP nds)), some (W.p (P.int ↑i)), some (W.p (P.str (ind dep))), some (W.p (P.lst (List.map Nd.kind nds))), some (W.o 1), some (W.o 0), e6'] (StD (ks.foldl (fun st k => dr nds f k (dep + 1) st) st)) := by
        intro ks
        induction ks with
        | nil =>
          intro _ _ st ws e6 _ _
          exact ⟨e6, by simp [forS]⟩
        | cons k ks ih =>
          intro hk hl st ws e6 hs1 hs2
          have hki := hk k List.mem_cons_self
          rw [List.length_cons, Nat.succ_mul] at hs1 hs2
          have hrec := r_draw h f c k (dep + 1) st (by omega) (by omega) (by omega) (by omega) (by omega)
          have hl2 := dr_len h f k (dep + 1) st
          obtain ⟨e6', he⟩ := ih (fun x hx => hk x (List.mem_cons_of_mem _ hx)) (by simp only [List.length_cons] at hl; omega) (dr nds f k (dep + 1) st) ws (some (.p (inP k))) (by omega) (by omega)
          refine ⟨e6', ?_⟩
          rw [List.map_cons, List.foldl_cons, ← he]
          rw [ind_succ] at hrec
          simp (disch := first | assumption | (simp [sz]; done) | (simp [sz]; omega) | fail) [forS, l_draw_4, x_rCall, add_s, x_callT, inP, hrec]
      have hl := hd.il
      have hlm := Nat.mul_le_mul_right (3 ^ f) hl
      obtain ⟨e6', he⟩ := loop d.ins hins hl (sn ++ [i], ln ++ [ind dep ++ desc (i : Int) d]) (d.ins.map (W.p ∘ inP)) none (by simp only [List.length_append, List.length_singleton]; omega) (by simp only [List.length_append, List.length_singleton]; omega)
      have hidx := idx_t (StD (sn ++ [i], ln ++ [ind dep ++ desc (i : Int) d])) (ds := nds.map Nd.node) (i := i) (d := d.node) (by rw [List.getElem?_map, hd']; rfl)
      simp (disch := first | assumption | (simp [sz]; done) | (simp [sz]; omega) | fail) [b_draw, s_draw_1, hx, x_rApp, s_draw_2, app_D1, s_draw_3, hdesc, planP, add_s, app_D0, s_draw_5, hidx, Nd.node]
      rw [planP] at he
      rw [he]
      simp
end
end T
end
section
set_option Elab.async false
set_option linter.all false
set_option maxRecDepth 100000
set_option autoImplicit false
set_option maxHeartbeats 1000000
namespace T
open PySem PySem.Spec PyProof.Rows L2 Mp
/-! ### the law's own rows, from a heap of what is to do -/
def StL (st : Sn) : Store := [.lst (st.1.map iW), .lst (st.2.map sW)]
theorem app_L0 (sn : List Nat) (ln : List Str) (i : Nat) (h : sn.length < sizeLine) : appW (StL (sn, ln)) 0 (.p (.int (i : Int))) = .ok (.p .non) (StL (sn ++ [i], ln)) := by
  unfold StL
  rw [app_0 _ _ _ (by simpa using h)]
  simp [iW, inP]
theorem app_L1 (sn : List Nat) (ln : List Str) (z : Str) (h : ln.length < sizeLine) : appW (StL (sn, ln)) 1 (.p (.str z)) = .ok (.p .non) (StL (sn, ln ++ [z])) := by
  unfold StL
  rw [app_1 _ _ _ (by simpa using h)]
  simp [sW]
@[simp] theorem at_L0 (st : Sn) : lstAt (StL st) 0 = true := id rfl
@[simp] theorem at_L1 (st : Sn) : lstAt (StL st) 1 = true := id rfl
@[simp] theorem len_L (st : Sn) : (StL st).length = 2 := id rfl
def td (a : Nat × Nat) : P := .tup [.int (a.1 : Int), .int (a.2 : Int)]
theorem cut1 {α : Type} (x : α) (xs : List α) : cutL (x :: xs) (some 1) none = xs := by
  unfold cutL
  have h1 : HT.sIx (x :: xs).length 0 (some 1) = 1 := by
    have := HT.sIx_nat (x :: xs).length 0 1
    rw [show ((1 : Nat) : Int) = 1 from rfl] at this
    rw [this, List.length_cons]
    omega
  rw [h1, HT.sIx_none]
  simp
theorem sl_l1 (S : Store) (d : P) (ds : List P) : sliceR S (.p (.lst (d :: ds))) (some 1) none = some (.lst ds) := by
  show (datsOf (cutL (W.p d :: ds.map W.p) (some 1) none)).map P.lst = _
  rw [cut1, datsOf_map]
  rfl
section
variable {nds : List Nd}
def EL (nds : List Nd) (todo : List (Nat × Nat)) (e4 e5 e6 : Option W) : En := [some (.p (planP nds)), some (.p (.lst (todo.map td))), some (.o 0), some (.o 1), e4, e5, e6]
theorem c_todo {d : Nd} (dep : Nat) (call : CallT) (S : Store) (ws : List W) (e0 e1 e2 e3 e4 e6 : Option W) : compS ⟨ws, none⟩ (stepG (.one 6) tYes (c__law_lines_5 call) [e0, e1, e2, e3, e4, some (.p (.int (dep : Int))), e6]) (d.ins.map (W.p ∘ inP)) S = .ok (d.ins.map fun k => W.p (td (k, dep + 1))) S := by
  refine compS_mapN (f := W.p ∘ inP) (g := fun k => W.p (td (k, dep + 1))) d.ins (fun k hk => ?_)
  simp [stepG, c__law_lines_5, inP, td, sz]
theorem turn_seen (h : NdsOk nds) (call : CallT) (i dep : Nat) (rest : List (Nat × Nat)) (sn : List Nat) (ln : List Str) (e4 e5 e6 : Option W) (hi : i < 8) (hm : i ∈ sn) (hd : dep ≤ 20) (hl : ln.length < 1000000) :
    l__law_lines_6 call (EL nds ((i, dep) :: rest) e4 e5 e6) (StL (sn, ln)) = .nx (EL nds rest (some (.p (.int i))) (some (.p (.int dep))) e6) (StL (sn, ln ++ [asAbove i dep])) := by
  have hs := small_of (i := i) (by omega)
  have h6 := hs.2.1
  have hx := in_nat (StL (sn, ln)) (id := 0) (sn := sn) i rfl
  rw [decide_eq_true hm] at hx
  have hil := ind_len dep
  simp (disch := first | assumption | omega | (simp [sz]; done) | (simp [sz]; omega) | fail) [l__law_lines_6, EL, td, sG_cons, x_part1, sl_l1, hx, x_rApp, mul_ind, str_i _ hs.1, add_s, app_L1, asAbove, nS, Str.append_assoc]
theorem turn_new (h : NdsOk nds) (hk : KindsOk nds) (c i dep : Nat) (d : Nd) (rest : List (Nat × Nat)) (sn : List Nat) (ln : List Str) (e4 e5 e6 : Option W) (hn : nds[i]? = some d) (hm : i ∉ sn) (hd : dep ≤ 20) (hl : ln.length < 1000000) (hl2 : sn.length < 1000000) (hr : rest.length < 1000000) :
    l__law_lines_6 (runF cf (c + 21)) (EL nds ((i, dep) :: rest) e4 e5 e6) (StL (sn, ln)) = .nx (EL nds ((d.ins.map fun k => (k, dep + 1)) ++ rest) (some (.p (.int i))) (some (.p (.int dep))) e6) (StL (sn ++ [i], ln ++ [ind dep ++ desc (i : Int) d])) := by
  have hi : i < nds.length := (List.getElem?_eq_some_iff.mp hn).1
  have h10 := h.len
  obtain ⟨hd', hins⟩ := h.ok i d hn
  have hs := small_of (i := i) (by omega)
  have hx := in_nat (StL (sn, ln)) (id := 0) (sn := sn) i rfl
  rw [decide_eq_false hm] at hx
  have hil := ind_len dep
  have hde := desc_len hd' hs
  have hll := r_line h hk c i d hn
  have hidx := idx_t (StL (sn ++ [i], ln ++ [ind dep ++ desc (i : Int) d])) (ds := nds.map Nd.node) (i := i) (d := d.node) (by rw [List.getElem?_map, hn]; rfl)
  have h2 := hd'.il
  have hil2 : d.ins.length ≤ sizeLine := by have := sz; omega
  have hct := c_todo (d := d) dep (runF cf (c + 21)) (StL (sn ++ [i], ln ++ [ind dep ++ desc (i : Int) d]))
  have hmap : ((d.ins.map fun k => (k, dep + 1)) ++ rest).map td = (d.ins.map fun k => td (k, dep + 1)) ++ rest.map td := by simp
  simp (disch := first | assumption | omega | (simp [sz]; done) | (simp [sz]; omega) | fail) only [EL, hmap]
  rw [planP] at hll
  simp (config := {maxSteps := 1000000}) (disch := first | assumption | omega | (simp [sz]; done) | (simp [sz]; omega) | fail) [l__law_lines_6, planP, sG_cons, x_part1, sl_l1, hx, x_rApp, mul_ind, add_s, app_L0, app_L1, hll, hidx, Nd.node, hil2, hct, datsR_m, add_l, List.map_cons, show td (i, dep) = .tup [.int (i : Int), .int (dep : Int)] from rfl]

abbrev tW (c : Nat) : CT := t__law_lines_4 (runF cf c)
abbrev lW (c : Nat) : CS := l__law_lines_6 (runF cf c)
theorem while_step (c N : Nat) (a : Nat × Nat) (rest : List (Nat × Nat)) (e4 e5 e6 : Option W) (S : Store) : whileS (tW c) (lW c) (N + 1) (EL nds (a :: rest) e4 e5 e6) S = (lW c (EL nds (a :: rest) e4 e5 e6) S).turn fun E2 S2 => whileS (tW c) (lW c) N E2 S2 := by
  have ht : tW c (EL nds (a :: rest) e4 e5 e6) S = .ok true S := by
    simp [tW, t__law_lines_4, EL]
  show (tW c (EL nds (a :: rest) e4 e5 e6) S).thenS _ _ = _
  rw [ht]
  rfl
theorem while_end (c N : Nat) (e4 e5 e6 : Option W) (S : Store) : whileS (tW c) (lW c) (N + 1) (EL nds [] e4 e5 e6) S = .nx (EL nds [] e4 e5 e6) S := by
  have ht : tW c (EL nds [] e4 e5 e6) S = .ok false S := by
    simp [tW, t__law_lines_4, EL]
  show (tW c (EL nds [] e4 e5 e6) S).thenS _ _ = _
  rw [ht]
  rfl
/-- a node with all below it -/
theorem while_dr (h : NdsOk nds) (hk : KindsOk nds) (c : Nat) : ∀ (f i dep : Nat) (rest : List (Nat × Nat)) (st : Sn), i < f → i < nds.length → dep + f ≤ 20 → st.1.length + 3 ^ f ≤ 100000 → st.2.length + 3 ^ f ≤ 100000 → rest.length + 2 * f ≤ 100000 →
    ∃ m, m ≤ 3 ^ f ∧ ∀ (N : Nat) (e4 e5 e6 : Option W), ∃ e4' e5' e6', whileS (tW (c + 21)) (lW (c + 21)) (N + m) (EL nds ((i, dep) :: rest) e4 e5 e6) (StL st) = whileS (tW (c + 21)) (lW (c + 21)) N (EL nds rest e4' e5' e6') (StL (dr nds f i dep st))
  | 0, i, _, _, _, hi, _, _, _, _, _ => absurd hi (Nat.not_lt_zero i)
  | f + 1, i, dep, rest, (sn, ln), hi, hin, hdep, hb1, hb2, hr => by
    obtain ⟨d, hd'⟩ : ∃ d, nds[i]? = some d := ⟨_, List.getElem?_eq_getElem hin⟩
    obtain ⟨hd, hins⟩ := h.ok i d hd'
    have h10 := h.len
    have hp : 3 ^ (f + 1) = 3 * 3 ^ f := by rw [Nat.pow_succ]; omega
    have h1 : 1 ≤ 3 ^ f := Nat.one_le_pow _ _ (by decide)
    simp only at hb1 hb2
    unfold dr
    rw [hd']
    simp only
    by_cases hm : i ∈ sn
    · rw [if_pos hm]
      refine ⟨1, by omega, fun N e4 e5 e6 => ⟨some (.p (.int (i : Int))), some (.p (.int (dep : Int))), e6, ?_⟩⟩
      rw [while_step]
      have := turn_seen h (runF cf (c + 21)) i dep rest sn ln e4 e5 e6 (by omega) hm (by omega) (by omega)
      rw [show lW (c + 21) (EL nds ((i, dep) :: rest) e4 e5 e6) (StL (sn, ln)) = _ from this]
      rfl
    · rw [if_neg hm]
      have loop : ∀ (ks : List Nat), (∀ k ∈ ks, k < i) → ks.length ≤ 2 → ∀ (st : Sn), st.1.length + ks.length * 3 ^ f ≤ 100000 → st.2.length + ks.length * 3 ^ f ≤ 100000 →
          ∃ m, m ≤ ks.length * 3 ^ f ∧ ∀ (N : Nat) (e4 e5 e6 : Option W), ∃ e4' e5' e6', whileS (tW (c + 21)) (lW (c + 21)) (N + m) (EL nds ((ks.map fun k => (k, dep + 1)) ++ rest) e4 e5 e6) (StL st) = whileS (tW (c + 21)) (lW (c + 21)) N (EL nds rest e4' e5' e6') (StL (ks.foldl (fun st k => dr nds f k (dep + 1) st) st)) := by
        intro ks
        induction ks with
        | nil => exact fun _ _ st _ _ => ⟨0, by omega, fun N e4 e5 e6 => ⟨e4, e5, e6, rfl⟩⟩
        | cons k ks ih =>
          intro hk' hl st hs1 hs2
          have hki := hk' k List.mem_cons_self
          rw [List.length_cons, Nat.succ_mul] at hs1 hs2
          have hl2 := dr_len h f k (dep + 1) st
          have hl' : ks.length ≤ 1 := by simp only [List.length_cons] at hl; omega
          obtain ⟨m1, hm1, g1⟩ := while_dr h hk c f k (dep + 1) ((ks.map fun k => (k, dep + 1)) ++ rest) st (by omega) (by omega) (by omega) (by omega) (by omega) (by rw [List.length_append, List.length_map]; omega)
          obtain ⟨m2, hm2, g2⟩ := ih (fun x hx => hk' x (List.mem_cons_of_mem _ hx)) (by omega) (dr nds f k (dep + 1) st) (by omega) (by omega)
          refine ⟨m2 + m1, by rw [List.length_cons, Nat.succ_mul]; omega, fun N e4 e5 e6 => ?_⟩
          obtain ⟨a4, a5, a6, ea⟩ := g1 (N + m2) e4 e5 e6
          obtain ⟨b4, b5, b6, eb⟩ := g2 N a4 a5 a6
          refine ⟨b4, b5, b6, ?_⟩
          rw [← Nat.add_assoc]
          exact ea.trans eb
      have hl := hd.il
      have hlm := Nat.mul_le_mul_right (3 ^ f) hl
      obtain ⟨m, hm', g⟩ := loop d.ins hins hl (sn ++ [i], ln ++ [ind dep ++ desc (i : Int) d]) (by simp only [List.length_append, List.length_singleton]; omega) (by simp only [List.length_append, List.length_singleton]; omega)
      refine ⟨m + 1, by omega, fun N e4 e5 e6 => ?_⟩
      obtain ⟨a4, a5, a6, ea⟩ := g N (some (.p (.int i))) (some (.p (.int dep))) e6
      refine ⟨a4, a5, a6, ?_⟩
      rw [← Nat.add_assoc, while_step]
      have := turn_new h hk c i dep d rest sn ln e4 e5 e6 hd' hm (by omega) (by omega) (by omega) (by omega)
      rw [show lW (c + 21) (EL nds ((i, dep) :: rest) e4 e5 e6) (StL (sn, ln)) = _ from this]
      exact ea
end
end T
end
section
set_option Elab.async false
set_option linter.all false
set_option maxRecDepth 100000
set_option autoImplicit false
set_option maxHeartbeats 1000000
namespace T
open PySem PySem.Spec PyProof.Rows L2 Mp
/-! ### both ends -/
theorem iS_ok : ∀ i : Fin 20, PyData.strOk (iS (i.1 : Int)) = true := by decide +kernel
theorem ok_nS {i : Nat} (h : i < 20) : PyData.strOk (nS (i : Int)) = true := strOk_app _ _ (by decide +kernel) (iS_ok ⟨i, h⟩)
theorem ok_join {z : Str} (hz : PyData.strOk z = true) : ∀ {ys : List Str}, (∀ y ∈ ys, PyData.strOk y = true) → PyData.strOk (Str.join z ys) = true
  | [], _ => show PyData.strOk Str.empty = true by decide +kernel
  | [x], h => h x List.mem_cons_self
  | x :: y :: r, h => strOk_app _ _ (strOk_app _ _ (h x List.mem_cons_self) hz) (ok_join hz fun w hw => h w (List.mem_cons_of_mem _ hw))
theorem ok_tjoin {z : Str} (hz : PyData.strOk z = true) {ys : List Str} (h : ∀ y ∈ ys, PyData.strOk y = true) : PyData.strOk (Txt.join z ys) = true := by
  show PyData.strOk (Builtin.Str.glued _ _) = true
  rw [StrLaws.glued_eq_join]
  exact ok_join hz h
theorem ok_ind : ∀ k : Nat, PyData.strOk (ind k) = true
  | 0 => by decide +kernel
  | k + 1 => by rw [ind_succ]; exact strOk_app _ _ (ok_ind k) (by decide +kernel)
theorem ok_desc {d : Nd} (hd : d.Ok) {i : Nat} (hi : i < 20) : PyData.strOk (desc (i : Int) d) = true := by
  obtain ⟨h1, h2, h3, h4⟩ := hd.so
  have ht : PyData.strOk (told d) = true := ok_tjoin (by decide +kernel) fun y hy => by
    obtain ⟨p, hp, rfl⟩ := List.mem_map.mp hy
    exact strOk_app _ _ (strOk_app _ _ (h3 p hp).1 (by decide +kernel)) (h3 p hp).2
  have hn := ok_nS hi
  unfold desc
  split
  · exact strOk_app _ _ (strOk_app _ _ (strOk_app _ _ (strOk_app _ _ (strOk_app _ _ (strOk_app _ _ (strOk_app _ _ hn (by decide +kernel)) h4) (by decide +kernel)) ht) (by decide +kernel)) h2) (by decide +kernel)
  · exact strOk_app _ _ (strOk_app _ _ (strOk_app _ _ (strOk_app _ _ (strOk_app _ _ (strOk_app _ _ (strOk_app _ _ (strOk_app _ _ hn (by decide +kernel)) hd.ws) h1) (by decide +kernel)) ht) (by decide +kernel)) h2) (by decide +kernel)
def LOk (l : Str) : Prop := l.length ≤ 1100 ∧ PyData.strOk l = true
theorem fold_all {g : Sn → Nat → Sn} (hg : ∀ st k, ∀ l ∈ (g st k).2, l ∈ st.2 ∨ LOk l) : ∀ (ks : List Nat) (st : Sn), ∀ l ∈ (ks.foldl g st).2, l ∈ st.2 ∨ LOk l
  | [], st => fun l hl => .inl hl
  | k :: ks, st => fun l hl => (fold_all hg ks (g st k) l hl).elim (hg st k l) .inr
theorem dr_all {nds : List Nd} (h : NdsOk nds) : ∀ (f i dep : Nat) (st : Sn), dep + f ≤ 20 → ∀ l ∈ (dr nds f i dep st).2, l ∈ st.2 ∨ LOk l
  | 0, i, dep, st, _ => fun l hl => .inl hl
  | f + 1, i, dep, st, hdep => by
    unfold dr
    have hil := ind_len dep
    split
    · exact fun l hl => .inl hl
    · rename_i d hd
      have hi : i < nds.length := (List.getElem?_eq_some_iff.mp hd).1
      have h10 := h.len
      have hs := small_of (i := i) (by omega)
      obtain ⟨hd', hins⟩ := h.ok i d hd
      have hn6 := nS_len hs
      have hde := desc_len hd' hs
      split
      · intro l hl
        rcases List.mem_append.mp hl with hl | hl
        · exact .inl hl
        · rw [List.mem_singleton] at hl
          subst hl
          refine .inr ⟨?_, strOk_app _ _ (strOk_app _ _ (ok_ind dep) (ok_nS (by omega))) (by decide +kernel)⟩
          simp [asAbove]
          omega
      · intro l hl
        rcases fold_all (fun st k => dr_all h f k (dep + 1) st (by omega)) d.ins _ l hl with hl | hl
        · rcases List.mem_append.mp hl with hl | hl
          · exact .inl hl
          · rw [List.mem_singleton] at hl
            subst hl
            refine .inr ⟨?_, strOk_app _ _ (ok_ind dep) (ok_desc hd' (by omega))⟩
            simp
            omega
        · exact .inr hl
section
variable {nds : List Nd}
def lnF (nds : List Nd) : List Str := (dr nds nds.length (nds.length - 1) 0 ([], [])).2
def outF (nds : List Nd) : Str := Txt.join "" ((lnF nds).map (· ++ ("\n" : Str)))
theorem pow_le {n : Nat} (h : n ≤ 8) : 3 ^ n ≤ 6561 := Nat.le_trans (Nat.pow_le_pow_right (by decide) h) (by decide)
theorem lnF_len (h : NdsOk nds) : (lnF nds).length ≤ 6561 := by
  have h1 := (dr_len h nds.length (nds.length - 1) 0 ([], [])).2
  have h2 := pow_le h.len
  simp only [List.length_nil, Nat.zero_add] at h1
  exact Nat.le_trans h1 h2
theorem lnF_ok (h : NdsOk nds) : ∀ l ∈ lnF nds, LOk l := fun l hl => by
  have := h.len
  rcases dr_all h nds.length (nds.length - 1) 0 ([], []) (by omega) l hl with z | z
  · cases z
  · exact z
theorem outF_ok (h : NdsOk nds) : PyData.strOk (outF nds) = true := ok_tjoin (by decide +kernel) fun y hy => by
  obtain ⟨l, hl, rfl⟩ := List.mem_map.mp hy
  exact strOk_app _ _ (lnF_ok h l hl).2 (by decide +kernel)
theorem outF_j (h : NdsOk nds) (S : Store) : joinK ("" : Str) (.lst ((lnF nds).map fun l => .str (l ++ ("\n" : Str)))) S = .ok (.p (.str (outF nds))) S := by
  have e : (("" : Str)).length = 0 := by decide +kernel
  exact joinK_m S ("" : Str) (lnF nds) (fun l => l ++ ("\n" : Str)) 1101 6561 (fun l hl => by
    have := (lnF_ok h l hl).1
    simp
    omega) (lnF_len h) (by rw [e]; decide)
theorem c_out (h : NdsOk nds) (call : CallT) (sn : List Nat) (e0 e1 e2 e3 : Option W) : compS ⟨(lnF nds).map sW, some 0⟩ (stepG (.one 3) tYes (c_outline_4 call) [e0, e1, e2, e3]) ((lnF nds).map sW) (StD (sn, lnF nds)) = .ok ((lnF nds).map fun l => W.p (.str (l ++ ("\n" : Str)))) (StD (sn, lnF nds)) := by
  refine compS_map (src := ⟨(lnF nds).map sW, some 0⟩) (f := sW) (g := fun l => W.p (.str (l ++ ("\n" : Str)))) (show (StD (sn, lnF nds))[0]? = some (.lst ((lnF nds).map sW)) from rfl) (lnF nds) (fun l hl => ?_)
  have := (lnF_ok h l hl).1
  simp (disch := first | assumption | omega | (simp [sz]; done) | (simp [sz]; omega) | fail) [stepG, c_outline_4, sW, add_s]
theorem src_D0 (st : Sn) : srcOf (StD st) (.o 0) = some ⟨st.2.map sW, some 0⟩ := rfl
theorem r_outline (h : NdsOk nds) (hk : KindsOk nds) (h0 : 0 < nds.length) (c : Nat) : runF cf (c + 30) ("outline", none) [.p (planP nds)] [] = .ok (.p (.str (outF nds))) [] := by
  rw [e_outline]
  have h10 := h.len
  have hf := hk (c + 9)
  have hl : nds.length ≤ sizeLine := by have := sz; omega
  have hp := pow_le h.len
  have hd := r_draw h nds.length (c + 18 - nds.length) (nds.length - 1) 0 ([], []) (by omega) (by omega) (by omega) (by simp; omega) (by simp; omega)
  rw [show c + 18 - nds.length + 11 + nds.length = c + 29 by omega] at hd
  have hi0 : ind 0 = ("" : Str) := by decide +kernel
  have hd0 : StD ([], []) = [.lst [], .lst []] := rfl
  rw [hi0, hd0] at hd
  have hsub : ((nds.length : Int) - 1) = ((nds.length - 1 : Nat) : Int) := by omega
  have hll := lnF_len h
  have hll2 : (lnF nds).length ≤ sizeLine := by have := sz; omega
  obtain ⟨sn, hsn⟩ : ∃ sn, dr nds nds.length (nds.length - 1) 0 ([], []) = (sn, lnF nds) := ⟨_, rfl⟩
  rw [hsn] at hd
  have hdd := datsR_m (StD (sn, lnF nds)) (lnF nds) (fun l => P.str (l ++ ("\n" : Str)))
  have hj := outF_j h (StD (sn, lnF nds))
  rw [planP] at hf hd
  simp (disch := first | assumption | omega | (simp [sz]; done) | (simp [sz]; omega) | fail) [b_outline, s_outline_1, planP, hf, s_outline_2, s_outline_3, x_rCall, x_callT, hsub, hd, s_outline_5, x_rJoin, src_D0, hll2, c_out h, hdd, hj]

end
end T
end
section
set_option Elab.async false
set_option linter.all false
set_option maxRecDepth 100000
set_option autoImplicit false
set_option maxHeartbeats 1000000
namespace T
open PySem PySem.Spec PyProof.Rows L2 Mp
section
variable {nds : List Nd}
theorem frzL_s (n : Nat) (S : Store) : ∀ ln : List Str, frzL (frz n) (ln.map sW) S = some (ln.map P.str, S)
  | [] => rfl
  | l :: r => by
    have h1 : frz n (sW l) S = some (.str l, S) := by cases n <;> rfl
    show (match frz n (sW l) S with
      | some (d, S1) => match frzL (frz n) (r.map sW) S1 with
        | some (ds, S2) => some (d :: ds, S2)
        | none => none
      | none => none) = _
    rw [h1]
    simp only
    rw [frzL_s n S r]
    rfl
theorem frz_L1 (sn : List Nat) (ln : List Str) : frzR (.ok (.o 1) (StL (sn, ln))) = .ok (.lst (ln.map P.str)) ((StL (sn, ln)).set 1 (.fz (.lst (ln.map P.str)))) := by
  have h1 : frz 4 (.o 1) (StL (sn, ln)) = some (.lst (ln.map P.str), (StL (sn, ln)).set 1 (.fz (.lst (ln.map P.str)))) := by
    show (match frzL (frz 3) (ln.map sW) (StL (sn, ln)) with
      | some (ds, S1) => if S1[1]? = some (Cell.lst (ln.map sW)) then some (P.lst ds, S1.set 1 (.fz (.lst ds))) else none
      | none => none) = _
    rw [frzL_s]
    simp only
    exact if_pos (show (StL (sn, ln))[1]? = some (Cell.lst (ln.map sW)) from rfl)
  show (match frz 4 (.o 1) (StL (sn, ln)) with
    | some (d, S1) => Res.ok d S1
    | none => .bad) = _
  rw [h1]
theorem r_lines (h : NdsOk nds) (hk : KindsOk nds) (h0 : 0 < nds.length) (c : Nat) : runF cf (c + 22) ("_law_lines", none) [.p (planP nds)] [] = .ok (.p (.lst ((lnF nds).map P.str))) [] := by
  rw [e__law_lines]
  have h10 := h.len
  have hp := pow_le h.len
  obtain ⟨m, hm, g⟩ := while_dr h hk c nds.length (nds.length - 1) 0 [] ([], []) (by omega) (by omega) (by omega) (by simp; omega) (by simp; omega) (by simp; omega)
  obtain ⟨e4, e5, e6, ge⟩ := g (999999 - m + 1) none none none
  rw [while_end] at ge
  rw [show 999999 - m + 1 + m = whileMost by show _ = 1000000; omega] at ge
  obtain ⟨sn, hsn⟩ : ∃ sn, dr nds nds.length (nds.length - 1) 0 ([], []) = (sn, lnF nds) := ⟨_, rfl⟩
  rw [hsn] at ge
  have hsub : ((nds.length : Int) - 1) = ((nds.length - 1 : Nat) : Int) := by omega
  have hst : StL ([], []) = [.lst [], .lst []] := rfl
  have hw : s__law_lines_7 (runF cf (c + 21)) (EL nds [(nds.length - 1, 0)] none none none) [.lst [], .lst []] = .nx (EL nds [] e4 e5 e6) (StL (sn, lnF nds)) := by
    rw [← hst]
    exact ge
  have hel : EL nds [(nds.length - 1, 0)] none none none = [some (.p (.tup (nds.map Nd.node))), some (.p (.lst [.tup [.int ((nds.length - 1 : Nat) : Int), .int 0]])), some (.o 0), some (.o 1), none, none, none] := rfl
  rw [hel] at hw
  simp (disch := first | assumption | omega | (simp [sz]; done) | (simp [sz]; omega) | fail) [b__law_lines, s__law_lines_1, planP, hsub, sz, s__law_lines_2, s__law_lines_3, hw, s__law_lines_8, EL, frz_L1]
/-! ### one plan is told well -/
theorem c_law (h : NdsOk nds) (call : CallT) (S : Store) (ws : List W) (e0 e1 e2 e3 e4 : Option W) : compS ⟨ws, none⟩ (stepG (.one 4) tYes (c_law_1 call) [e0, e1, e2, e3, e4]) ((lnF nds).map (W.p ∘ P.str)) S = .ok ((lnF nds).map fun l => W.p (.str (l ++ ("\n" : Str)))) S := by
  refine compS_mapN (f := W.p ∘ P.str) (g := fun l => W.p (.str (l ++ ("\n" : Str)))) (lnF nds) (fun l hl => ?_)
  have := (lnF_ok h l hl).1
  simp (disch := first | assumption | omega | (simp [sz]; done) | (simp [sz]; omega) | fail) [stepG, c_law_1, add_s]
end
end T
end
section
set_option Elab.async false
set_option linter.all false
set_option maxRecDepth 100000
set_option autoImplicit false
set_option maxHeartbeats 1000000
namespace T
open PySem PySem.Spec PyProof.Rows L2 Mp
/-! ### the fields of a plan, node by node -/
def kindAt (nds : List Nd) (k : Nat) : P := ((nds[k]?).map Nd.kind).getD .non
structure FOk (nds : List Nd) : Prop where
  s0 : ∀ (i : Nat) (d : Nd), nds[i]? = some d → (d.w == ("source" : Str)) = true → d.ins = [] ∧ d.more = [.str d.nm, .tup (d.fs.map fld)] ∧ d.kd = "events" ∧ PyData.strOk d.nm = true
  s1 : ∀ (i : Nat) (d : Nd), nds[i]? = some d → (d.w == ("source" : Str)) = true → ∀ (j : Nat) (e : Nd), j < i → nds[j]? = some e → (e.w == ("source" : Str)) = true → (e.nm == d.nm) = false
  n0 : ∀ (i : Nat) (d : Nd), nds[i]? = some d → (d.w == ("source" : Str)) = false → ∀ c, runF cf (c + 1) ("sides_of", none) [.p d.op] [] = .ok (.p (.int (d.ins.length : Int))) []
  n1 : ∀ (i : Nat) (d : Nd), nds[i]? = some d → (d.w == ("source" : Str)) = false → ∀ c, runF cf (c + 15) ("check_operator", none) [.p d.op, .p (.lst (d.ins.map (kindAt nds)))] [] = .ok (.p d.kind) []
section
variable {nds : List Nd}
theorem c_ci {d : Nd} {i : Nat} (hi : ∀ k ∈ d.ins, k < i) (call : CallT) (ws : List W) (e0 e2 e3 e4 e5 e6 : Option W) : compS ⟨ws, none⟩ (stepG (.one 6) (t_check_inputs_3 call) (c_check_inputs_4 call) [e0, some (.p (.int (i : Int))), e2, e3, e4, e5, e6]) (d.ins.map (W.p ∘ inP)) [] = .ok (d.ins.map fun k => W.p (inP k)) [] := by
  refine compS_mapN (f := W.p ∘ inP) (g := fun k => W.p (inP k)) d.ins (fun k hk => ?_)
  have h1 := hi k hk
  have h2 : (k : Int) < (i : Int) := by omega
  have h3 : (0 : Int) ≤ (k : Int) := by omega
  simp [stepG, t_check_inputs_3, c_check_inputs_4, inP, chK_s, h1]
theorem r_ci (h : NdsOk nds) (hf : FOk nds) (c i : Nat) (d : Nd) (hn : nds[i]? = some d) : runF cf (c + 2) ("check_inputs", none) [.p (planP nds), .p (.int i)] [] = .ok (.p .non) [] := by
  rw [e_check_inputs]
  obtain ⟨hd, hin⟩ := h.ok i d hn
  have hq := eq_s d.w "source" hd.ws (by simp)
  have hidx := idx_t [] (ds := nds.map Nd.node) (i := i) (d := d.node) (by rw [List.getElem?_map, hn]; rfl)
  have hil := hd.il
  have hil2 : d.ins.length ≤ sizeLine := by have := sz; omega
  cases hw : (d.w == ("source" : Str)) with
  | true =>
    rw [hw] at hq
    have h0 := (hf.s0 i d hn hw).1
    simp (disch := first | assumption | omega | (simp [sz]; done) | (simp [sz]; omega) | fail) [b_check_inputs, s_check_inputs_1, planP, hidx, Nd.node, sG_cons, s_check_inputs_2, Nd.op, hq, s_check_inputs_5, h0, compS, s_check_inputs_6, x_tBool1, x_tBool2]
  | false =>
    rw [hw] at hq
    have h1 : runF cf (c + 1) ("sides_of", none) [.p (.tup (.str d.w :: d.more))] [] = .ok (.p (.int (d.ins.length : Int))) [] := hf.n0 i d hn hw c
    simp (disch := first | assumption | omega | (simp [sz]; done) | (simp [sz]; omega) | fail) [b_check_inputs, s_check_inputs_1, planP, hidx, Nd.node, sG_cons, s_check_inputs_2, Nd.op, hq, h1, s_check_inputs_5, hil2, c_ci hin, datsR_m, s_check_inputs_6, x_tBool1, x_tBool2]
def outW (nds : List Nd) (i : Nat) : List W := (nds.take i).map (W.p ∘ Nd.kind)
def StO (nds : List Nd) (i : Nat) : Store := [.lst (outW nds i)]
theorem out_get {i k : Nat} (hk : k < i) (hi : i ≤ nds.length) : (outW nds i)[k]? = some (.p (kindAt nds k)) := by
  have hk2 : k < nds.length := by omega
  unfold outW kindAt
  rw [List.getElem?_map, List.getElem?_take, if_pos hk, List.getElem?_eq_getElem hk2]
  rfl
theorem c_oo {d : Nd} {i : Nat} (hi : ∀ k ∈ d.ins, k < i) (hnl : i ≤ nds.length) (call : CallT) (ws : List W) (e0 e1 e3 e4 e5 e6 e7 : Option W) : compS ⟨ws, none⟩ (stepG (.one 5) tYes (c_output_of_4 call) [e0, e1, some (.o 0), e3, e4, e5, e6, e7]) (d.ins.map (W.p ∘ inP)) (StO nds i) = .ok (d.ins.map fun k => W.p (kindAt nds k)) (StO nds i) := by
  refine compS_mapN (f := W.p ∘ inP) (g := fun k => W.p (kindAt nds k)) d.ins (fun k hk => ?_)
  have h1 := idx_o (StO nds i) (id := 0) (ws := outW nds i) (i := k) rfl (out_get (hi k hk) hnl)
  simp [stepG, c_output_of_4, inP, h1]
@[simp] theorem len_O (i : Nat) : (StO nds i).length = 1 := id rfl
theorem below_k (n : Nat) : ∀ ds : List Nd, (ds.map (W.p ∘ Nd.kind)).all (W.below n) = true
  | [] => rfl
  | _ :: r => by rw [List.map_cons, List.all_cons, below_k n r]; rfl
@[simp] theorem trim_O (i : Nat) (d : P) : trim 1 (.p d) (StO nds i) = StO nds i := by
  have h : (W.below 1 (.p d) && ((StO nds i).take 1).all (Cell.below 1)) = true := by
    show (true && ((outW nds i).all (W.below 1) && true)) = true
    unfold outW
    rw [below_k]; rfl
  unfold trim
  rw [if_pos h]
  rfl
/-- no earlier source has this name -/
theorem src_loop (hf : FOk nds) (hok : NdsOk nds) (c i : Nat) (d : Nd) (hn : nds[i]? = some d) (hw : (d.w == ("source" : Str)) = true) (S : Store) : ∀ (js : List Nat), (∀ j ∈ js, j < i) → ∀ (ws : List W) (e1 e2 e4 e5 e6 e7 : Option W),
    ∃ e5' e6', forS ⟨ws, none⟩ (.one 5) (l_output_of_2 (runF cf c)) (js.map (W.p ∘ inP)) [some (.p (planP nds)), e1, e2, some (.p d.op), e4, e5, e6, e7] S = .nx [some (.p (planP nds)), e1, e2, some (.p d.op), e4, e5', e6', e7] S := by
  intro js
  induction js with
  | nil => exact fun _ ws e1 e2 e4 e5 e6 e7 => ⟨e5, e6, by simp [forS]⟩
  | cons j js ih =>
    intro hj ws e1 e2 e4 e5 e6 e7
    have hji := hj j List.mem_cons_self
    have hil : i < nds.length := (List.getElem?_eq_some_iff.mp hn).1
    obtain ⟨e, he⟩ : ∃ e, nds[j]? = some e := ⟨_, List.getElem?_eq_getElem (by omega)⟩
    obtain ⟨a5, a6, ha⟩ := ih (fun x hx => hj x (List.mem_cons_of_mem _ hx)) ws e1 e2 e4 (some (.p (inP j))) (some (.p e.op)) e7
    refine ⟨a5, a6, ?_⟩
    have hidx := idx_t S (ds := nds.map Nd.node) (i := j) (d := e.node) (by rw [List.getElem?_map, he]; rfl)
    have heo := (hok.ok j e he).1
    have hq := eq_s e.w "source" heo.ws (by simp)
    rw [List.map_cons, ← ha]
    cases hew : (e.w == ("source" : Str)) with
    | false =>
      rw [hew] at hq
      simp [forS, l_output_of_2, planP, inP, hidx, Nd.node, Nd.op, hq, x_tBool2]
    | true =>
      rw [hew] at hq
      have h1 := hf.s1 i d hn hw j e hji he hew
      have h2 := (hf.s0 i d hn hw)
      have h3 := (hf.s0 j e he hew)
      have hq2 := eq_s e.nm d.nm h3.2.2.2 h2.2.2.2
      rw [h1] at hq2
      simp [forS, l_output_of_2, planP, inP, hidx, Nd.node, Nd.op, hq, x_tBool2, h3.2.1, h2.2.1, hq2]
theorem rng_i (n : Nat) : rangeP 0 n = (List.range n).map (W.p ∘ inP) := by
  unfold rangeP
  congr 1
  funext i
  show W.p (.int (0 + (i : Int))) = W.p (.int (i : Int))
  rw [Int.zero_add]
theorem r_oo (h : NdsOk nds) (hf : FOk nds) (c i : Nat) (d : Nd) (hn : nds[i]? = some d) : runF cf (c + 16) ("output_of", none) [.p (planP nds), .p (.int i), .o 0] (StO nds i) = .ok (.p d.kind) (StO nds i) := by
  rw [e_output_of]
  obtain ⟨hd, hin⟩ := h.ok i d hn
  have hil : i < nds.length := (List.getElem?_eq_some_iff.mp hn).1
  have h10 := h.len
  have hq := eq_s d.w "source" hd.ws (by simp)
  have hidx := idx_t (StO nds i) (ds := nds.map Nd.node) (i := i) (d := d.node) (by rw [List.getElem?_map, hn]; rfl)
  have hil2 : d.ins.length ≤ sizeLine := by have := sz; have := hd.il; omega
  cases hw : (d.w == ("source" : Str)) with
  | true =>
    rw [hw] at hq
    have h0 := hf.s0 i d hn hw
    obtain ⟨a5, a6, ha⟩ := src_loop hf h (c + 15) i d hn hw (StO nds i) (List.range i) (fun j hj => List.mem_range.mp hj) ((List.range i).map (W.p ∘ inP)) (some (.p (.int (i : Int)))) (some (.o 0)) (some (.p (.tup (d.ins.map inP)))) none none none
    have hr : (i : Int) < 4611686018427387904 := by omega
    rw [planP] at ha
    rw [Nd.op] at ha
    simp (disch := first | assumption | omega | (simp [sz]; done) | (simp [sz]; omega) | fail) [b_output_of, s_output_of_1, planP, hidx, Nd.node, sG_cons, s_output_of_3, Nd.op, hq, x_sRng1, rng_i, hr, ha]
    simp (disch := first | assumption | omega | (simp [sz]; done) | (simp [sz]; omega) | fail) [h0.2.1, h0.2.2.1, Nd.kind, sz]
  | false =>
    rw [hw] at hq
    have h1 : runF cf (c + 15) ("check_operator", none) [.p (.tup (.str d.w :: d.more)), .p (.lst (d.ins.map (kindAt nds)))] [] = .ok (.p d.kind) [] := hf.n1 i d hn hw c
    simp (disch := first | assumption | omega | (simp [sz]; done) | (simp [sz]; omega) | fail) [b_output_of, s_output_of_1, planP, hidx, Nd.node, sG_cons, s_output_of_3, Nd.op, hq, s_output_of_5, hil2, c_oo hin (Nat.le_of_lt hil), datsR_m, h1]
theorem outW_succ {i : Nat} {d : Nd} (hn : nds[i]? = some d) : outW nds (i + 1) = outW nds i ++ [.p d.kind] := by
  unfold outW
  obtain ⟨hi, he⟩ := List.getElem?_eq_some_iff.mp hn
  rw [List.take_succ, hn]
  simp
theorem app_O {i : Nat} {d : Nd} (hn : nds[i]? = some d) (h : nds.length ≤ 8) : appW (StO nds i) 0 (.p d.kind) = .ok (.p .non) (StO nds (i + 1)) := by
  have hl : (outW nds i).length < sizeLine := by
    unfold outW
    rw [List.length_map, List.length_take]
    have := sz
    omega
  show (if (outW nds i).length < sizeLine then Res.ok (W.p .non) [Cell.lst (outW nds i ++ [W.p d.kind])] else .bad) = _
  rw [if_pos hl, StO, outW_succ hn]
theorem fo_loop (h : NdsOk nds) (hf : FOk nds) (c : Nat) (ws : List W) : ∀ (k i : Nat) (e2 : Option W), i + k = nds.length → ∃ e2', forS ⟨ws, none⟩ (.one 2) (l_fields_of_4 (runF cf (c + 16))) ((List.range' i k).map (W.p ∘ inP)) [some (.p (planP nds)), some (.o 0), e2] (StO nds i) = .nx [some (.p (planP nds)), some (.o 0), e2'] (StO nds nds.length)
  | 0, i, e2, hk => ⟨e2, by
    have : i = nds.length := by omega
    subst this
    simp [forS]⟩
  | k + 1, i, e2, hk => by
    have hi : i < nds.length := by omega
    obtain ⟨d, hd⟩ : ∃ d, nds[i]? = some d := ⟨_, List.getElem?_eq_getElem hi⟩
    obtain ⟨e2', he⟩ := fo_loop h hf c ws k (i + 1) (some (.p (inP i))) (by omega)
    refine ⟨e2', ?_⟩
    have h1 := r_ci h hf (c + 14) i d hd
    have h2 := r_oo h hf c i d hd
    have h3 := app_O hd h.len
    have h4 : lstAt (StO nds i) 0 = true := rfl
    rw [List.range'_succ, List.map_cons, ← he]
    simp [forS, l_fields_of_4, inP, h1, x_rApp, h4, x_rCall, x_callT, h2, h3]
theorem frzL_k (n : Nat) (S : Store) : ∀ ds : List P, frzL (frz n) (ds.map W.p) S = some (ds, S)
  | [] => rfl
  | l :: r => by
    have h1 : frz n (W.p l) S = some (l, S) := by cases n <;> rfl
    show (match frz n (W.p l) S with
      | some (d, S1) => match frzL (frz n) (r.map W.p) S1 with
        | some (ds, S2) => some (d :: ds, S2)
        | none => none
      | none => none) = _
    rw [h1]
    simp only
    rw [frzL_k n S r]
/-- a list that is data, frozen -/
theorem frz_o {S : Store} {id : Nat} {ds : List P} (hc : S[id]? = some (.lst (ds.map W.p))) : frzR (.ok (.o id) S) = .ok (.lst ds) (S.set id (.fz (.lst ds))) := by
  have h1 : frz 4 (.o id) S = some (.lst ds, S.set id (.fz (.lst ds))) := by
    unfold frz
    rw [hc]
    simp only
    rw [frzL_k]
    exact if_pos hc
  show (match frz 4 (.o id) S with
    | some (d, S1) => Res.ok d S1
    | none => .bad) = _
  rw [h1]
theorem r_fields (h : NdsOk nds) (hf : FOk nds) (h0 : 0 < nds.length) : KindsOk nds := by
  intro c
  rw [show c + 20 = (c + 19) + 1 from rfl, e_fields_of]
  have h10 := h.len
  have hl : nds.length ≤ sizeLine := by have := sz; omega
  obtain ⟨e2', he⟩ := fo_loop h hf (c + 3) ((List.range nds.length).map (W.p ∘ inP)) nds.length 0 none (by omega)
  rw [← List.range_eq_range'] at he
  have hs0 : StO nds 0 = [.lst []] := by unfold StO outW; simp
  rw [hs0] at he
  have hr : (nds.length : Int) < 4611686018427387904 := by omega
  have hn0 : ¬ nds = [] := by rintro rfl; simp at h0
  have hfz := frz_o (S := StO nds nds.length) (id := 0) (ds := nds.map Nd.kind) (by
    show some (Cell.lst (outW nds nds.length)) = _
    unfold outW
    rw [List.take_length, List.map_map])
  rw [planP] at he
  have h16 : ¬ (16 : Int) < (nds.length : Int) := by omega
  simp (disch := first | assumption | omega | (simp [sz]; done) | (simp [sz]; omega) | fail) [b_fields_of, s_fields_of_1, planP, hn0, s_fields_of_2, h16, s_fields_of_3, s_fields_of_5, x_sRng1, hr, rng_i, he, s_fields_of_6, hfz]

end
end T
end
section
set_option Elab.async false
set_option linter.all false
set_option maxRecDepth 1000000
set_option autoImplicit false
set_option maxHeartbeats 1000000
namespace T
open PySem PySem.Spec PyProof.Rows L2 Mp
/-! ### the nodes that the law makes -/
def F0 : List (Str × Str) := [("user", "text"), ("price", "whole")]
def F1 : List (Str × Str) := [("name", "text"), ("size", "whole")]
def priceP : P := .tup [.str "column", .str "price"]
def userP : P := .tup [.str "column", .str "user"]
def nSrc : Nd := ⟨"source", [.str "s", .tup (F0.map fld)], [], " s (user text, price whole)", "s", F0, "events"⟩
def nSrcT : Nd := ⟨"source", [.str "t", .tup (F1.map fld)], [], " t (name text, size whole)", "t", F1, "events"⟩
def nFil (i : Nat) (k : Str) : Nd := ⟨"filter", [.tup [.str "binary", .str "<", .tup [.str "value", .int 0], priceP]], [i], " where 0 < price", "", F0, k⟩
def nMap (i : Nat) (k : Str) : Nd := ⟨"map", [.tup [.tup [.str "user", userP], .tup [.str "price", .tup [.str "binary", .str "+", priceP, .tup [.str "value", .int 1]]]]], [i], " to user = user, price = price + 1", "", F0, k⟩
def nDis (i : Nat) : Nd := ⟨"distinct", [], [i], "", "", F0, "table"⟩
def nFst (i : Nat) (s : Int) : Nd := ⟨"first", [.tup [.str "user"], .int s], [i], " by user ttl " ++ iS s, "", F0, "events"⟩
def nUni (i j : Nat) (k : Str) : Nd := ⟨"union", [], [i, j], "", "", F0, k⟩
theorem wn_of {x : Str} (h1 : x.length ≤ 20) (h2 : ∀ c, runF cf (c + 1) ("write_name", none) [.p (.str x)] [] = .ok (.p (.str x)) []) : wn x := ⟨h1, h2⟩
theorem wn_user : wn "user" := ⟨by decide +kernel, fun c => by kernel_rfl⟩
theorem wn_price : wn "price" := ⟨by decide +kernel, fun c => by kernel_rfl⟩
theorem wn_name : wn "name" := ⟨by decide +kernel, fun c => by kernel_rfl⟩
theorem wn_size : wn "size" := ⟨by decide +kernel, fun c => by kernel_rfl⟩
theorem wn_s : wn "s" := ⟨by decide +kernel, fun c => by kernel_rfl⟩
theorem wn_t : wn "t" := ⟨by decide +kernel, fun c => by kernel_rfl⟩
def KE (k : Str) : Prop := k = "events" ∨ k = "table"
theorem fs0 : ∀ p ∈ F0, wn p.1 ∧ p.2.length ≤ 20 := by
  intro p hp
  simp only [F0, List.mem_cons, List.not_mem_nil, or_false] at hp
  rcases hp with rfl | rfl
  · exact ⟨wn_user, by decide +kernel⟩
  · exact ⟨wn_price, by decide +kernel⟩
theorem fs1 : ∀ p ∈ F1, wn p.1 ∧ p.2.length ≤ 20 := by
  intro p hp
  simp only [F1, List.mem_cons, List.not_mem_nil, or_false] at hp
  rcases hp with rfl | rfl
  · exact ⟨wn_name, by decide +kernel⟩
  · exact ⟨wn_size, by decide +kernel⟩
theorem ke_len {k : Str} (h : KE k) : k.length ≤ 20 ∧ PyData.strOk k = true := by
  rcases h with rfl | rfl <;> exact ⟨by decide +kernel, by decide +kernel⟩
theorem so_F0 : ∀ p ∈ F0, PyData.strOk p.1 = true ∧ PyData.strOk p.2 = true := by decide +kernel
theorem so_F1 : ∀ p ∈ F1, PyData.strOk p.1 = true ∧ PyData.strOk p.2 = true := by decide +kernel
theorem ok_src : nSrc.Ok where
  wl := by decide +kernel
  ws := by decide +kernel
  rl := by decide +kernel
  nlw := by decide +kernel
  nlr := by decide +kernel
  rest := fun c => by kernel_rfl
  fl := by decide
  fn := fs0
  kl := by decide +kernel
  il := by decide
  so := ⟨by decide +kernel, by decide +kernel, so_F0, by decide +kernel⟩
  src := fun _ => ⟨⟨_, rfl⟩, wn_s⟩
theorem ok_srcT : nSrcT.Ok where
  wl := by decide +kernel
  ws := by decide +kernel
  rl := by decide +kernel
  nlw := by decide +kernel
  nlr := by decide +kernel
  rest := fun c => by kernel_rfl
  fl := by decide
  fn := fs1
  kl := by decide +kernel
  il := by decide
  so := ⟨by decide +kernel, by decide +kernel, so_F1, by decide +kernel⟩
  src := fun _ => ⟨⟨_, rfl⟩, wn_t⟩
theorem ns {w : Str} (h : (w == ("source" : Str)) = false) {Q : Prop} : (w == ("source" : Str)) = true → Q := fun z => by rw [h] at z; cases z
def chkW (w rest : Str) : Bool := decide (w.length ≤ 20) && (PyData.strOk w && (decide (rest.length ≤ 400) && (decide (10 ∉ tlS w) && (decide (10 ∉ tlS rest) && (PyData.strOk rest && !(w == ("source" : Str)))))))
theorem mkOk {w rest kd : Str} {more : List P} {ins : List Nat} {fs : List (Str × Str)} (h : chkW w rest = true) (hi : ins.length ≤ 2) (hf : fs.length ≤ 10) (hn : ∀ p ∈ fs, wn p.1 ∧ p.2.length ≤ 20) (hs : ∀ p ∈ fs, PyData.strOk p.1 = true ∧ PyData.strOk p.2 = true) (hk : kd.length ≤ 20 ∧ PyData.strOk kd = true)
    (hr : ∀ c, runF cf (c + 10) ("write_rest", none) [.p (.tup (.str w :: more))] [] = .ok (.p (.str rest)) []) : Nd.Ok ⟨w, more, ins, rest, "", fs, kd⟩ := by
  unfold chkW at h
  simp only [Bool.and_eq_true, decide_eq_true_eq, Bool.not_eq_true'] at h
  obtain ⟨h1, h2, h3, h4, h5, h6, h7⟩ := h
  exact ⟨h1, h2, h3, h4, h5, hr, hf, hn, hk.1, hi, ⟨h6, hk.2, hs, show PyData.strOk ("" : Str) = true by decide +kernel⟩, ns h7⟩
theorem ok_fil (i : Nat) {k : Str} (h : KE k) : (nFil i k).Ok := mkOk (w := "filter") (rest := " where 0 < price") (by decide +kernel) (by simp) (by decide) fs0 so_F0 (ke_len h) fun c => by kernel_rfl
theorem ok_map (i : Nat) {k : Str} (h : KE k) : (nMap i k).Ok := mkOk (w := "map") (rest := " to user = user, price = price + 1") (by decide +kernel) (by simp) (by decide) fs0 so_F0 (ke_len h) fun c => by kernel_rfl
theorem ok_dis (i : Nat) : (nDis i).Ok := mkOk (w := "distinct") (rest := "") (by decide +kernel) (by simp) (by decide) fs0 so_F0 (ke_len (.inr rfl)) fun c => by kernel_rfl
theorem ok_uni (i j : Nat) {k : Str} (h : KE k) : (nUni i j k).Ok := mkOk (w := "union") (rest := "") (by decide +kernel) (by simp) (by decide) fs0 so_F0 (ke_len h) fun c => by kernel_rfl
def S5 (s : Int) : Prop := s = 1 ∨ s = 2 ∨ s = 3 ∨ s = 4 ∨ s = 5
theorem ok_fst (i : Nat) {s : Int} (h : S5 s) : (nFst i s).Ok := mkOk (w := "first") (rest := " by user ttl " ++ iS s) (by rcases h with rfl | rfl | rfl | rfl | rfl <;> decide +kernel) (by simp) (by decide) fs0 so_F0 (ke_len (.inl rfl)) fun c => by rcases h with rfl | rfl | rfl | rfl | rfl <;> kernel_rfl
/-! what the checks answer -/
def kP (fs : List (Str × Str)) (k : Str) : P := .tup [.tup (fs.map fld), .str k]
theorem ch_fil (i : Nat) {k : Str} (h : KE k) (c : Nat) : runF cf (c + 15) ("check_operator", none) [.p (nFil i k).op, .p (.lst [kP F0 k])] [] = .ok (.p (nFil i k).kind) [] := by rcases h with rfl | rfl <;> kernel_rfl
theorem ch_map (i : Nat) {k : Str} (h : KE k) (c : Nat) : runF cf (c + 15) ("check_operator", none) [.p (nMap i k).op, .p (.lst [kP F0 k])] [] = .ok (.p (nMap i k).kind) [] := by rcases h with rfl | rfl <;> kernel_rfl
theorem ch_dis (i : Nat) {k : Str} (h : KE k) (c : Nat) : runF cf (c + 15) ("check_operator", none) [.p (nDis i).op, .p (.lst [kP F0 k])] [] = .ok (.p (nDis i).kind) [] := by rcases h with rfl | rfl <;> kernel_rfl
theorem ch_fst (i : Nat) (s : Int) (c : Nat) : runF cf (c + 15) ("check_operator", none) [.p (nFst i s).op, .p (.lst [kP F0 "events"])] [] = .ok (.p (nFst i s).kind) [] := by kernel_rfl
theorem ch_uni (i j : Nat) {k : Str} (h : KE k) (c : Nat) : runF cf (c + 15) ("check_operator", none) [.p (nUni i j k).op, .p (.lst [kP F0 k, kP F0 k])] [] = .ok (.p (nUni i j k).kind) [] := by rcases h with rfl | rfl <;> kernel_rfl
theorem si_fil (i : Nat) (k : Str) (c : Nat) : runF cf (c + 1) ("sides_of", none) [.p (nFil i k).op] [] = .ok (.p (.int 1)) [] := by kernel_rfl
theorem si_map (i : Nat) (k : Str) (c : Nat) : runF cf (c + 1) ("sides_of", none) [.p (nMap i k).op] [] = .ok (.p (.int 1)) [] := by kernel_rfl
theorem si_dis (i : Nat) (c : Nat) : runF cf (c + 1) ("sides_of", none) [.p (nDis i).op] [] = .ok (.p (.int 1)) [] := by kernel_rfl
theorem si_fst (i : Nat) (s : Int) (c : Nat) : runF cf (c + 1) ("sides_of", none) [.p (nFst i s).op] [] = .ok (.p (.int 1)) [] := by kernel_rfl
theorem si_uni (i j : Nat) (k : Str) (c : Nat) : runF cf (c + 1) ("sides_of", none) [.p (nUni i j k).op] [] = .ok (.p (.int 2)) [] := by kernel_rfl
end T
end
section
set_option Elab.async false
set_option linter.all false
set_option maxRecDepth 1000000
set_option autoImplicit false
set_option maxHeartbeats 1000000
namespace T
open PySem PySem.Spec PyProof.Rows L2 Mp
/-! ### the last nodes -/
inductive Q3 where
  | a | b | c
inductive B2 where
  | a | b
def keysL : Q3 → List (Str × Str)
  | .a => [("user", "text")]
  | .b => []
  | .c => [("price", "whole"), ("user", "text")]
def keysP (q : Q3) : P := .tup ((keysL q).map fun p => .str p.1)
def byS : Q3 → Str
  | .a => " by user"
  | .b => ""
  | .c => " by price, user"
def winP (s : Int) : Q3 → P
  | .a => .tup [.str "tumble", .int s]
  | .b => .tup [.str "hop", .int (s + 2), .int 2]
  | .c => .tup [.str "session", .int s]
def winS (s : Int) : Q3 → Str
  | .a => " tumble " ++ iS s
  | .b => " hop " ++ iS (s + 2) ++ " slide 2"
  | .c => " session " ++ iS s
def agg (n w : Str) (c : P) : P := .tup [.str n, .str w, c]
def W4 : List (Str × Str) := [("start", "whole"), ("end", "whole"), ("n", "whole"), ("f", "whole")]
def nWin (i : Nat) (q z : Q3) (s : Int) : Nd := ⟨"window", [keysP q, winP s z, .tup [agg "n" "count" .non, agg "f" "last" (.str "price")]], [i], byS q ++ winS s z ++ " with n = count, f = last(price)", "", keysL q ++ W4, "events"⟩
def nGr1 (i : Nat) : Nd := ⟨"group", [.tup [.str "n"], .tup [agg "c" "count" .non]], [i], " by n with c = count", "", [("n", "whole"), ("c", "whole")], "table"⟩
def G2 : List (Str × Str) := [("n", "whole"), ("m", "whole")]
def nGrp (i : Nat) (q : Q3) : Nd := ⟨"group", [keysP q, .tup [agg "n" "count" .non, agg "m" "most" (.str "price")]], [i], byS q ++ " with n = count, m = most(price)", "", keysL q ++ G2, "table"⟩
def nTop (i : Nat) (q : Q3) (s : Int) : Nd := ⟨"top", [keysP q, .tup [.tup [.str "price", .str "down"]], .int s], [i], byS q ++ " order price down first " ++ iS s, "", F0, "table"⟩
def onL : B2 → List (Str × Str)
  | .a => [("user", "name")]
  | .b => [("price", "size"), ("user", "name")]
def onP (o : B2) : P := .tup ((onL o).map fld)
def onS : B2 → Str
  | .a => " on user = name"
  | .b => " on price = size, user = name"
def keepL : B2 → Str
  | .a => "inner"
  | .b => "left"
def nMpT (i : Nat) : Nd := ⟨"map", [.tup [.tup [.str "user", .tup [.str "column", .str "name"]], .tup [.str "price", .tup [.str "column", .str "size"]]]], [i], " to user = name, price = size", "", F0, "events"⟩
def nJoi (i j : Nat) (o : B2) : Nd := ⟨"join", [onP o], [i, j], onS o, "", F0 ++ F1, "table"⟩
def nAso (i j : Nat) (o w : B2) : Nd := ⟨"asof", [onP o, .str (keepL w)], [i, j], onS o ++ " keep " ++ keepL w, "", F0 ++ F1, "events"⟩
def nNea (i j : Nat) (o w : B2) (l h : Int) : Nd := ⟨"near", [onP o, .int l, .int h, .str (keepL w)], [i, j], onS o ++ " from " ++ iS l ++ " to " ++ iS h ++ " keep " ++ keepL w, "", F0 ++ F1, "events"⟩
theorem wn_n : wn "n" := ⟨by decide +kernel, fun c => by kernel_rfl⟩
theorem wn_m : wn "m" := ⟨by decide +kernel, fun c => by kernel_rfl⟩
theorem wn_f : wn "f" := ⟨by decide +kernel, fun c => by kernel_rfl⟩
theorem wn_c : wn "c" := ⟨by decide +kernel, fun c => by kernel_rfl⟩
theorem wn_st : wn "start" := ⟨by decide +kernel, fun c => by kernel_rfl⟩
theorem wn_en : wn "end" := ⟨by decide +kernel, fun c => by kernel_rfl⟩
def nmsOk (fs : List (Str × Str)) : Bool := fs.all fun p => ([("user" : Str), "price", "name", "size", "n", "m", "f", "c", "start", "end"].contains p.1) && ([("text" : Str), "whole"].contains p.2)
theorem wn_all {x : Str} (h : [("user" : Str), "price", "name", "size", "n", "m", "f", "c", "start", "end"].contains x = true) : wn x ∧ PyData.strOk x = true := by
  rw [List.contains_iff_mem] at h
  simp only [List.mem_cons, List.not_mem_nil, or_false] at h
  rcases h with rfl | rfl | rfl | rfl | rfl | rfl | rfl | rfl | rfl | rfl
  · exact ⟨wn_user, by decide +kernel⟩
  · exact ⟨wn_price, by decide +kernel⟩
  · exact ⟨wn_name, by decide +kernel⟩
  · exact ⟨wn_size, by decide +kernel⟩
  · exact ⟨wn_n, by decide +kernel⟩
  · exact ⟨wn_m, by decide +kernel⟩
  · exact ⟨wn_f, by decide +kernel⟩
  · exact ⟨wn_c, by decide +kernel⟩
  · exact ⟨wn_st, by decide +kernel⟩
  · exact ⟨wn_en, by decide +kernel⟩
theorem ty_all {x : Str} (h : [("text" : Str), "whole"].contains x = true) : x.length ≤ 20 ∧ PyData.strOk x = true := by
  rw [List.contains_iff_mem] at h
  simp only [List.mem_cons, List.not_mem_nil, or_false] at h
  rcases h with rfl | rfl <;> exact ⟨by decide +kernel, by decide +kernel⟩
theorem nms {fs : List (Str × Str)} (h : nmsOk fs = true) : (∀ p ∈ fs, wn p.1 ∧ p.2.length ≤ 20) ∧ ∀ p ∈ fs, PyData.strOk p.1 = true ∧ PyData.strOk p.2 = true := by
  have h2 := List.all_eq_true.mp h
  refine ⟨fun p hp => ?_, fun p hp => ?_⟩
  · have := h2 p hp
    rw [Bool.and_eq_true] at this
    exact ⟨(wn_all this.1).1, (ty_all this.2).1⟩
  · have := h2 p hp
    rw [Bool.and_eq_true] at this
    exact ⟨(wn_all this.1).2, (ty_all this.2).2⟩
theorem mkOk2 {w rest kd : Str} {more : List P} {ins : List Nat} {fs : List (Str × Str)} (h : chkW w rest = true) (hi : ins.length ≤ 2) (hf : (decide (fs.length ≤ 10) && nmsOk fs) = true) (hk : kd.length ≤ 20 ∧ PyData.strOk kd = true)
    (hr : ∀ c, runF cf (c + 10) ("write_rest", none) [.p (.tup (.str w :: more))] [] = .ok (.p (.str rest)) []) : Nd.Ok ⟨w, more, ins, rest, "", fs, kd⟩ := by
  rw [Bool.and_eq_true, decide_eq_true_eq] at hf
  obtain ⟨h1, h2⟩ := nms hf.2
  exact mkOk h hi hf.1 h1 h2 hk hr
theorem ke_e : ("events" : Str).length ≤ 20 ∧ PyData.strOk ("events" : Str) = true := ke_len (.inl rfl)
theorem ke_t : ("table" : Str).length ≤ 20 ∧ PyData.strOk ("table" : Str) = true := ke_len (.inr rfl)
theorem ok_win (i : Nat) (q z : Q3) {s : Int} (h : S5 s) : (nWin i q z s).Ok := mkOk2 (w := "window") (rest := byS q ++ winS s z ++ " with n = count, f = last(price)") (by rcases h with rfl | rfl | rfl | rfl | rfl <;> cases q <;> cases z <;> decide +kernel) (by simp) (by cases q <;> decide +kernel) ke_e fun c => by rcases h with rfl | rfl | rfl | rfl | rfl <;> cases q <;> cases z <;> kernel_rfl
theorem ok_gr1 (i : Nat) : (nGr1 i).Ok := mkOk2 (w := "group") (rest := " by n with c = count") (by decide +kernel) (by simp) (by decide +kernel) ke_t fun c => by kernel_rfl
theorem ok_grp (i : Nat) (q : Q3) : (nGrp i q).Ok := mkOk2 (w := "group") (rest := byS q ++ " with n = count, m = most(price)") (by cases q <;> decide +kernel) (by simp) (by cases q <;> decide +kernel) ke_t fun c => by cases q <;> kernel_rfl
theorem ok_top (i : Nat) (q : Q3) {s : Int} (h : S5 s) : (nTop i q s).Ok := mkOk2 (w := "top") (rest := byS q ++ " order price down first " ++ iS s) (by rcases h with rfl | rfl | rfl | rfl | rfl <;> cases q <;> decide +kernel) (by simp) (by decide +kernel) ke_t fun c => by rcases h with rfl | rfl | rfl | rfl | rfl <;> cases q <;> kernel_rfl
theorem ok_mpT (i : Nat) : (nMpT i).Ok := mkOk2 (w := "map") (rest := " to user = name, price = size") (by decide +kernel) (by simp) (by decide +kernel) ke_e fun c => by kernel_rfl
theorem ok_joi (i j : Nat) (o : B2) : (nJoi i j o).Ok := mkOk2 (w := "join") (rest := onS o) (by cases o <;> decide +kernel) (by simp) (by decide +kernel) ke_t fun c => by cases o <;> kernel_rfl
theorem ok_aso (i j : Nat) (o w : B2) : (nAso i j o w).Ok := mkOk2 (w := "asof") (rest := onS o ++ " keep " ++ keepL w) (by cases o <;> cases w <;> decide +kernel) (by simp) (by decide +kernel) ke_e fun c => by cases o <;> cases w <;> kernel_rfl
/-! what the checks answer -/
theorem ch_win (i : Nat) (q z : Q3) (s : Int) (c : Nat) : runF cf (c + 15) ("check_operator", none) [.p (nWin i q z s).op, .p (.lst [kP F0 "events"])] [] = .ok (.p (nWin i q z s).kind) [] := by cases q <;> cases z <;> kernel_rfl
theorem ch_gr1 (i j : Nat) (q z : Q3) (s : Int) (c : Nat) : runF cf (c + 15) ("check_operator", none) [.p (nGr1 i).op, .p (.lst [(nWin j q z s).kind])] [] = .ok (.p (nGr1 i).kind) [] := by cases q <;> kernel_rfl
theorem ch_grp (i : Nat) (q : Q3) {k : Str} (h : KE k) (c : Nat) : runF cf (c + 15) ("check_operator", none) [.p (nGrp i q).op, .p (.lst [kP F0 k])] [] = .ok (.p (nGrp i q).kind) [] := by rcases h with rfl | rfl <;> cases q <;> kernel_rfl
theorem ch_top (i : Nat) (q : Q3) (s : Int) {k : Str} (h : KE k) (c : Nat) : runF cf (c + 15) ("check_operator", none) [.p (nTop i q s).op, .p (.lst [kP F0 k])] [] = .ok (.p (nTop i q s).kind) [] := by rcases h with rfl | rfl <;> cases q <;> kernel_rfl
theorem ch_mpT (i : Nat) (c : Nat) : runF cf (c + 15) ("check_operator", none) [.p (nMpT i).op, .p (.lst [kP F1 "events"])] [] = .ok (.p (nMpT i).kind) [] := by kernel_rfl
theorem ch_un2 (i j : Nat) {k : Str} (h : KE k) (c : Nat) : runF cf (c + 15) ("check_operator", none) [.p (nUni i j k).op, .p (.lst [kP F0 k, kP F0 "events"])] [] = .ok (.p (nUni i j k).kind) [] := by rcases h with rfl | rfl <;> kernel_rfl
theorem ch_joi (i j : Nat) (o : B2) {k : Str} (h : KE k) (c : Nat) : runF cf (c + 15) ("check_operator", none) [.p (nJoi i j o).op, .p (.lst [kP F0 k, kP F1 "events"])] [] = .ok (.p (nJoi i j o).kind) [] := by rcases h with rfl | rfl <;> cases o <;> kernel_rfl
theorem ch_aso (i j : Nat) (o w : B2) (c : Nat) : runF cf (c + 15) ("check_operator", none) [.p (nAso i j o w).op, .p (.lst [kP F0 "events", kP F1 "events"])] [] = .ok (.p (nAso i j o w).kind) [] := by cases o <;> cases w <;> kernel_rfl
theorem ch_nea (i j : Nat) (o w : B2) (l h : Int) (c : Nat) : runF cf (c + 15) ("check_operator", none) [.p (nNea i j o w l h).op, .p (.lst [kP F0 "events", kP F1 "events"])] [] = .ok (.p (nNea i j o w l h).kind) [] := by cases o <;> cases w <;> kernel_rfl
end T
end
section
set_option Elab.async false
set_option linter.all false
set_option maxRecDepth 1000000
set_option autoImplicit false
set_option maxHeartbeats 1000000
namespace T
open PySem PySem.Spec PyProof.Rows L2 Mp
def L7 (l : Int) : Prop := l = -4 ∨ l = -3 ∨ l = -2 ∨ l = -1 ∨ l = 0 ∨ l = 1 ∨ l = 2
def D5 (s : Int) : Prop := s = 0 ∨ s = 1 ∨ s = 2 ∨ s = 3 ∨ s = 4
theorem ok_nea (i j : Nat) (o w : B2) {l d : Int} (h1 : L7 l) (h2 : D5 d) : (nNea i j o w l (l + d)).Ok := mkOk2 (w := "near") (rest := onS o ++ " from " ++ iS l ++ " to " ++ iS (l + d) ++ " keep " ++ keepL w)
  (by rcases h1 with rfl | rfl | rfl | rfl | rfl | rfl | rfl <;> rcases h2 with rfl | rfl | rfl | rfl | rfl <;> cases o <;> cases w <;> decide +kernel) (by simp) (by decide +kernel) ke_e
  fun c => by rcases h1 with rfl | rfl | rfl | rfl | rfl | rfl | rfl <;> rcases h2 with rfl | rfl | rfl | rfl | rfl <;> cases o <;> cases w <;> kernel_rfl
end T
end
section
set_option Elab.async false
set_option linter.all false
set_option maxRecDepth 1000000
set_option autoImplicit false
set_option maxHeartbeats 1000000
namespace T
open PySem PySem.Spec PyProof.Rows L2 Mp
/-! ### a plan grows -/
structure Ivr (nds : List Nd) : Prop where
  ok : ∀ (i : Nat) (d : Nd), nds[i]? = some d → d.Ok ∧ ∀ k ∈ d.ins, k < i
  fo : FOk nds
section
variable {nds : List Nd} {d : Nd}
theorem snoc_get {i : Nat} {e : Nd} (h : (nds ++ [d])[i]? = some e) : nds[i]? = some e ∨ (i = nds.length ∧ e = d) := by
  rcases Nat.lt_or_ge i nds.length with hi | hi
  · rw [List.getElem?_append_left hi] at h; exact .inl h
  · rw [List.getElem?_append_right hi] at h
    obtain ⟨h2, e2⟩ := List.getElem?_eq_some_iff.mp h
    have : i = nds.length := by simp at h2; omega
    subst this
    exact .inr ⟨rfl, by simpa using e2.symm⟩
theorem kindAt_old {k : Nat} (h : k < nds.length) : kindAt (nds ++ [d]) k = kindAt nds k := by
  unfold kindAt
  rw [List.getElem?_append_left h]
theorem kindAt_new : kindAt (nds ++ [d]) nds.length = d.kind := by
  unfold kindAt
  rw [List.getElem?_concat_length]
  rfl
theorem kinds_old {ks : List Nat} (h : ∀ k ∈ ks, k < nds.length) : ks.map (kindAt (nds ++ [d])) = ks.map (kindAt nds) := List.map_congr_left fun k hk => kindAt_old (h k hk)
theorem Ivr.push (h : Ivr nds) (hd : d.Ok) (hi : ∀ k ∈ d.ins, k < nds.length) (hw : (d.w == ("source" : Str)) = false) (hs : ∀ c, runF cf (c + 1) ("sides_of", none) [.p d.op] [] = .ok (.p (.int (d.ins.length : Int))) [])
    (hc : ∀ c, runF cf (c + 15) ("check_operator", none) [.p d.op, .p (.lst (d.ins.map (kindAt nds)))] [] = .ok (.p d.kind) []) : Ivr (nds ++ [d]) where
  ok i e he := by
    rcases snoc_get he with he | ⟨rfl, rfl⟩
    · exact h.ok i e he
    · exact ⟨hd, hi⟩
  fo := {
    s0 := fun i e he hw' => by
      rcases snoc_get he with he | ⟨rfl, rfl⟩
      · exact h.fo.s0 i e he hw'
      · rw [hw] at hw'; cases hw'
    s1 := fun i e he hw' j e2 hj he2 hw2 => by
      rcases snoc_get he with he | ⟨rfl, rfl⟩
      · have hil : i < nds.length := (List.getElem?_eq_some_iff.mp he).1
        rcases snoc_get he2 with he2 | ⟨rfl, rfl⟩
        · exact h.fo.s1 i e he hw' j e2 hj he2 hw2
        · omega
      · rw [hw] at hw'; cases hw'
    n0 := fun i e he hw' => by
      rcases snoc_get he with he | ⟨rfl, rfl⟩
      · exact h.fo.n0 i e he hw'
      · exact hs
    n1 := fun i e he hw' c => by
      rcases snoc_get he with he | ⟨rfl, rfl⟩
      · have hil : i < nds.length := (List.getElem?_eq_some_iff.mp he).1
        rw [kinds_old fun k hk => by have := (h.ok i e he).2 k hk; omega]
        exact h.fo.n1 i e he hw' c
      · rw [kinds_old hi]
        exact hc c }
theorem Ivr.pushS (h : Ivr nds) (hd : d.Ok) (hi : d.ins = []) (hw : (d.w == ("source" : Str)) = true) (hs : d.more = [.str d.nm, .tup (d.fs.map fld)] ∧ d.kd = "events" ∧ PyData.strOk d.nm = true)
    (hn : ∀ (j : Nat) (e : Nd), nds[j]? = some e → (e.w == ("source" : Str)) = true → (e.nm == d.nm) = false) : Ivr (nds ++ [d]) where
  ok i e he := by
    rcases snoc_get he with he | ⟨rfl, rfl⟩
    · exact h.ok i e he
    · exact ⟨hd, fun k hk => by rw [hi] at hk; cases hk⟩
  fo := {
    s0 := fun i e he hw' => by
      rcases snoc_get he with he | ⟨rfl, rfl⟩
      · exact h.fo.s0 i e he hw'
      · exact ⟨hi, hs⟩
    s1 := fun i e he hw' j e2 hj he2 hw2 => by
      rcases snoc_get he with he | ⟨rfl, rfl⟩
      · have hil : i < nds.length := (List.getElem?_eq_some_iff.mp he).1
        rcases snoc_get he2 with he2 | ⟨rfl, rfl⟩
        · exact h.fo.s1 i e he hw' j e2 hj he2 hw2
        · omega
      · rcases snoc_get he2 with he2 | ⟨rfl, rfl⟩
        · exact hn j e2 he2 hw2
        · omega
    n0 := fun i e he hw' => by
      rcases snoc_get he with he | ⟨rfl, rfl⟩
      · exact h.fo.n0 i e he hw'
      · rw [hw] at hw'; cases hw'
    n1 := fun i e he hw' c => by
      rcases snoc_get he with he | ⟨rfl, rfl⟩
      · have hil : i < nds.length := (List.getElem?_eq_some_iff.mp he).1
        rw [kinds_old fun k hk => by have := (h.ok i e he).2 k hk; omega]
        exact h.fo.n1 i e he hw' c
      · rw [hw] at hw'; cases hw' }
end
/-- a chain: the fields of s, its last kind k -/
structure Chn (nds : List Nd) (k : Str) : Prop where
  iv : Ivr nds
  pos : 0 < nds.length
  kd : KE k
  last : kindAt nds (nds.length - 1) = kP F0 k
  ev : (nds.any fun d => d.w == ("distinct" : Str)) = false → k = "events"
  fst : nds[0]? = some nSrc
  src : ∀ (j : Nat) (e : Nd), nds[j]? = some e → (e.w == ("source" : Str)) = true → e.nm = "s"
theorem chn0 : Chn [nSrc] "events" where
  iv := {
    ok := fun i d h => by
      cases i with
      | zero => cases h; exact ⟨ok_src, fun k hk => by cases hk⟩
      | succ i => simp at h
    fo := {
      s0 := fun i d h hw => by
        cases i with
        | zero => cases h; exact ⟨rfl, rfl, rfl, by decide +kernel⟩
        | succ i => simp at h
      s1 := fun i d h hw j e hj he _ => by
        cases i with
        | zero => omega
        | succ i => simp at h
      n0 := fun i d h hw => by
        cases i with
        | zero => cases h; exact absurd hw (by decide +kernel)
        | succ i => simp at h
      n1 := fun i d h hw => by
        cases i with
        | zero => cases h; exact absurd hw (by decide +kernel)
        | succ i => simp at h } }
  pos := by decide
  kd := .inl rfl
  last := rfl
  ev := fun _ => rfl
  fst := rfl
  src := fun j e he _ => by
    cases j with
    | zero => cases he; rfl
    | succ j => simp at he
theorem ws_filter : (("filter" : Str) == ("source" : Str)) = false := by decide +kernel
theorem ws_map : (("map" : Str) == ("source" : Str)) = false := by decide +kernel
theorem ws_distinct : (("distinct" : Str) == ("source" : Str)) = false := by decide +kernel
theorem ws_first : (("first" : Str) == ("source" : Str)) = false := by decide +kernel
theorem ws_union : (("union" : Str) == ("source" : Str)) = false := by decide +kernel
theorem ws_window : (("window" : Str) == ("source" : Str)) = false := by decide +kernel
theorem ws_group : (("group" : Str) == ("source" : Str)) = false := by decide +kernel
theorem ws_top : (("top" : Str) == ("source" : Str)) = false := by decide +kernel
theorem ws_join : (("join" : Str) == ("source" : Str)) = false := by decide +kernel
theorem ws_asof : (("asof" : Str) == ("source" : Str)) = false := by decide +kernel
theorem ws_near : (("near" : Str) == ("source" : Str)) = false := by decide +kernel
section
variable {nds : List Nd} {k : Str}
theorem Chn.snoc (h : Chn nds k) {d : Nd} {k' : Str} (hiv : Ivr (nds ++ [d])) (hk : KE k') (hl : d.kind = kP F0 k') (hw : (d.w == ("source" : Str)) = false) (hev : (nds.any fun d => d.w == ("distinct" : Str)) = false → (d.w == ("distinct" : Str)) = false → k' = "events") : Chn (nds ++ [d]) k' where
  iv := hiv
  pos := by rw [List.length_append]; exact Nat.lt_of_lt_of_le h.pos (Nat.le_add_right _ _)
  kd := hk
  last := by
    have e : (nds ++ [d]).length - 1 = nds.length := by simp
    rw [e, kindAt_new, hl]
  ev := fun z => by
    rw [List.any_append, Bool.or_eq_false_iff] at z
    exact hev z.1 (by simpa using z.2)
  fst := by rw [List.getElem?_append_left h.pos]; exact h.fst
  src := fun j e he hw' => by
    rcases snoc_get he with he | ⟨rfl, rfl⟩
    · exact h.src j e he hw'
    · rw [hw] at hw'; cases hw'
theorem last_lt (h : 0 < nds.length) : ∀ k ∈ [nds.length - 1], k < nds.length := fun k hk => by
  rw [List.mem_singleton] at hk
  omega
theorem Chn.fil (h : Chn nds k) : Chn (nds ++ [nFil (nds.length - 1) k]) k :=
  h.snoc (h.iv.push (ok_fil _ h.kd) (last_lt h.pos) ws_filter (si_fil _ k) fun c => by
    show runF cf (c + 15) _ [_, .p (.lst [kindAt nds (nds.length - 1)])] [] = _
    rw [h.last]; exact ch_fil _ h.kd c) h.kd rfl ws_filter fun z _ => h.ev z
theorem Chn.map (h : Chn nds k) : Chn (nds ++ [nMap (nds.length - 1) k]) k :=
  h.snoc (h.iv.push (ok_map _ h.kd) (last_lt h.pos) ws_map (si_map _ k) fun c => by
    show runF cf (c + 15) _ [_, .p (.lst [kindAt nds (nds.length - 1)])] [] = _
    rw [h.last]; exact ch_map _ h.kd c) h.kd rfl ws_map fun z _ => h.ev z
theorem Chn.dis (h : Chn nds k) : Chn (nds ++ [nDis (nds.length - 1)]) "table" :=
  h.snoc (h.iv.push (ok_dis _) (last_lt h.pos) ws_distinct (si_dis _) fun c => by
    show runF cf (c + 15) _ [_, .p (.lst [kindAt nds (nds.length - 1)])] [] = _
    rw [h.last]; exact ch_dis _ h.kd c) (.inr rfl) rfl ws_distinct fun _ z => absurd z (show ¬ (("distinct" : Str) == ("distinct" : Str)) = false by decide +kernel)
theorem Chn.frs (h : Chn nds "events") {s : Int} (hs : S5 s) : Chn (nds ++ [nFst (nds.length - 1) s]) "events" :=
  h.snoc (h.iv.push (ok_fst _ hs) (last_lt h.pos) ws_first (si_fst _ s) fun c => by
    show runF cf (c + 15) _ [_, .p (.lst [kindAt nds (nds.length - 1)])] [] = _
    rw [h.last]; exact ch_fst _ s c) (.inl rfl) rfl ws_first fun _ _ => rfl
theorem Chn.fan (h : Chn nds k) : Chn ((nds ++ [nFil (nds.length - 1) k]) ++ [nUni (nds.length - 1) nds.length k]) k := by
  have h2 := h.fil
  refine h2.snoc (h2.iv.push (ok_uni _ _ h.kd) (fun x hx => ?_) ws_union (si_uni _ _ k) fun c => ?_) h.kd rfl ws_union fun z _ => h2.ev z
  · have := h.pos
    have hx : x = nds.length - 1 ∨ x = nds.length := by simpa [nUni] using hx
    rw [List.length_append, List.length_singleton]
    omega
  · show runF cf (c + 15) _ [_, .p (.lst [kindAt (nds ++ [nFil (nds.length - 1) k]) (nds.length - 1), kindAt (nds ++ [nFil (nds.length - 1) k]) nds.length])] [] = _
    rw [kindAt_old (by have := h.pos; omega), h.last, kindAt_new]
    exact ch_uni _ _ h.kd c
end
end T
end
section
set_option Elab.async false
set_option linter.all false
set_option maxRecDepth 1000000
set_option autoImplicit false
set_option maxHeartbeats 1000000
namespace T
open PySem PySem.Spec PyProof.Rows L2 Mp
/-! ### whole plans -/
structure Fine (nds : List Nd) : Prop where
  ok : NdsOk nds
  fo : FOk nds
  fst : nds[0]? = some nSrc
theorem Fine.pos {nds : List Nd} (h : Fine nds) : 0 < nds.length := (List.getElem?_eq_some_iff.mp h.fst).1
theorem Fine.of {nds : List Nd} (h : Ivr nds) (hl : nds.length ≤ 8) (hf : nds[0]? = some nSrc) : Fine nds := ⟨⟨hl, h.ok⟩, h.fo, hf⟩
theorem si_win (i : Nat) (q z : Q3) (s : Int) (c : Nat) : runF cf (c + 1) ("sides_of", none) [.p (nWin i q z s).op] [] = .ok (.p (.int 1)) [] := by kernel_rfl
theorem si_gr1 (i : Nat) (c : Nat) : runF cf (c + 1) ("sides_of", none) [.p (nGr1 i).op] [] = .ok (.p (.int 1)) [] := by kernel_rfl
theorem si_grp (i : Nat) (q : Q3) (c : Nat) : runF cf (c + 1) ("sides_of", none) [.p (nGrp i q).op] [] = .ok (.p (.int 1)) [] := by kernel_rfl
theorem si_top (i : Nat) (q : Q3) (s : Int) (c : Nat) : runF cf (c + 1) ("sides_of", none) [.p (nTop i q s).op] [] = .ok (.p (.int 1)) [] := by kernel_rfl
theorem si_mpT (i : Nat) (c : Nat) : runF cf (c + 1) ("sides_of", none) [.p (nMpT i).op] [] = .ok (.p (.int 1)) [] := by kernel_rfl
theorem si_joi (i j : Nat) (o : B2) (c : Nat) : runF cf (c + 1) ("sides_of", none) [.p (nJoi i j o).op] [] = .ok (.p (.int 2)) [] := by kernel_rfl
theorem si_aso (i j : Nat) (o w : B2) (c : Nat) : runF cf (c + 1) ("sides_of", none) [.p (nAso i j o w).op] [] = .ok (.p (.int 2)) [] := by kernel_rfl
theorem si_nea (i j : Nat) (o w : B2) (l h : Int) (c : Nat) : runF cf (c + 1) ("sides_of", none) [.p (nNea i j o w l h).op] [] = .ok (.p (.int 2)) [] := by kernel_rfl
section
variable {nds : List Nd} {k : Str}
theorem Chn.win (h : Chn nds "events") (q z : Q3) {s : Int} (hs : S5 s) : Ivr (nds ++ [nWin (nds.length - 1) q z s]) :=
  h.iv.push (ok_win _ q z hs) (last_lt h.pos) ws_window (si_win _ q z s) fun c => by
    show runF cf (c + 15) _ [_, .p (.lst [kindAt nds (nds.length - 1)])] [] = _
    rw [h.last]; exact ch_win _ q z s c
theorem Chn.wig (h : Chn nds "events") (q z : Q3) {s : Int} (hs : S5 s) : Ivr ((nds ++ [nWin (nds.length - 1) q z s]) ++ [nGr1 nds.length]) :=
  (h.win q z hs).push (ok_gr1 _) (fun x hx => by
    have hx : x = nds.length := by simpa [nGr1] using hx
    rw [List.length_append, List.length_singleton]; omega) ws_group (si_gr1 _) fun c => by
    show runF cf (c + 15) _ [_, .p (.lst [kindAt (nds ++ [nWin (nds.length - 1) q z s]) nds.length])] [] = _
    rw [kindAt_new]; exact ch_gr1 _ _ q z s c
theorem Chn.top (h : Chn nds k) (q : Q3) {s : Int} (hs : S5 s) : Ivr (nds ++ [nTop (nds.length - 1) q s]) :=
  h.iv.push (ok_top _ q hs) (last_lt h.pos) ws_top (si_top _ q s) fun c => by
    show runF cf (c + 15) _ [_, .p (.lst [kindAt nds (nds.length - 1)])] [] = _
    rw [h.last]; exact ch_top _ q s h.kd c
theorem Chn.grp (h : Chn nds k) (q : Q3) : Ivr (nds ++ [nGrp (nds.length - 1) q]) :=
  h.iv.push (ok_grp _ q) (last_lt h.pos) ws_group (si_grp _ q) fun c => by
    show runF cf (c + 15) _ [_, .p (.lst [kindAt nds (nds.length - 1)])] [] = _
    rw [h.last]; exact ch_grp _ q h.kd c
theorem Chn.srt (h : Chn nds k) : Ivr (nds ++ [nSrcT]) :=
  h.iv.pushS ok_srcT rfl (by decide +kernel) ⟨rfl, rfl, by decide +kernel⟩ fun j e he hw => by
    rw [h.src j e he hw]
    decide +kernel
theorem two_lt (h : 0 < nds.length) : ∀ x ∈ [nds.length - 1, nds.length], x < (nds ++ [nSrcT]).length := fun x hx => by
  have hx : x = nds.length - 1 ∨ x = nds.length := by simpa using hx
  rw [List.length_append, List.length_singleton]
  omega
theorem Chn.joi (h : Chn nds k) (o : B2) : Ivr ((nds ++ [nSrcT]) ++ [nJoi (nds.length - 1) nds.length o]) :=
  h.srt.push (ok_joi _ _ o) (two_lt h.pos) ws_join (si_joi _ _ o) fun c => by
    show runF cf (c + 15) _ [_, .p (.lst [kindAt (nds ++ [nSrcT]) (nds.length - 1), kindAt (nds ++ [nSrcT]) nds.length])] [] = _
    rw [kindAt_old (by have := h.pos; omega), h.last, kindAt_new]
    exact ch_joi _ _ o h.kd c
theorem Chn.aso (h : Chn nds "events") (o w : B2) : Ivr ((nds ++ [nSrcT]) ++ [nAso (nds.length - 1) nds.length o w]) :=
  h.srt.push (ok_aso _ _ o w) (two_lt h.pos) ws_asof (si_aso _ _ o w) fun c => by
    show runF cf (c + 15) _ [_, .p (.lst [kindAt (nds ++ [nSrcT]) (nds.length - 1), kindAt (nds ++ [nSrcT]) nds.length])] [] = _
    rw [kindAt_old (by have := h.pos; omega), h.last, kindAt_new]
    exact ch_aso _ _ o w c
theorem Chn.nea (h : Chn nds "events") (o w : B2) {l d : Int} (h1 : L7 l) (h2 : D5 d) : Ivr ((nds ++ [nSrcT]) ++ [nNea (nds.length - 1) nds.length o w l (l + d)]) :=
  h.srt.push (ok_nea _ _ o w h1 h2) (two_lt h.pos) ws_near (si_nea _ _ o w l (l + d)) fun c => by
    show runF cf (c + 15) _ [_, .p (.lst [kindAt (nds ++ [nSrcT]) (nds.length - 1), kindAt (nds ++ [nSrcT]) nds.length])] [] = _
    rw [kindAt_old (by have := h.pos; omega), h.last, kindAt_new]
    exact ch_nea _ _ o w l (l + d) c
theorem Chn.uni (h : Chn nds k) : Ivr (((nds ++ [nSrcT]) ++ [nMpT nds.length]) ++ [nUni (nds.length - 1) (nds.length + 1) k]) := by
  have h1 : Ivr ((nds ++ [nSrcT]) ++ [nMpT nds.length]) := h.srt.push (ok_mpT _) (fun x hx => by
    have hx : x = nds.length := by simpa [nMpT] using hx
    rw [List.length_append, List.length_singleton]; omega) ws_map (si_mpT _) fun c => by
    show runF cf (c + 15) _ [_, .p (.lst [kindAt (nds ++ [nSrcT]) nds.length])] [] = _
    rw [kindAt_new]; exact ch_mpT _ c
  have hl : (nds ++ [nSrcT]).length = nds.length + 1 := by simp
  refine h1.push (ok_uni _ _ h.kd) (fun x hx => ?_) ws_union (si_uni _ _ k) fun c => ?_
  · have hx : x = nds.length - 1 ∨ x = nds.length + 1 := by simpa [nUni] using hx
    rw [List.length_append, hl, List.length_singleton]; omega
  · show runF cf (c + 15) _ [_, .p (.lst [kindAt ((nds ++ [nSrcT]) ++ [nMpT nds.length]) (nds.length - 1), kindAt ((nds ++ [nSrcT]) ++ [nMpT nds.length]) (nds.length + 1)])] [] = _
    rw [kindAt_old (by rw [hl]; omega), kindAt_old (by have := h.pos; omega), h.last, ← hl, kindAt_new]
    exact ch_un2 _ _ h.kd c
end
end T
end
section
set_option Elab.async false
set_option linter.all false
set_option maxRecDepth 1000000
set_option autoImplicit false
set_option maxHeartbeats 1000000
namespace T
open PySem PySem.Spec PyProof.Rows L2 Mp
/-! ### drawing -/
theorem trim_le {n : Nat} {w : W} {S : Store} (h : S.length ≤ n) : trim n w S = S := by
  unfold trim
  split
  · exact List.take_of_length_le h
  · rfl
theorem r_digit' (c : Nat) (S : Store) (id : Nat) (s many : Int) (h : many ≠ 0) (hs : S[id]? = some (.lst [.p (.int s)])) : runF cf (c + 1) ("_law_digit", none) [.o id, .p (.int many)] S = .ok (.p (.int (dg s many))) (S.set id (.lst [.p (.int (nx s))])) := by
  have hid : id < S.length := (List.getElem?_eq_some_iff.mp hs).1
  rw [e__law_digit]
  have h1 : idxW S (.o id) (.int 0) = some (.p (.int s)) := idx_o S (i := 0) hs rfl
  have h2 : setAt S (.o id) (.int 0) (.p (.int (nx s))) = some (S.set id (.lst [.p (.int (nx s))])) := by
    simp [setAt, hs, ixN]
  have h3 : idxW (S.set id (.lst [.p (.int (nx s))])) (.o id) (.int 0) = some (.p (.int (nx s))) := idx_o _ (i := 0) (ws := [.p (.int (nx s))]) (by rw [List.getElem?_set_self hid]) rfl
  have h4 : trim S.length (.p (.int (dg s many))) (S.set id (.lst [.p (.int (nx s))])) = S.set id (.lst [.p (.int (nx s))]) := trim_le (by simp)
  have h5 : ((nx s).fdiv 65536).fmod many = dg s many := rfl
  have h6 : (s * 6364136223846793005 + 1442695040888963407).fmod 18446744073709551557 = nx s := rfl
  simp [b__law_digit, s__law_digit_1, s__law_digit_2, x_sPut, h1, binop, intR, h6, h2, h3, h, h5, h4]
section
variable (S0 : Store) (id : Nat)
def Z (s : Int) : Store := S0.set id (.lst [.p (.int s)])
theorem Z_len (s : Int) : (Z S0 id s).length = S0.length := by simp [Z]
variable {S0 id}
theorem Z_at (hid : id < S0.length) (s : Int) (T : Store) : (Z S0 id s ++ T)[id]? = some (.lst [.p (.int s)]) := by
  rw [List.getElem?_append_left (by rw [Z_len]; exact hid)]
  unfold Z
  rw [List.getElem?_set_self hid]
theorem Z_set (hid : id < S0.length) (s t : Int) (T : Store) : (Z S0 id s ++ T).set id (.lst [.p (.int t)]) = Z S0 id t ++ T := by
  rw [List.set_append_left _ _ (by rw [Z_len]; exact hid)]
  unfold Z
  rw [List.set_set]
theorem r_dig (hid : id < S0.length) (c : Nat) (s many : Int) (T : Store) (h : many ≠ 0) : runF cf (c + 1) ("_law_digit", none) [.o id, .p (.int many)] (Z S0 id s ++ T) = .ok (.p (.int (dg s many))) (Z S0 id (nx s) ++ T) := by
  rw [r_digit' c _ id s many h (Z_at hid s T), Z_set hid]
theorem r_dig0 (hid : id < S0.length) (c : Nat) (s many : Int) (h : many ≠ 0) : runF cf (c + 1) ("_law_digit", none) [.o id, .p (.int many)] (Z S0 id s) = .ok (.p (.int (dg s many))) (Z S0 id (nx s)) := by
  have := r_dig hid c s many [] h
  rw [List.append_nil, List.append_nil] at this
  exact this
end
theorem dg_rng (s : Int) {m : Int} (h : 0 < m) : 0 ≤ dg s m ∧ dg s m < m := ⟨Int.fmod_nonneg_of_pos _ h, Int.fmod_lt_of_pos _ h⟩
theorem dg2 (s : Int) : dg s 2 = 0 ∨ dg s 2 = 1 := by have := dg_rng s (m := 2) (by decide); omega
theorem dg3 (s : Int) : dg s 3 = 0 ∨ dg s 3 = 1 ∨ dg s 3 = 2 := by have := dg_rng s (m := 3) (by decide); omega
theorem dg4 (s : Int) : dg s 4 = 0 ∨ dg s 4 = 1 ∨ dg s 4 = 2 ∨ dg s 4 = 3 := by have := dg_rng s (m := 4) (by decide); omega
theorem dg5 (s : Int) : dg s 5 = 0 ∨ dg s 5 = 1 ∨ dg s 5 = 2 ∨ dg s 5 = 3 ∨ dg s 5 = 4 := by have := dg_rng s (m := 5) (by decide); omega
theorem dg6 (s : Int) : dg s 6 = 0 ∨ dg s 6 = 1 ∨ dg s 6 = 2 ∨ dg s 6 = 3 ∨ dg s 6 = 4 ∨ dg s 6 = 5 := by have := dg_rng s (m := 6) (by decide); omega
theorem s5_of (s : Int) : S5 (1 + dg s 5) := by
  unfold S5
  rcases dg5 s with h | h | h | h | h <;> rw [h] <;> simp
def plC (nds : List Nd) : Cell := .lst (nds.map (W.p ∘ Nd.node))
end T
end
section
set_option Elab.async false
set_option linter.all false
set_option maxRecDepth 1000000
set_option autoImplicit false
set_option maxHeartbeats 4000000
namespace T
open PySem PySem.Spec PyProof.Rows L2 Mp
section
variable {S0 : Store} {id : Nat}
theorem Zp_at (s : Int) (c : Cell) : (Z S0 id s ++ [c])[S0.length]? = some c := by
  rw [← Z_len S0 id s, List.getElem?_concat_length]
theorem Zp_set (s : Int) (c c' : Cell) : (Z S0 id s ++ [c]).set S0.length c' = Z S0 id s ++ [c'] := by
  rw [List.set_append_right _ _ (by rw [Z_len]; exact Nat.le_refl _), Z_len]
  simp
theorem app_P (s : Int) (ws : List W) (y : W) (h : ws.length < 1000) : appW (Z S0 id s ++ [.lst ws]) S0.length y = .ok (.p .non) (Z S0 id s ++ [.lst (ws ++ [y])]) := by
  unfold appW
  rw [Zp_at]
  simp only
  rw [if_pos (by have := sz; omega), Zp_set]
theorem at_P (s : Int) (ws : List W) : lstAt (Z S0 id s ++ [.lst ws]) S0.length = true := by
  unfold lstAt
  rw [Zp_at]
theorem len_P (s : Int) (ws : List W) : lenR (Z S0 id s ++ [.lst ws]) (.o S0.length) = some (.int (ws.length : Int)) := lenR_o _ (Zp_at s _)
theorem r_events (c : Nat) : runF cf (c + 1) ("_law_events", none) [] [] = .ok (.p (.tup (F0.map fld))) [] := by kernel_rfl
theorem trim_new (n id' : Nat) (S : Store) (h : n ≤ id') : trim n (.o id') S = S := by
  unfold trim
  rw [if_neg]
  simp [W.below]
  omega
theorem idx5 (S : Store) (a b c d e : P) : idxW S (.p (.lst [a, b, c, d, e])) (.int 2) = some (.p c) ∧ idxW S (.p (.lst [a, b, c, d, e])) (.int 3) = some (.p d) ∧ idxW S (.p (.lst [a, b, c, d, e])) (.int 4) = some (.p e) := ⟨idx_l S (i := 2) rfl, idx_l S (i := 3) rfl, idx_l S (i := 4) rfl⟩
theorem app_Pu (s : Int) (ws : List W) (y : W) : appW (Z S0 id s ++ [.lst ws]) S0.length y = if ws.length < 1000 then .ok (.p .non) (Z S0 id s ++ [.lst (ws ++ [y])]) else appW (Z S0 id s ++ [.lst ws]) S0.length y := by
  split
  · exact app_P s ws y (by assumption)
  · rfl
theorem add_u (xs ys : List P) : binop .Add (.lst xs) (.lst ys) = if xs.length + ys.length ≤ 16777216 then some (.lst (xs ++ ys)) else none := id rfl
theorem chain_0_0 (hid : id < S0.length) (c : Nat) (s : Int) (ha : dg (nx s) 5 = 0) (hb : dg (nx (nx s)) 5 = 0) : ∃ nds k, Chn nds k ∧ nds.length ≤ 3 ∧ runF cf (c + 5) ("_law_chain", none) [.o id] (Z S0 id s) = .ok (.o S0.length) (Z S0 id (nx (nx (nx s))) ++ [plC nds]) := by
  refine ⟨_, _, (Chn.fil (Chn.fil chn0)), by simp, ?_⟩
  rw [e__law_chain]
  have h1 := r_dig0 hid (c + 3) s 5 (by decide)
  have h2 := r_dig hid (c + 3) (nx s) 5 [.lst [.p nSrc.node]] (by decide)
  have h3 := r_dig hid (c + 3) (nx (nx s)) 5 [.lst [.p nSrc.node]] (by decide)
  have h4 := r_events (c + 3)
  rw [ha] at h2
  rw [hb] at h3
  have e0 : W.p (.tup [.tup [.str ("source" : Str), .str ("s" : Str), .tup (F0.map fld)], .tup []]) = .p nSrc.node := rfl
  simp [b__law_chain, s__law_chain_1, s__law_chain_2, sz, h1, s__law_chain_3, s__law_chain_4, h4, Z_len, e0, s__law_chain_5, x_rCall, x_callT, h2, s__law_chain_7, intR, h3, (idx5 _ _ _ _ _ _).1, (idx5 _ _ _ _ _ _).2.1, (idx5 _ _ _ _ _ _).2.2, add_u, forS, l__law_chain_6, x_rApp, at_P, app_Pu, len_P, s__law_chain_8, trim_new]
  try rfl

theorem chain_0_1 (hid : id < S0.length) (c : Nat) (s : Int) (ha : dg (nx s) 5 = 0) (hb : dg (nx (nx s)) 5 = 1) : ∃ nds k, Chn nds k ∧ nds.length ≤ 3 ∧ runF cf (c + 5) ("_law_chain", none) [.o id] (Z S0 id s) = .ok (.o S0.length) (Z S0 id (nx (nx (nx s))) ++ [plC nds]) := by
  refine ⟨_, _, (Chn.map (Chn.fil chn0)), by simp, ?_⟩
  rw [e__law_chain]
  have h1 := r_dig0 hid (c + 3) s 5 (by decide)
  have h2 := r_dig hid (c + 3) (nx s) 5 [.lst [.p nSrc.node]] (by decide)
  have h3 := r_dig hid (c + 3) (nx (nx s)) 5 [.lst [.p nSrc.node]] (by decide)
  have h4 := r_events (c + 3)
  rw [ha] at h2
  rw [hb] at h3
  have e0 : W.p (.tup [.tup [.str ("source" : Str), .str ("s" : Str), .tup (F0.map fld)], .tup []]) = .p nSrc.node := rfl
  simp [b__law_chain, s__law_chain_1, s__law_chain_2, sz, h1, s__law_chain_3, s__law_chain_4, h4, Z_len, e0, s__law_chain_5, x_rCall, x_callT, h2, s__law_chain_7, intR, h3, (idx5 _ _ _ _ _ _).1, (idx5 _ _ _ _ _ _).2.1, (idx5 _ _ _ _ _ _).2.2, add_u, forS, l__law_chain_6, x_rApp, at_P, app_Pu, len_P, s__law_chain_8, trim_new]
  try rfl

theorem chain_0_2 (hid : id < S0.length) (c : Nat) (s : Int) (ha : dg (nx s) 5 = 0) (hb : dg (nx (nx s)) 5 = 2) : ∃ nds k, Chn nds k ∧ nds.length ≤ 3 ∧ runF cf (c + 5) ("_law_chain", none) [.o id] (Z S0 id s) = .ok (.o S0.length) (Z S0 id (nx (nx (nx s))) ++ [plC nds]) := by
  refine ⟨_, _, (Chn.fil chn0), by simp, ?_⟩
  rw [e__law_chain]
  have h1 := r_dig0 hid (c + 3) s 5 (by decide)
  have h2 := r_dig hid (c + 3) (nx s) 5 [.lst [.p nSrc.node]] (by decide)
  have h3 := r_dig hid (c + 3) (nx (nx s)) 5 [.lst [.p nSrc.node]] (by decide)
  have h4 := r_events (c + 3)
  rw [ha] at h2
  rw [hb] at h3
  have e0 : W.p (.tup [.tup [.str ("source" : Str), .str ("s" : Str), .tup (F0.map fld)], .tup []]) = .p nSrc.node := rfl
  simp [b__law_chain, s__law_chain_1, s__law_chain_2, sz, h1, s__law_chain_3, s__law_chain_4, h4, Z_len, e0, s__law_chain_5, x_rCall, x_callT, h2, s__law_chain_7, intR, h3, (idx5 _ _ _ _ _ _).1, (idx5 _ _ _ _ _ _).2.1, (idx5 _ _ _ _ _ _).2.2, add_u, forS, l__law_chain_6, x_rApp, at_P, app_Pu, len_P, s__law_chain_8, trim_new]
  try rfl

theorem chain_0_3 (hid : id < S0.length) (c : Nat) (s : Int) (ha : dg (nx s) 5 = 0) (hb : dg (nx (nx s)) 5 = 3) : ∃ nds k, Chn nds k ∧ nds.length ≤ 3 ∧ runF cf (c + 5) ("_law_chain", none) [.o id] (Z S0 id s) = .ok (.o S0.length) (Z S0 id (nx (nx (nx s))) ++ [plC nds]) := by
  refine ⟨_, _, (Chn.dis (Chn.fil chn0)), by simp, ?_⟩
  rw [e__law_chain]
  have h1 := r_dig0 hid (c + 3) s 5 (by decide)
  have h2 := r_dig hid (c + 3) (nx s) 5 [.lst [.p nSrc.node]] (by decide)
  have h3 := r_dig hid (c + 3) (nx (nx s)) 5 [.lst [.p nSrc.node]] (by decide)
  have h4 := r_events (c + 3)
  rw [ha] at h2
  rw [hb] at h3
  have e0 : W.p (.tup [.tup [.str ("source" : Str), .str ("s" : Str), .tup (F0.map fld)], .tup []]) = .p nSrc.node := rfl
  simp [b__law_chain, s__law_chain_1, s__law_chain_2, sz, h1, s__law_chain_3, s__law_chain_4, h4, Z_len, e0, s__law_chain_5, x_rCall, x_callT, h2, s__law_chain_7, intR, h3, (idx5 _ _ _ _ _ _).1, (idx5 _ _ _ _ _ _).2.1, (idx5 _ _ _ _ _ _).2.2, add_u, forS, l__law_chain_6, x_rApp, at_P, app_Pu, len_P, s__law_chain_8, trim_new]
  try rfl

theorem chain_0_4 (hid : id < S0.length) (c : Nat) (s : Int) (ha : dg (nx s) 5 = 0) (hb : dg (nx (nx s)) 5 = 4) : ∃ nds k, Chn nds k ∧ nds.length ≤ 3 ∧ runF cf (c + 5) ("_law_chain", none) [.o id] (Z S0 id s) = .ok (.o S0.length) (Z S0 id (nx (nx (nx s))) ++ [plC nds]) := by
  refine ⟨_, _, (Chn.frs (Chn.fil chn0) (s5_of s)), by simp, ?_⟩
  rw [e__law_chain]
  have h1 := r_dig0 hid (c + 3) s 5 (by decide)
  have h2 := r_dig hid (c + 3) (nx s) 5 [.lst [.p nSrc.node]] (by decide)
  have h3 := r_dig hid (c + 3) (nx (nx s)) 5 [.lst [.p nSrc.node]] (by decide)
  have h4 := r_events (c + 3)
  rw [ha] at h2
  rw [hb] at h3
  have e0 : W.p (.tup [.tup [.str ("source" : Str), .str ("s" : Str), .tup (F0.map fld)], .tup []]) = .p nSrc.node := rfl
  simp [b__law_chain, s__law_chain_1, s__law_chain_2, sz, h1, s__law_chain_3, s__law_chain_4, h4, Z_len, e0, s__law_chain_5, x_rCall, x_callT, h2, s__law_chain_7, intR, h3, (idx5 _ _ _ _ _ _).1, (idx5 _ _ _ _ _ _).2.1, (idx5 _ _ _ _ _ _).2.2, add_u, forS, l__law_chain_6, x_rApp, at_P, app_Pu, len_P, s__law_chain_8, trim_new]
  try rfl

theorem chain_1_0 (hid : id < S0.length) (c : Nat) (s : Int) (ha : dg (nx s) 5 = 1) (hb : dg (nx (nx s)) 5 = 0) : ∃ nds k, Chn nds k ∧ nds.length ≤ 3 ∧ runF cf (c + 5) ("_law_chain", none) [.o id] (Z S0 id s) = .ok (.o S0.length) (Z S0 id (nx (nx (nx s))) ++ [plC nds]) := by
  refine ⟨_, _, (Chn.fil (Chn.map chn0)), by simp, ?_⟩
  rw [e__law_chain]
  have h1 := r_dig0 hid (c + 3) s 5 (by decide)
  have h2 := r_dig hid (c + 3) (nx s) 5 [.lst [.p nSrc.node]] (by decide)
  have h3 := r_dig hid (c + 3) (nx (nx s)) 5 [.lst [.p nSrc.node]] (by decide)
  have h4 := r_events (c + 3)
  rw [ha] at h2
  rw [hb] at h3
  have e0 : W.p (.tup [.tup [.str ("source" : Str), .str ("s" : Str), .tup (F0.map fld)], .tup []]) = .p nSrc.node := rfl
  simp [b__law_chain, s__law_chain_1, s__law_chain_2, sz, h1, s__law_chain_3, s__law_chain_4, h4, Z_len, e0, s__law_chain_5, x_rCall, x_callT, h2, s__law_chain_7, intR, h3, (idx5 _ _ _ _ _ _).1, (idx5 _ _ _ _ _ _).2.1, (idx5 _ _ _ _ _ _).2.2, add_u, forS, l__law_chain_6, x_rApp, at_P, app_Pu, len_P, s__law_chain_8, trim_new]
  try rfl

theorem chain_1_1 (hid : id < S0.length) (c : Nat) (s : Int) (ha : dg (nx s) 5 = 1) (hb : dg (nx (nx s)) 5 = 1) : ∃ nds k, Chn nds k ∧ nds.length ≤ 3 ∧ runF cf (c + 5) ("_law_chain", none) [.o id] (Z S0 id s) = .ok (.o S0.length) (Z S0 id (nx (nx (nx s))) ++ [plC nds]) := by
  refine ⟨_, _, (Chn.map (Chn.map chn0)), by simp, ?_⟩
  rw [e__law_chain]
  have h1 := r_dig0 hid (c + 3) s 5 (by decide)
  have h2 := r_dig hid (c + 3) (nx s) 5 [.lst [.p nSrc.node]] (by decide)
  have h3 := r_dig hid (c + 3) (nx (nx s)) 5 [.lst [.p nSrc.node]] (by decide)
  have h4 := r_events (c + 3)
  rw [ha] at h2
  rw [hb] at h3
  have e0 : W.p (.tup [.tup [.str ("source" : Str), .str ("s" : Str), .tup (F0.map fld)], .tup []]) = .p nSrc.node := rfl
  simp [b__law_chain, s__law_chain_1, s__law_chain_2, sz, h1, s__law_chain_3, s__law_chain_4, h4, Z_len, e0, s__law_chain_5, x_rCall, x_callT, h2, s__law_chain_7, intR, h3, (idx5 _ _ _ _ _ _).1, (idx5 _ _ _ _ _ _).2.1, (idx5 _ _ _ _ _ _).2.2, add_u, forS, l__law_chain_6, x_rApp, at_P, app_Pu, len_P, s__law_chain_8, trim_new]
  try rfl

theorem chain_1_2 (hid : id < S0.length) (c : Nat) (s : Int) (ha : dg (nx s) 5 = 1) (hb : dg (nx (nx s)) 5 = 2) : ∃ nds k, Chn nds k ∧ nds.length ≤ 3 ∧ runF cf (c + 5) ("_law_chain", none) [.o id] (Z S0 id s) = .ok (.o S0.length) (Z S0 id (nx (nx (nx s))) ++ [plC nds]) := by
  refine ⟨_, _, (Chn.map chn0), by simp, ?_⟩
  rw [e__law_chain]
  have h1 := r_dig0 hid (c + 3) s 5 (by decide)
  have h2 := r_dig hid (c + 3) (nx s) 5 [.lst [.p nSrc.node]] (by decide)
  have h3 := r_dig hid (c + 3) (nx (nx s)) 5 [.lst [.p nSrc.node]] (by decide)
  have h4 := r_events (c + 3)
  rw [ha] at h2
  rw [hb] at h3
  have e0 : W.p (.tup [.tup [.str ("source" : Str), .str ("s" : Str), .tup (F0.map fld)], .tup []]) = .p nSrc.node := rfl
  simp [b__law_chain, s__law_chain_1, s__law_chain_2, sz, h1, s__law_chain_3, s__law_chain_4, h4, Z_len, e0, s__law_chain_5, x_rCall, x_callT, h2, s__law_chain_7, intR, h3, (idx5 _ _ _ _ _ _).1, (idx5 _ _ _ _ _ _).2.1, (idx5 _ _ _ _ _ _).2.2, add_u, forS, l__law_chain_6, x_rApp, at_P, app_Pu, len_P, s__law_chain_8, trim_new]
  try rfl

theorem chain_1_3 (hid : id < S0.length) (c : Nat) (s : Int) (ha : dg (nx s) 5 = 1) (hb : dg (nx (nx s)) 5 = 3) : ∃ nds k, Chn nds k ∧ nds.length ≤ 3 ∧ runF cf (c + 5) ("_law_chain", none) [.o id] (Z S0 id s) = .ok (.o S0.length) (Z S0 id (nx (nx (nx s))) ++ [plC nds]) := by
  refine ⟨_, _, (Chn.dis (Chn.map chn0)), by simp, ?_⟩
  rw [e__law_chain]
  have h1 := r_dig0 hid (c + 3) s 5 (by decide)
  have h2 := r_dig hid (c + 3) (nx s) 5 [.lst [.p nSrc.node]] (by decide)
  have h3 := r_dig hid (c + 3) (nx (nx s)) 5 [.lst [.p nSrc.node]] (by decide)
  have h4 := r_events (c + 3)
  rw [ha] at h2
  rw [hb] at h3
  have e0 : W.p (.tup [.tup [.str ("source" : Str), .str ("s" : Str), .tup (F0.map fld)], .tup []]) = .p nSrc.node := rfl
  simp [b__law_chain, s__law_chain_1, s__law_chain_2, sz, h1, s__law_chain_3, s__law_chain_4, h4, Z_len, e0, s__law_chain_5, x_rCall, x_callT, h2, s__law_chain_7, intR, h3, (idx5 _ _ _ _ _ _).1, (idx5 _ _ _ _ _ _).2.1, (idx5 _ _ _ _ _ _).2.2, add_u, forS, l__law_chain_6, x_rApp, at_P, app_Pu, len_P, s__law_chain_8, trim_new]
  try rfl

theorem chain_1_4 (hid : id < S0.length) (c : Nat) (s : Int) (ha : dg (nx s) 5 = 1) (hb : dg (nx (nx s)) 5 = 4) : ∃ nds k, Chn nds k ∧ nds.length ≤ 3 ∧ runF cf (c + 5) ("_law_chain", none) [.o id] (Z S0 id s) = .ok (.o S0.length) (Z S0 id (nx (nx (nx s))) ++ [plC nds]) := by
  refine ⟨_, _, (Chn.frs (Chn.map chn0) (s5_of s)), by simp, ?_⟩
  rw [e__law_chain]
  have h1 := r_dig0 hid (c + 3) s 5 (by decide)
  have h2 := r_dig hid (c + 3) (nx s) 5 [.lst [.p nSrc.node]] (by decide)
  have h3 := r_dig hid (c + 3) (nx (nx s)) 5 [.lst [.p nSrc.node]] (by decide)
  have h4 := r_events (c + 3)
  rw [ha] at h2
  rw [hb] at h3
  have e0 : W.p (.tup [.tup [.str ("source" : Str), .str ("s" : Str), .tup (F0.map fld)], .tup []]) = .p nSrc.node := rfl
  simp [b__law_chain, s__law_chain_1, s__law_chain_2, sz, h1, s__law_chain_3, s__law_chain_4, h4, Z_len, e0, s__law_chain_5, x_rCall, x_callT, h2, s__law_chain_7, intR, h3, (idx5 _ _ _ _ _ _).1, (idx5 _ _ _ _ _ _).2.1, (idx5 _ _ _ _ _ _).2.2, add_u, forS, l__law_chain_6, x_rApp, at_P, app_Pu, len_P, s__law_chain_8, trim_new]
  try rfl

theorem chain_2_0 (hid : id < S0.length) (c : Nat) (s : Int) (ha : dg (nx s) 5 = 2) (hb : dg (nx (nx s)) 5 = 0) : ∃ nds k, Chn nds k ∧ nds.length ≤ 3 ∧ runF cf (c + 5) ("_law_chain", none) [.o id] (Z S0 id s) = .ok (.o S0.length) (Z S0 id (nx (nx (nx s))) ++ [plC nds]) := by
  refine ⟨_, _, (Chn.fil chn0), by simp, ?_⟩
  rw [e__law_chain]
  have h1 := r_dig0 hid (c + 3) s 5 (by decide)
  have h2 := r_dig hid (c + 3) (nx s) 5 [.lst [.p nSrc.node]] (by decide)
  have h3 := r_dig hid (c + 3) (nx (nx s)) 5 [.lst [.p nSrc.node]] (by decide)
  have h4 := r_events (c + 3)
  rw [ha] at h2
  rw [hb] at h3
  have e0 : W.p (.tup [.tup [.str ("source" : Str), .str ("s" : Str), .tup (F0.map fld)], .tup []]) = .p nSrc.node := rfl
  simp [b__law_chain, s__law_chain_1, s__law_chain_2, sz, h1, s__law_chain_3, s__law_chain_4, h4, Z_len, e0, s__law_chain_5, x_rCall, x_callT, h2, s__law_chain_7, intR, h3, (idx5 _ _ _ _ _ _).1, (idx5 _ _ _ _ _ _).2.1, (idx5 _ _ _ _ _ _).2.2, add_u, forS, l__law_chain_6, x_rApp, at_P, app_Pu, len_P, s__law_chain_8, trim_new]
  try rfl

theorem chain_2_1 (hid : id < S0.length) (c : Nat) (s : Int) (ha : dg (nx s) 5 = 2) (hb : dg (nx (nx s)) 5 = 1) : ∃ nds k, Chn nds k ∧ nds.length ≤ 3 ∧ runF cf (c + 5) ("_law_chain", none) [.o id] (Z S0 id s) = .ok (.o S0.length) (Z S0 id (nx (nx (nx s))) ++ [plC nds]) := by
  refine ⟨_, _, (Chn.map chn0), by simp, ?_⟩
  rw [e__law_chain]
  have h1 := r_dig0 hid (c + 3) s 5 (by decide)
  have h2 := r_dig hid (c + 3) (nx s) 5 [.lst [.p nSrc.node]] (by decide)
  have h3 := r_dig hid (c + 3) (nx (nx s)) 5 [.lst [.p nSrc.node]] (by decide)
  have h4 := r_events (c + 3)
  rw [ha] at h2
  rw [hb] at h3
  have e0 : W.p (.tup [.tup [.str ("source" : Str), .str ("s" : Str), .tup (F0.map fld)], .tup []]) = .p nSrc.node := rfl
  simp [b__law_chain, s__law_chain_1, s__law_chain_2, sz, h1, s__law_chain_3, s__law_chain_4, h4, Z_len, e0, s__law_chain_5, x_rCall, x_callT, h2, s__law_chain_7, intR, h3, (idx5 _ _ _ _ _ _).1, (idx5 _ _ _ _ _ _).2.1, (idx5 _ _ _ _ _ _).2.2, add_u, forS, l__law_chain_6, x_rApp, at_P, app_Pu, len_P, s__law_chain_8, trim_new]
  try rfl

theorem chain_2_2 (hid : id < S0.length) (c : Nat) (s : Int) (ha : dg (nx s) 5 = 2) (hb : dg (nx (nx s)) 5 = 2) : ∃ nds k, Chn nds k ∧ nds.length ≤ 3 ∧ runF cf (c + 5) ("_law_chain", none) [.o id] (Z S0 id s) = .ok (.o S0.length) (Z S0 id (nx (nx (nx s))) ++ [plC nds]) := by
  refine ⟨_, _, chn0, by simp, ?_⟩
  rw [e__law_chain]
  have h1 := r_dig0 hid (c + 3) s 5 (by decide)
  have h2 := r_dig hid (c + 3) (nx s) 5 [.lst [.p nSrc.node]] (by decide)
  have h3 := r_dig hid (c + 3) (nx (nx s)) 5 [.lst [.p nSrc.node]] (by decide)
  have h4 := r_events (c + 3)
  rw [ha] at h2
  rw [hb] at h3
  have e0 : W.p (.tup [.tup [.str ("source" : Str), .str ("s" : Str), .tup (F0.map fld)], .tup []]) = .p nSrc.node := rfl
  simp [b__law_chain, s__law_chain_1, s__law_chain_2, sz, h1, s__law_chain_3, s__law_chain_4, h4, Z_len, e0, s__law_chain_5, x_rCall, x_callT, h2, s__law_chain_7, intR, h3, (idx5 _ _ _ _ _ _).1, (idx5 _ _ _ _ _ _).2.1, (idx5 _ _ _ _ _ _).2.2, add_u, forS, l__law_chain_6, x_rApp, at_P, app_Pu, len_P, s__law_chain_8, trim_new]
  try rfl

theorem chain_2_3 (hid : id < S0.length) (c : Nat) (s : Int) (ha : dg (nx s) 5 = 2) (hb : dg (nx (nx s)) 5 = 3) : ∃ nds k, Chn nds k ∧ nds.length ≤ 3 ∧ runF cf (c + 5) ("_law_chain", none) [.o id] (Z S0 id s) = .ok (.o S0.length) (Z S0 id (nx (nx (nx s))) ++ [plC nds]) := by
  refine ⟨_, _, (Chn.dis chn0), by simp, ?_⟩
  rw [e__law_chain]
  have h1 := r_dig0 hid (c + 3) s 5 (by decide)
  have h2 := r_dig hid (c + 3) (nx s) 5 [.lst [.p nSrc.node]] (by decide)
  have h3 := r_dig hid (c + 3) (nx (nx s)) 5 [.lst [.p nSrc.node]] (by decide)
  have h4 := r_events (c + 3)
  rw [ha] at h2
  rw [hb] at h3
  have e0 : W.p (.tup [.tup [.str ("source" : Str), .str ("s" : Str), .tup (F0.map fld)], .tup []]) = .p nSrc.node := rfl
  simp [b__law_chain, s__law_chain_1, s__law_chain_2, sz, h1, s__law_chain_3, s__law_chain_4, h4, Z_len, e0, s__law_chain_5, x_rCall, x_callT, h2, s__law_chain_7, intR, h3, (idx5 _ _ _ _ _ _).1, (idx5 _ _ _ _ _ _).2.1, (idx5 _ _ _ _ _ _).2.2, add_u, forS, l__law_chain_6, x_rApp, at_P, app_Pu, len_P, s__law_chain_8, trim_new]
  try rfl

theorem chain_2_4 (hid : id < S0.length) (c : Nat) (s : Int) (ha : dg (nx s) 5 = 2) (hb : dg (nx (nx s)) 5 = 4) : ∃ nds k, Chn nds k ∧ nds.length ≤ 3 ∧ runF cf (c + 5) ("_law_chain", none) [.o id] (Z S0 id s) = .ok (.o S0.length) (Z S0 id (nx (nx (nx s))) ++ [plC nds]) := by
  refine ⟨_, _, (Chn.frs chn0 (s5_of s)), by simp, ?_⟩
  rw [e__law_chain]
  have h1 := r_dig0 hid (c + 3) s 5 (by decide)
  have h2 := r_dig hid (c + 3) (nx s) 5 [.lst [.p nSrc.node]] (by decide)
  have h3 := r_dig hid (c + 3) (nx (nx s)) 5 [.lst [.p nSrc.node]] (by decide)
  have h4 := r_events (c + 3)
  rw [ha] at h2
  rw [hb] at h3
  have e0 : W.p (.tup [.tup [.str ("source" : Str), .str ("s" : Str), .tup (F0.map fld)], .tup []]) = .p nSrc.node := rfl
  simp [b__law_chain, s__law_chain_1, s__law_chain_2, sz, h1, s__law_chain_3, s__law_chain_4, h4, Z_len, e0, s__law_chain_5, x_rCall, x_callT, h2, s__law_chain_7, intR, h3, (idx5 _ _ _ _ _ _).1, (idx5 _ _ _ _ _ _).2.1, (idx5 _ _ _ _ _ _).2.2, add_u, forS, l__law_chain_6, x_rApp, at_P, app_Pu, len_P, s__law_chain_8, trim_new]
  try rfl

theorem chain_3_0 (hid : id < S0.length) (c : Nat) (s : Int) (ha : dg (nx s) 5 = 3) (hb : dg (nx (nx s)) 3 = 0) : ∃ nds k, Chn nds k ∧ nds.length ≤ 3 ∧ runF cf (c + 5) ("_law_chain", none) [.o id] (Z S0 id s) = .ok (.o S0.length) (Z S0 id (nx (nx (nx s))) ++ [plC nds]) := by
  refine ⟨_, _, (Chn.fil (Chn.dis chn0)), by simp, ?_⟩
  rw [e__law_chain]
  have h1 := r_dig0 hid (c + 3) s 5 (by decide)
  have h2 := r_dig hid (c + 3) (nx s) 5 [.lst [.p nSrc.node]] (by decide)
  have h3 := r_dig hid (c + 3) (nx (nx s)) 3 [.lst [.p nSrc.node]] (by decide)
  have h4 := r_events (c + 3)
  rw [ha] at h2
  rw [hb] at h3
  have e0 : W.p (.tup [.tup [.str ("source" : Str), .str ("s" : Str), .tup (F0.map fld)], .tup []]) = .p nSrc.node := rfl
  simp [b__law_chain, s__law_chain_1, s__law_chain_2, sz, h1, s__law_chain_3, s__law_chain_4, h4, Z_len, e0, s__law_chain_5, x_rCall, x_callT, h2, s__law_chain_7, intR, h3, (idx5 _ _ _ _ _ _).1, (idx5 _ _ _ _ _ _).2.1, (idx5 _ _ _ _ _ _).2.2, add_u, forS, l__law_chain_6, x_rApp, at_P, app_Pu, len_P, s__law_chain_8, trim_new]
  try rfl

theorem chain_3_1 (hid : id < S0.length) (c : Nat) (s : Int) (ha : dg (nx s) 5 = 3) (hb : dg (nx (nx s)) 3 = 1) : ∃ nds k, Chn nds k ∧ nds.length ≤ 3 ∧ runF cf (c + 5) ("_law_chain", none) [.o id] (Z S0 id s) = .ok (.o S0.length) (Z S0 id (nx (nx (nx s))) ++ [plC nds]) := by
  refine ⟨_, _, (Chn.map (Chn.dis chn0)), by simp, ?_⟩
  rw [e__law_chain]
  have h1 := r_dig0 hid (c + 3) s 5 (by decide)
  have h2 := r_dig hid (c + 3) (nx s) 5 [.lst [.p nSrc.node]] (by decide)
  have h3 := r_dig hid (c + 3) (nx (nx s)) 3 [.lst [.p nSrc.node]] (by decide)
  have h4 := r_events (c + 3)
  rw [ha] at h2
  rw [hb] at h3
  have e0 : W.p (.tup [.tup [.str ("source" : Str), .str ("s" : Str), .tup (F0.map fld)], .tup []]) = .p nSrc.node := rfl
  simp [b__law_chain, s__law_chain_1, s__law_chain_2, sz, h1, s__law_chain_3, s__law_chain_4, h4, Z_len, e0, s__law_chain_5, x_rCall, x_callT, h2, s__law_chain_7, intR, h3, (idx5 _ _ _ _ _ _).1, (idx5 _ _ _ _ _ _).2.1, (idx5 _ _ _ _ _ _).2.2, add_u, forS, l__law_chain_6, x_rApp, at_P, app_Pu, len_P, s__law_chain_8, trim_new]
  try rfl

theorem chain_3_2 (hid : id < S0.length) (c : Nat) (s : Int) (ha : dg (nx s) 5 = 3) (hb : dg (nx (nx s)) 3 = 2) : ∃ nds k, Chn nds k ∧ nds.length ≤ 3 ∧ runF cf (c + 5) ("_law_chain", none) [.o id] (Z S0 id s) = .ok (.o S0.length) (Z S0 id (nx (nx (nx s))) ++ [plC nds]) := by
  refine ⟨_, _, (Chn.dis chn0), by simp, ?_⟩
  rw [e__law_chain]
  have h1 := r_dig0 hid (c + 3) s 5 (by decide)
  have h2 := r_dig hid (c + 3) (nx s) 5 [.lst [.p nSrc.node]] (by decide)
  have h3 := r_dig hid (c + 3) (nx (nx s)) 3 [.lst [.p nSrc.node]] (by decide)
  have h4 := r_events (c + 3)
  rw [ha] at h2
  rw [hb] at h3
  have e0 : W.p (.tup [.tup [.str ("source" : Str), .str ("s" : Str), .tup (F0.map fld)], .tup []]) = .p nSrc.node := rfl
  simp [b__law_chain, s__law_chain_1, s__law_chain_2, sz, h1, s__law_chain_3, s__law_chain_4, h4, Z_len, e0, s__law_chain_5, x_rCall, x_callT, h2, s__law_chain_7, intR, h3, (idx5 _ _ _ _ _ _).1, (idx5 _ _ _ _ _ _).2.1, (idx5 _ _ _ _ _ _).2.2, add_u, forS, l__law_chain_6, x_rApp, at_P, app_Pu, len_P, s__law_chain_8, trim_new]
  try rfl

theorem chain_4_0 (hid : id < S0.length) (c : Nat) (s : Int) (ha : dg (nx s) 5 = 4) (hb : dg (nx (nx s)) 5 = 0) : ∃ nds k, Chn nds k ∧ nds.length ≤ 3 ∧ runF cf (c + 5) ("_law_chain", none) [.o id] (Z S0 id s) = .ok (.o S0.length) (Z S0 id (nx (nx (nx s))) ++ [plC nds]) := by
  refine ⟨_, _, (Chn.fil (Chn.frs chn0 (s5_of s))), by simp, ?_⟩
  rw [e__law_chain]
  have h1 := r_dig0 hid (c + 3) s 5 (by decide)
  have h2 := r_dig hid (c + 3) (nx s) 5 [.lst [.p nSrc.node]] (by decide)
  have h3 := r_dig hid (c + 3) (nx (nx s)) 5 [.lst [.p nSrc.node]] (by decide)
  have h4 := r_events (c + 3)
  rw [ha] at h2
  rw [hb] at h3
  have e0 : W.p (.tup [.tup [.str ("source" : Str), .str ("s" : Str), .tup (F0.map fld)], .tup []]) = .p nSrc.node := rfl
  simp [b__law_chain, s__law_chain_1, s__law_chain_2, sz, h1, s__law_chain_3, s__law_chain_4, h4, Z_len, e0, s__law_chain_5, x_rCall, x_callT, h2, s__law_chain_7, intR, h3, (idx5 _ _ _ _ _ _).1, (idx5 _ _ _ _ _ _).2.1, (idx5 _ _ _ _ _ _).2.2, add_u, forS, l__law_chain_6, x_rApp, at_P, app_Pu, len_P, s__law_chain_8, trim_new]
  try rfl

theorem chain_4_1 (hid : id < S0.length) (c : Nat) (s : Int) (ha : dg (nx s) 5 = 4) (hb : dg (nx (nx s)) 5 = 1) : ∃ nds k, Chn nds k ∧ nds.length ≤ 3 ∧ runF cf (c + 5) ("_law_chain", none) [.o id] (Z S0 id s) = .ok (.o S0.length) (Z S0 id (nx (nx (nx s))) ++ [plC nds]) := by
  refine ⟨_, _, (Chn.map (Chn.frs chn0 (s5_of s))), by simp, ?_⟩
  rw [e__law_chain]
  have h1 := r_dig0 hid (c + 3) s 5 (by decide)
  have h2 := r_dig hid (c + 3) (nx s) 5 [.lst [.p nSrc.node]] (by decide)
  have h3 := r_dig hid (c + 3) (nx (nx s)) 5 [.lst [.p nSrc.node]] (by decide)
  have h4 := r_events (c + 3)
  rw [ha] at h2
  rw [hb] at h3
  have e0 : W.p (.tup [.tup [.str ("source" : Str), .str ("s" : Str), .tup (F0.map fld)], .tup []]) = .p nSrc.node := rfl
  simp [b__law_chain, s__law_chain_1, s__law_chain_2, sz, h1, s__law_chain_3, s__law_chain_4, h4, Z_len, e0, s__law_chain_5, x_rCall, x_callT, h2, s__law_chain_7, intR, h3, (idx5 _ _ _ _ _ _).1, (idx5 _ _ _ _ _ _).2.1, (idx5 _ _ _ _ _ _).2.2, add_u, forS, l__law_chain_6, x_rApp, at_P, app_Pu, len_P, s__law_chain_8, trim_new]
  try rfl

theorem chain_4_2 (hid : id < S0.length) (c : Nat) (s : Int) (ha : dg (nx s) 5 = 4) (hb : dg (nx (nx s)) 5 = 2) : ∃ nds k, Chn nds k ∧ nds.length ≤ 3 ∧ runF cf (c + 5) ("_law_chain", none) [.o id] (Z S0 id s) = .ok (.o S0.length) (Z S0 id (nx (nx (nx s))) ++ [plC nds]) := by
  refine ⟨_, _, (Chn.frs chn0 (s5_of s)), by simp, ?_⟩
  rw [e__law_chain]
  have h1 := r_dig0 hid (c + 3) s 5 (by decide)
  have h2 := r_dig hid (c + 3) (nx s) 5 [.lst [.p nSrc.node]] (by decide)
  have h3 := r_dig hid (c + 3) (nx (nx s)) 5 [.lst [.p nSrc.node]] (by decide)
  have h4 := r_events (c + 3)
  rw [ha] at h2
  rw [hb] at h3
  have e0 : W.p (.tup [.tup [.str ("source" : Str), .str ("s" : Str), .tup (F0.map fld)], .tup []]) = .p nSrc.node := rfl
  simp [b__law_chain, s__law_chain_1, s__law_chain_2, sz, h1, s__law_chain_3, s__law_chain_4, h4, Z_len, e0, s__law_chain_5, x_rCall, x_callT, h2, s__law_chain_7, intR, h3, (idx5 _ _ _ _ _ _).1, (idx5 _ _ _ _ _ _).2.1, (idx5 _ _ _ _ _ _).2.2, add_u, forS, l__law_chain_6, x_rApp, at_P, app_Pu, len_P, s__law_chain_8, trim_new]
  try rfl

theorem chain_4_3 (hid : id < S0.length) (c : Nat) (s : Int) (ha : dg (nx s) 5 = 4) (hb : dg (nx (nx s)) 5 = 3) : ∃ nds k, Chn nds k ∧ nds.length ≤ 3 ∧ runF cf (c + 5) ("_law_chain", none) [.o id] (Z S0 id s) = .ok (.o S0.length) (Z S0 id (nx (nx (nx s))) ++ [plC nds]) := by
  refine ⟨_, _, (Chn.dis (Chn.frs chn0 (s5_of s))), by simp, ?_⟩
  rw [e__law_chain]
  have h1 := r_dig0 hid (c + 3) s 5 (by decide)
  have h2 := r_dig hid (c + 3) (nx s) 5 [.lst [.p nSrc.node]] (by decide)
  have h3 := r_dig hid (c + 3) (nx (nx s)) 5 [.lst [.p nSrc.node]] (by decide)
  have h4 := r_events (c + 3)
  rw [ha] at h2
  rw [hb] at h3
  have e0 : W.p (.tup [.tup [.str ("source" : Str), .str ("s" : Str), .tup (F0.map fld)], .tup []]) = .p nSrc.node := rfl
  simp [b__law_chain, s__law_chain_1, s__law_chain_2, sz, h1, s__law_chain_3, s__law_chain_4, h4, Z_len, e0, s__law_chain_5, x_rCall, x_callT, h2, s__law_chain_7, intR, h3, (idx5 _ _ _ _ _ _).1, (idx5 _ _ _ _ _ _).2.1, (idx5 _ _ _ _ _ _).2.2, add_u, forS, l__law_chain_6, x_rApp, at_P, app_Pu, len_P, s__law_chain_8, trim_new]
  try rfl

theorem chain_4_4 (hid : id < S0.length) (c : Nat) (s : Int) (ha : dg (nx s) 5 = 4) (hb : dg (nx (nx s)) 5 = 4) : ∃ nds k, Chn nds k ∧ nds.length ≤ 3 ∧ runF cf (c + 5) ("_law_chain", none) [.o id] (Z S0 id s) = .ok (.o S0.length) (Z S0 id (nx (nx (nx s))) ++ [plC nds]) := by
  refine ⟨_, _, (Chn.frs (Chn.frs chn0 (s5_of s)) (s5_of s)), by simp, ?_⟩
  rw [e__law_chain]
  have h1 := r_dig0 hid (c + 3) s 5 (by decide)
  have h2 := r_dig hid (c + 3) (nx s) 5 [.lst [.p nSrc.node]] (by decide)
  have h3 := r_dig hid (c + 3) (nx (nx s)) 5 [.lst [.p nSrc.node]] (by decide)
  have h4 := r_events (c + 3)
  rw [ha] at h2
  rw [hb] at h3
  have e0 : W.p (.tup [.tup [.str ("source" : Str), .str ("s" : Str), .tup (F0.map fld)], .tup []]) = .p nSrc.node := rfl
  simp [b__law_chain, s__law_chain_1, s__law_chain_2, sz, h1, s__law_chain_3, s__law_chain_4, h4, Z_len, e0, s__law_chain_5, x_rCall, x_callT, h2, s__law_chain_7, intR, h3, (idx5 _ _ _ _ _ _).1, (idx5 _ _ _ _ _ _).2.1, (idx5 _ _ _ _ _ _).2.2, add_u, forS, l__law_chain_6, x_rApp, at_P, app_Pu, len_P, s__law_chain_8, trim_new]
  try rfl

theorem r_chain (hid : id < S0.length) (c : Nat) (s : Int) : ∃ nds k, Chn nds k ∧ nds.length ≤ 3 ∧ runF cf (c + 5) ("_law_chain", none) [.o id] (Z S0 id s) = .ok (.o S0.length) (Z S0 id (nx (nx (nx s))) ++ [plC nds]) := by
  rcases dg5 (nx s) with ha | ha | ha | ha | ha
  · rcases dg5 (nx (nx s)) with hb | hb | hb | hb | hb
    · exact chain_0_0 hid c s ha hb
    · exact chain_0_1 hid c s ha hb
    · exact chain_0_2 hid c s ha hb
    · exact chain_0_3 hid c s ha hb
    · exact chain_0_4 hid c s ha hb
  · rcases dg5 (nx (nx s)) with hb | hb | hb | hb | hb
    · exact chain_1_0 hid c s ha hb
    · exact chain_1_1 hid c s ha hb
    · exact chain_1_2 hid c s ha hb
    · exact chain_1_3 hid c s ha hb
    · exact chain_1_4 hid c s ha hb
  · rcases dg5 (nx (nx s)) with hb | hb | hb | hb | hb
    · exact chain_2_0 hid c s ha hb
    · exact chain_2_1 hid c s ha hb
    · exact chain_2_2 hid c s ha hb
    · exact chain_2_3 hid c s ha hb
    · exact chain_2_4 hid c s ha hb
  · rcases dg3 (nx (nx s)) with hb | hb | hb
    · exact chain_3_0 hid c s ha hb
    · exact chain_3_1 hid c s ha hb
    · exact chain_3_2 hid c s ha hb
  · rcases dg5 (nx (nx s)) with hb | hb | hb | hb | hb
    · exact chain_4_0 hid c s ha hb
    · exact chain_4_1 hid c s ha hb
    · exact chain_4_2 hid c s ha hb
    · exact chain_4_3 hid c s ha hb
    · exact chain_4_4 hid c s ha hb

end
end T
end
section
set_option Elab.async false
set_option linter.all false
set_option maxRecDepth 1000000
set_option autoImplicit false
set_option maxHeartbeats 4000000
namespace T
open PySem PySem.Spec PyProof.Rows L2 Mp
/-! ### a store with the state and the plan -/
section
def Y (S1 : Store) (id p : Nat) (s : Int) (ws : List W) : Store := (S1.set id (.lst [.p (.int s)])).set p (.lst ws)
variable {S1 : Store} {id p : Nat}
theorem Y_len (s : Int) (ws : List W) : (Y S1 id p s ws).length = S1.length := by simp [Y]
theorem Y_id (h1 : id < S1.length) (h3 : id ≠ p) (s : Int) (ws : List W) : (Y S1 id p s ws)[id]? = some (.lst [.p (.int s)]) := by
  unfold Y
  rw [List.getElem?_set_ne (Ne.symm h3), List.getElem?_set_self h1]
theorem Y_p (h2 : p < S1.length) (s : Int) (ws : List W) : (Y S1 id p s ws)[p]? = some (.lst ws) := by
  unfold Y
  rw [List.getElem?_set_self (by simpa using h2)]
theorem Y_setI (h3 : id ≠ p) (s t : Int) (ws : List W) : (Y S1 id p s ws).set id (.lst [.p (.int t)]) = Y S1 id p t ws := by
  unfold Y
  rw [List.set_comm _ _ (Ne.symm h3), List.set_set]
theorem Y_setP (s : Int) (ws us : List W) : (Y S1 id p s ws).set p (.lst us) = Y S1 id p s us := by
  unfold Y
  rw [List.set_set]
theorem Y_dig (h1 : id < S1.length) (h3 : id ≠ p) (c : Nat) (s many : Int) (ws : List W) (h : many ≠ 0) : runF cf (c + 1) ("_law_digit", none) [.o id, .p (.int many)] (Y S1 id p s ws) = .ok (.p (.int (dg s many))) (Y S1 id p (nx s) ws) := by
  rw [r_digit' c _ id s many h (Y_id h1 h3 s ws), Y_setI h3]
theorem Y_app (h2 : p < S1.length) (s : Int) (ws : List W) (y : W) : appW (Y S1 id p s ws) p y = if ws.length < sizeLine then .ok (.p .non) (Y S1 id p s (ws ++ [y])) else .bad := by
  unfold appW
  rw [Y_p h2]
  simp only
  rw [Y_setP]
theorem Y_at (h2 : p < S1.length) (s : Int) (ws : List W) : lstAt (Y S1 id p s ws) p = true := by
  unfold lstAt
  rw [Y_p h2]
theorem Y_lenR (h2 : p < S1.length) (s : Int) (ws : List W) : lenR (Y S1 id p s ws) (.o p) = some (.int (ws.length : Int)) := lenR_o _ (Y_p h2 s _)
theorem Y_src (h2 : p < S1.length) (s : Int) (ws : List W) : srcOf (Y S1 id p s ws) (.o p) = some ⟨ws, some p⟩ := by
  unfold srcOf
  simp only
  rw [Y_p h2]
theorem Y_trim (s : Int) (ws : List W) (w : W) : trim S1.length w (Y S1 id p s ws) = Y S1 id p s ws := trim_le (by rw [Y_len]; exact Nat.le_refl _)
/-- is a node distinct -/
def dsc (d : Nd) : Bool := d.w == ("distinct" : Str)
end
/-- the fan -/
theorem r_fan (c : Nat) (S : Store) (nds : List Nd) (hp : 0 < nds.length) (hl : nds.length ≤ 8) (k : Str) : runF cf (c + 1) ("_law_fan", none) [.p (.lst (nds.map Nd.node))] S = .ok (.o S.length) (S ++ [plC ((nds ++ [nFil (nds.length - 1) k]) ++ [nUni (nds.length - 1) nds.length k])]) := by
  rw [e__law_fan]
  have hsub : ((nds.length : Int) - 1) = ((nds.length - 1 : Nat) : Int) := by omega
  have hadd : (((nds.length - 1 : Nat) : Int) + 1) = (nds.length : Int) := by omega
  have hz : nds.length ≤ 16777214 := by omega
  have hcell : Cell.lst (List.map (W.p ∘ Nd.node) nds ++ [W.p (nFil (nds.length - 1) k).node, W.p (nUni (nds.length - 1) nds.length k).node]) = plC ((nds ++ [nFil (nds.length - 1) k]) ++ [nUni (nds.length - 1) nds.length k]) := by
    unfold plC
    simp
  have e1 : P.tup [.tup [.str ("filter" : Str), .tup [.str ("binary" : Str), .str ("<" : Str), .tup [.str ("value" : Str), .int 0], .tup [.str ("column" : Str), .str ("price" : Str)]]], .tup [.int ((nds.length - 1 : Nat) : Int)]] = (nFil (nds.length - 1) k).node := rfl
  have e2 : P.tup [.tup [.str ("union" : Str)], .tup [.int ((nds.length - 1 : Nat) : Int), .int (nds.length : Int)]] = (nUni (nds.length - 1) nds.length k).node := rfl
  rw [← hcell]
  simp [b__law_fan, s__law_fan_1, hsub, s__law_fan_2, sz, s__law_fan_3, x_aCat, hadd, e1, e2, hz, trim_new]
/-! ### the end of a plan -/
section
variable {S1 : Store} {id p : Nat}
theorem c_end (h2 : p < S1.length) (s : Int) (nds : List Nd) (hok : ∀ d ∈ nds, PyData.strOk d.w = true) (call : CallT) (e0 e1 e2 e3 e4 e5 e6 e7 e8 : Option W) : compS ⟨nds.map (W.p ∘ Nd.node), some p⟩ (stepG (.one 8) (t__law_ending_6 call) (c__law_ending_7 call) [e0, e1, e2, e3, e4, e5, e6, e7, e8]) (nds.map (W.p ∘ Nd.node)) (Y S1 id p s (nds.map (W.p ∘ Nd.node))) = .ok ((nds.filter dsc).map (W.p ∘ Nd.node)) (Y S1 id p s (nds.map (W.p ∘ Nd.node))) := by
  refine compS_flt (src := ⟨nds.map (W.p ∘ Nd.node), some p⟩) (f := W.p ∘ Nd.node) (g := W.p ∘ Nd.node) (p := dsc) (Y_p h2 s _) nds (fun d hd => ?_)
  have hq := eq_s d.w "distinct" (hok d hd) (by simp)
  have hdd : dsc d = (d.w == ("distinct" : Str)) := rfl
  cases hw : (d.w == ("distinct" : Str)) with
  | true => rw [hw] at hq; simp [stepG, t__law_ending_6, c__law_ending_7, Nd.node, Nd.op, hq, hdd, hw]
  | false => rw [hw] at hq; simp [stepG, t__law_ending_6, c__law_ending_7, Nd.node, Nd.op, hq, hdd, hw]
end
end T
end
section
set_option Elab.async false
set_option linter.all false
set_option maxRecDepth 1000000
set_option autoImplicit false
set_option maxHeartbeats 4000000
namespace T
open PySem PySem.Spec PyProof.Rows L2 Mp
section
variable {S1 : Store} {id p : Nat}
/-- the store behind: the state drawn on, the plan's cell as it may be -/
def Y2 (S1 : Store) (id p : Nat) (s : Int) (c : Cell) : Store := (S1.set id (.lst [.p (.int s)])).set p c
theorem Y_2 (s : Int) (ws : List W) : Y S1 id p s ws = Y2 S1 id p s (.lst ws) := rfl
theorem Y2_trim (s : Int) (c : Cell) (w : W) : trim S1.length w (Y2 S1 id p s c) = Y2 S1 id p s c := trim_le (by simp [Y2])
theorem Y_frz (h2 : p < S1.length) (s : Int) (nds : List Nd) : frzR (.ok (.o p) (Y S1 id p s (nds.map (W.p ∘ Nd.node)))) = .ok (.lst (nds.map Nd.node)) (Y2 S1 id p s (.fz (.lst (nds.map Nd.node)))) := by
  have h := frz_o (S := Y S1 id p s (nds.map (W.p ∘ Nd.node))) (id := p) (ds := nds.map Nd.node) (by rw [Y_p h2, List.map_map])
  rw [h]
  unfold Y Y2
  rw [List.set_set]
def q3 (i : Int) : Q3 := if i = 0 then .a else if i = 1 then .b else .c
theorem wsOk {nds : List Nd} (h : Ivr nds) : ∀ d ∈ nds, PyData.strOk d.w = true := fun d hd => by
  obtain ⟨i, hi⟩ := List.mem_iff_getElem?.mp hd
  exact (h.ok i d hi).1.ws
theorem r_counts (c : Nat) : runF cf (c + 1) ("_law_counts", none) [] [] = .ok (.p (.tup [agg "n" "count" .non, agg "m" "most" (.str "price")])) [] := by kernel_rfl
theorem keys_ix (S : Store) (i : Int) (h : i = 0 ∨ i = 1 ∨ i = 2) : idxW S (.p (.tup [.tup [.str ("user" : Str)], .tup [], .tup [.str ("price" : Str), .str ("user" : Str)]])) (.int i) = some (.p (keysP (q3 i))) := by
  rcases h with rfl | rfl | rfl
  · rfl
  · rfl
  · rfl
theorem win_ix (S : Store) (s i : Int) (h : i = 0 ∨ i = 1 ∨ i = 2) : idxW S (.p (.tup [.tup [.str ("tumble" : Str), .int s], .tup [.str ("hop" : Str), .int (s + 2), .int 2], .tup [.str ("session" : Str), .int s]])) (.int i) = some (.p (winP s (q3 i))) := by
  rcases h with rfl | rfl | rfl
  · rfl
  · rfl
  · rfl
theorem fil_any (nds : List Nd) : ((nds.filter dsc).length = 0) ↔ (nds.any fun d => d.w == ("distinct" : Str)) = false := by
  rw [List.length_eq_zero_iff, List.filter_eq_nil_iff, List.any_eq_false]
  rfl
end
end T
end
section
set_option Elab.async false
set_option linter.all false
set_option maxRecDepth 1000000
set_option autoImplicit false
set_option maxHeartbeats 4000000
namespace T
open PySem PySem.Spec PyProof.Rows L2 Mp
section
variable {S1 : Store} {id p : Nat}
theorem datsR_c {α : Type} (S : Store) (xs : List α) (h : α → P) : datsR (xs.map (W.p ∘ h)) S = .ok (.p (.lst (xs.map h))) S := datsR_m S xs h
theorem end_plus (h1 : id < S1.length) (h2 : p < S1.length) (h3 : id ≠ p) (c : Nat) (s : Int) {nds : List Nd} {k : Str} (hc : Chn nds k) (hl : nds.length ≤ 5)
    (hb : ¬ (dg s 6 < 3 ∧ (nds.filter dsc).length = 0)) :
    ∃ nds' s' cc, Fine nds' ∧ runF cf (c + 6) ("_law_ending", none) [.o id, .o p] (Y S1 id p s (nds.map (W.p ∘ Nd.node))) = .ok (.p (.lst (nds'.map Nd.node))) (Y2 S1 id p s' cc) := by
  have hd1 := Y_dig (S1 := S1) (p := p) h1 h3 (c + 4) s 6 (nds.map (W.p ∘ Nd.node)) (by decide)
  have hd2 := Y_dig (S1 := S1) (p := p) h1 h3 (c + 4) (nx s) 5 (nds.map (W.p ∘ Nd.node)) (by decide)
  have hd3 := Y_dig (S1 := S1) (p := p) h1 h3 (c + 4) (nx (nx s)) 3 (nds.map (W.p ∘ Nd.node)) (by decide)
  have hlen := Y_lenR (id := id) h2
  have hk := keys_ix (Y S1 id p (nx (nx (nx s))) (nds.map (W.p ∘ Nd.node))) (dg (nx (nx s)) 3) (dg3 _)
  have hsrc := Y_src (id := id) h2 (nx (nx (nx s))) (nds.map (W.p ∘ Nd.node))
  have hce := c_end (id := id) h2 (nx (nx (nx s))) nds (wsOk hc.iv)
  have hfz := Y_frz (id := id) h2 (nx (nx (nx s))) nds
  have hpos := hc.pos
  have hsub : ((nds.length : Int) - 1) = ((nds.length - 1 : Nat) : Int) := by omega
  have hls : nds.length ≤ 16777216 := by omega
  have hfl : (nds.filter dsc).length ≤ nds.length := List.length_filter_le _ _
  have hdd := datsR_m (Y S1 id p (nx (nx (nx s))) (nds.map (W.p ∘ Nd.node))) (nds.filter dsc) Nd.node
  have hs5 := s5_of (nx s)
  have htr := Y2_trim (S1 := S1) (id := id) (p := p)
  have hyl := Y_len (S1 := S1) (id := id) (p := p)
  have hf0 : nds[0]? = some nSrc := hc.fst
  have hcc := r_counts (c + 4)
  have hnew : ∀ d : Nd, nds.map Nd.node ++ [d.node] = (nds ++ [d]).map Nd.node := fun d => by simp
  have hz : nds.length + 1 ≤ 16777216 := by omega
  rw [e__law_ending]
  by_cases h4 : dg s 6 = 4
  · refine ⟨_, nx (nx (nx s)), .fz (.lst (nds.map Nd.node)), Fine.of (hc.top (q3 (dg (nx (nx s)) 3)) hs5) (by rw [List.length_append, List.length_singleton]; omega) (by rw [List.getElem?_append_left hc.pos]; exact hf0), ?_⟩
    have e1 : P.tup [.tup [.str ("top" : Str), keysP (q3 (dg (nx (nx s)) 3)), .tup [.tup [.str ("price" : Str), .str ("down" : Str)]], .int (1 + dg (nx s) 5)], .tup [.int ((nds.length - 1 : Nat) : Int)]] = (nTop (nds.length - 1) (q3 (dg (nx (nx s)) 3)) (1 + dg (nx s) 5)).node := rfl
    have hlt : ¬ dg s 6 < 3 := by omega
    simp [b__law_ending, s__law_ending_1, x_rCall, x_callT, hd1, s__law_ending_2, hd2, s__law_ending_3, hlen, hsub, s__law_ending_4, hd3, hk, s__law_ending_5, s__law_ending_8, hsrc, hls, hce, datsR_c, sz, s__law_ending_9, x_tBool1, x_tBool2, hlt, s__law_ending_10, h4, hfz, add_u, e1, hz, hyl, htr]
  · refine ⟨_, nx (nx (nx s)), .fz (.lst (nds.map Nd.node)), Fine.of (hc.grp (q3 (dg (nx (nx s)) 3))) (by rw [List.length_append, List.length_singleton]; omega) (by rw [List.getElem?_append_left hc.pos]; exact hf0), ?_⟩
    have e1 : P.tup [.tup [.str ("group" : Str), keysP (q3 (dg (nx (nx s)) 3)), .tup [agg "n" "count" .non, agg "m" "most" (.str "price")]], .tup [.int ((nds.length - 1 : Nat) : Int)]] = (nGrp (nds.length - 1) (q3 (dg (nx (nx s)) 3))).node := rfl
    by_cases hlt : dg s 6 < 3
    · have hne : ¬ (nds.filter dsc).length = 0 := fun z => hb ⟨hlt, z⟩
      have hne2 : (((nds.filter dsc).length : Int) == 0) = false := by
        rw [beq_eq_false_iff_ne]
        omega
      simp [b__law_ending, s__law_ending_1, x_rCall, x_callT, hd1, s__law_ending_2, hd2, s__law_ending_3, hlen, hsub, s__law_ending_4, hd3, hk, s__law_ending_5, s__law_ending_8, hsrc, hls, hce, datsR_c, sz, s__law_ending_9, x_tBool1, x_tBool2, hlt, hne2, s__law_ending_10, h4, s__law_ending_11, hcc, hfz, add_u, e1, hz, hyl, htr]
    · simp [b__law_ending, s__law_ending_1, x_rCall, x_callT, hd1, s__law_ending_2, hd2, s__law_ending_3, hlen, hsub, s__law_ending_4, hd3, hk, s__law_ending_5, s__law_ending_8, hsrc, hls, hce, datsR_c, sz, s__law_ending_9, x_tBool1, x_tBool2, hlt, s__law_ending_10, h4, s__law_ending_11, hcc, hfz, add_u, e1, hz, hyl, htr]
end
end T
end
section
set_option Elab.async false
set_option linter.all false
set_option maxRecDepth 1000000
set_option autoImplicit false
set_option maxHeartbeats 4000000
namespace T
open PySem PySem.Spec PyProof.Rows L2 Mp
section
variable {S1 : Store} {id p : Nat}
theorem cut_take {α : Type} (xs : List α) (n : Nat) : cutL xs none (some (n : Int)) = xs.take n := by
  unfold cutL
  rw [HT.sIx_none, HT.sIx_nat, List.drop_zero]
  apply List.ext_getElem?
  intro i
  rw [List.getElem?_take, List.getElem?_take]
  by_cases h : i < xs.length
  · by_cases h2 : i < n
    · rw [if_pos (by omega), if_pos h2]
    · rw [if_neg (by omega), if_neg h2]
  · rw [List.getElem?_eq_none (by omega)]
    split <;> split <;> rfl
theorem Y_sl (h2 : p < S1.length) (s : Int) (ds : List P) (n : Nat) : sliceR (Y S1 id p s (ds.map W.p)) (.o p) none (some (n : Int)) = some (.lst (ds.take n)) := by
  have hs : seqOf (Y S1 id p s (ds.map W.p)) (.o p) = some (ds.map W.p) := by
    unfold seqOf
    simp only
    rw [Y_p h2]
  show (match seqOf (Y S1 id p s (ds.map W.p)) (.o p) with
    | some ws => (datsOf (cutL ws none (some (n : Int)))).map P.lst
    | none => _) = _
  rw [hs]
  simp only
  rw [cut_take, ← List.map_take, datsOf_map]
  rfl
end
end T
end
section
set_option Elab.async false
set_option linter.all false
set_option maxRecDepth 1000000
set_option autoImplicit false
set_option maxHeartbeats 4000000
namespace T
open PySem PySem.Spec PyProof.Rows L2 Mp
section
variable {S1 : Store} {id p : Nat}
theorem end_win (h1 : id < S1.length) (h2 : p < S1.length) (h3 : id ≠ p) (c : Nat) (s : Int) {nds : List Nd} {k : Str} (hc0 : Chn nds k) (hl : nds.length ≤ 5)
    (hb : dg s 6 < 3 ∧ (nds.filter dsc).length = 0) :
    ∃ nds' s' cc, Fine nds' ∧ runF cf (c + 6) ("_law_ending", none) [.o id, .o p] (Y S1 id p s (nds.map (W.p ∘ Nd.node))) = .ok (.p (.lst (nds'.map Nd.node))) (Y2 S1 id p s' cc) := by
  obtain rfl : k = "events" := hc0.ev ((fil_any nds).mp hb.2)
  have hc := hc0
  have hd1 := Y_dig (S1 := S1) (p := p) h1 h3 (c + 4) s 6 (nds.map (W.p ∘ Nd.node)) (by decide)
  have hd2 := Y_dig (S1 := S1) (p := p) h1 h3 (c + 4) (nx s) 5 (nds.map (W.p ∘ Nd.node)) (by decide)
  have hd3 := Y_dig (S1 := S1) (p := p) h1 h3 (c + 4) (nx (nx s)) 3 (nds.map (W.p ∘ Nd.node)) (by decide)
  have hlen := Y_lenR (S1 := S1) (id := id) h2
  have hk := keys_ix (Y S1 id p (nx (nx (nx s))) (nds.map (W.p ∘ Nd.node))) (dg (nx (nx s)) 3) (dg3 _)
  have ha : dg s 6 = 0 ∨ dg s 6 = 1 ∨ dg s 6 = 2 := by have := (dg_rng s (m := 6) (by decide)).1; omega
  have hw := win_ix (Y S1 id p (nx (nx (nx s))) (nds.map (W.p ∘ Nd.node))) (1 + dg (nx s) 5) (dg s 6) ha
  have hsrc := Y_src (id := id) h2 (nx (nx (nx s))) (nds.map (W.p ∘ Nd.node))
  have hce := c_end (id := id) h2 (nx (nx (nx s))) nds (wsOk hc.iv)
  have hpos := hc.pos
  have hsub : ((nds.length : Int) - 1) = ((nds.length - 1 : Nat) : Int) := by omega
  have hls : nds.length ≤ 16777216 := by omega
  have hls1 : nds.length < 16777216 := by omega
  have hls2 : nds.length + 1 < 16777216 := by omega
  have hs5 := s5_of (nx s)
  have htr := Y_trim (S1 := S1) (id := id) (p := p)
  have hyl := Y_len (S1 := S1) (id := id) (p := p)
  have happ := Y_app (S1 := S1) (id := id) h2
  have hat := Y_at (S1 := S1) (id := id) h2
  have hf0 : nds[0]? = some nSrc := hc.fst
  let wn : Nd := nWin (nds.length - 1) (q3 (dg (nx (nx s)) 3)) (q3 (dg s 6)) (1 + dg (nx s) 5)
  have e1 : P.tup [.tup [.str ("window" : Str), keysP (q3 (dg (nx (nx s)) 3)), winP (1 + dg (nx s) 5) (q3 (dg s 6)), .tup [.tup [.str ("n" : Str), .str ("count" : Str), .non], .tup [.str ("f" : Str), .str ("last" : Str), .str ("price" : Str)]]], .tup [.int ((nds.length - 1 : Nat) : Int)]] = wn.node := rfl
  have e2 : P.tup [.tup [.str ("group" : Str), .tup [.str ("n" : Str)], .tup [.tup [.str ("c" : Str), .str ("count" : Str), .non]]], .tup [.int (nds.length : Int)]] = (nGr1 nds.length).node := rfl
  have hd4 := Y_dig (S1 := S1) (p := p) h1 h3 (c + 4) (nx (nx (nx s))) 2 (nds.map (W.p ∘ Nd.node) ++ [W.p wn.node, W.p (nGr1 nds.length).node]) (by decide)
  have hsl := fun n => Y_sl (S1 := S1) (id := id) h2 (nx (nx (nx (nx s)))) (nds.map Nd.node ++ [wn.node, (nGr1 nds.length).node]) n
  have hmm : (nds.map Nd.node ++ [wn.node, (nGr1 nds.length).node]).map W.p = nds.map (W.p ∘ Nd.node) ++ [W.p wn.node, W.p (nGr1 nds.length).node] := by simp
  rw [hmm] at hsl
  have hlt := hb.1
  have h0 := hb.2
  rw [e__law_ending]
  rcases dg2 (nx (nx (nx s))) with hb2 | hb2
  · refine ⟨_, nx (nx (nx (nx s))), .lst (nds.map (W.p ∘ Nd.node) ++ [W.p wn.node, W.p (nGr1 nds.length).node]), Fine.of (hc.wig (q3 (dg (nx (nx s)) 3)) (q3 (dg s 6)) hs5) (by simp; omega) (by rw [List.append_assoc, List.getElem?_append_left hc.pos]; exact hf0), ?_⟩
    rw [hb2] at hd4
    have hs2 := hsl (nds.length + 2)
    have hi2 : ((nds.length : Int) + 2) = ((nds.length + 2 : Nat) : Int) := by omega
    rw [← hi2] at hs2
    rw [← Y_2]
    simp [b__law_ending, s__law_ending_1, x_rCall, x_callT, hd1, s__law_ending_2, hd2, s__law_ending_3, hlen, hsub, s__law_ending_4, hd3, hk, s__law_ending_5, s__law_ending_8, hsrc, hls, hce, datsR_c, sz, s__law_ending_9, x_tBool1, x_tBool2, hlt, h0, x_rApp, hw, hat, happ, e1, hls1, e2, hls2, x_part1, hd4, hs2, hyl, htr, List.append_assoc]
    rw [List.take_of_length_le (by simp)]
  · refine ⟨_, nx (nx (nx (nx s))), .lst (nds.map (W.p ∘ Nd.node) ++ [W.p wn.node, W.p (nGr1 nds.length).node]), Fine.of (hc.win (q3 (dg (nx (nx s)) 3)) (q3 (dg s 6)) hs5) (by simp; omega) (by rw [List.getElem?_append_left hc.pos]; exact hf0), ?_⟩
    rw [hb2] at hd4
    have hs2 := hsl (nds.length + 1)
    have hi2 : ((nds.length : Int) + 2 - 1) = ((nds.length + 1 : Nat) : Int) := by omega
    rw [← hi2] at hs2
    rw [← Y_2]
    simp [b__law_ending, s__law_ending_1, x_rCall, x_callT, hd1, s__law_ending_2, hd2, s__law_ending_3, hlen, hsub, s__law_ending_4, hd3, hk, s__law_ending_5, s__law_ending_8, hsrc, hls, hce, datsR_c, sz, s__law_ending_9, x_tBool1, x_tBool2, hlt, h0, x_rApp, hw, hat, happ, e1, hls1, e2, hls2, x_part1, hd4, hs2, hyl, htr, List.append_assoc]
    have hl1 : nds.length + 1 = (nds.map Nd.node ++ [wn.node]).length := by simp
    rw [show nds.map Nd.node ++ [wn.node, (nGr1 nds.length).node] = (nds.map Nd.node ++ [wn.node]) ++ [(nGr1 nds.length).node] by simp, hl1, List.take_left]
theorem r_ending (h1 : id < S1.length) (h2 : p < S1.length) (h3 : id ≠ p) (c : Nat) (s : Int) {nds : List Nd} {k : Str} (hc : Chn nds k) (hl : nds.length ≤ 5) :
    ∃ nds' s' cc, Fine nds' ∧ runF cf (c + 6) ("_law_ending", none) [.o id, .o p] (Y S1 id p s (nds.map (W.p ∘ Nd.node))) = .ok (.p (.lst (nds'.map Nd.node))) (Y2 S1 id p s' cc) := by
  by_cases h : dg s 6 < 3 ∧ (nds.filter dsc).length = 0
  · exact end_win h1 h2 h3 c s hc hl h
  · exact end_plus h1 h2 h3 c s hc hl h
end
end T
end
section
set_option Elab.async false
set_option linter.all false
set_option maxRecDepth 1000000
set_option autoImplicit false
set_option maxHeartbeats 4000000
namespace T
open PySem PySem.Spec PyProof.Rows L2 Mp
def b2 (i : Int) : B2 := if i = 0 then .a else .b
theorem on_ix (S : Store) (i : Int) (h : i = 0 ∨ i = 1) : idxW S (.p (.tup [.tup [.tup [.str ("user" : Str), .str ("name" : Str)]], .tup [.tup [.str ("price" : Str), .str ("size" : Str)], .tup [.str ("user" : Str), .str ("name" : Str)]]])) (.int i) = some (.p (onP (b2 i))) := by
  rcases h with rfl | rfl <;> rfl
theorem keep_ix (S : Store) (i : Int) (h : i = 0 ∨ i = 1) : idxW S (.p (.tup [.str ("inner" : Str), .str ("left" : Str)])) (.int i) = some (.p (.str (keepL (b2 i)))) := by
  rcases h with rfl | rfl <;> rfl
theorem r_others (c : Nat) : runF cf (c + 1) ("_law_others", none) [] [] = .ok (.p (.tup (F1.map fld))) [] := by kernel_rfl
theorem l7_of (s : Int) : L7 (dg s 7 - 4) := by
  have := dg_rng s (m := 7) (by decide)
  unfold L7
  omega
theorem d5_of (s : Int) : D5 (dg s 5) := dg5 s
section
variable {S1 : Store} {id p : Nat}
theorem c_two (h2 : p < S1.length) (s : Int) (nds : List Nd) (hok : ∀ d ∈ nds, PyData.strOk d.w = true) (call : CallT) (e0 e1 e2 e3 e4 e5 e6 e7 e8 e9 : Option W) : compS ⟨nds.map (W.p ∘ Nd.node), some p⟩ (stepG (.one 8) (t__law_two_6 call) (c__law_two_7 call) [e0, e1, e2, e3, e4, e5, e6, e7, e8, e9]) (nds.map (W.p ∘ Nd.node)) (Y S1 id p s (nds.map (W.p ∘ Nd.node))) = .ok ((nds.filter dsc).map (W.p ∘ Nd.node)) (Y S1 id p s (nds.map (W.p ∘ Nd.node))) := by
  refine compS_flt (src := ⟨nds.map (W.p ∘ Nd.node), some p⟩) (f := W.p ∘ Nd.node) (g := W.p ∘ Nd.node) (p := dsc) (Y_p h2 s _) nds (fun d hd => ?_)
  have hq := eq_s d.w "distinct" (hok d hd) (by simp)
  have hdd : dsc d = (d.w == ("distinct" : Str)) := rfl
  cases hw : (d.w == ("distinct" : Str)) with
  | true => rw [hw] at hq; simp [stepG, t__law_two_6, c__law_two_7, Nd.node, Nd.op, hq, hdd, hw]
  | false => rw [hw] at hq; simp [stepG, t__law_two_6, c__law_two_7, Nd.node, Nd.op, hq, hdd, hw]
end
end T
end
section
set_option Elab.async false
set_option linter.all false
set_option maxRecDepth 1000000
set_option autoImplicit false
set_option maxHeartbeats 4000000
namespace T
open PySem PySem.Spec PyProof.Rows L2 Mp
section
variable {S1 : Store} {id p : Nat}
theorem Y2_id (h1 : id < S1.length) (h3 : id ≠ p) (s : Int) (cc : Cell) : (Y2 S1 id p s cc)[id]? = some (.lst [.p (.int s)]) := by
  unfold Y2
  rw [List.getElem?_set_ne (Ne.symm h3), List.getElem?_set_self h1]
theorem Y2_setI (h3 : id ≠ p) (s t : Int) (cc : Cell) : (Y2 S1 id p s cc).set id (.lst [.p (.int t)]) = Y2 S1 id p t cc := by
  unfold Y2
  rw [List.set_comm _ _ (Ne.symm h3), List.set_set]
theorem Y2_dig (h1 : id < S1.length) (h3 : id ≠ p) (c : Nat) (s many : Int) (cc : Cell) (h : many ≠ 0) : runF cf (c + 1) ("_law_digit", none) [.o id, .p (.int many)] (Y2 S1 id p s cc) = .ok (.p (.int (dg s many))) (Y2 S1 id p (nx s) cc) := by
  rw [r_digit' c _ id s many h (Y2_id h1 h3 s cc), Y2_setI h3]
theorem r_two (h1 : id < S1.length) (h2 : p < S1.length) (h3 : id ≠ p) (c : Nat) (s : Int) {nds : List Nd} {k : Str} (hc : Chn nds k) (hl : nds.length ≤ 5) :
    ∃ nds' s' cc, Fine nds' ∧ runF cf (c + 6) ("_law_two", none) [.o id, .o p] (Y S1 id p s (nds.map (W.p ∘ Nd.node))) = .ok (.p (.lst (nds'.map Nd.node))) (Y2 S1 id p s' cc) := by
  have dig := fun s many ws h => Y_dig (S1 := S1) (p := p) h1 h3 (c + 4) s many ws h
  have hd1 := dig s 2 (nds.map (W.p ∘ Nd.node)) (by decide)
  have hd2 := dig (nx s) 2 (nds.map (W.p ∘ Nd.node)) (by decide)
  have hd3 := dig (nx (nx s)) 7 (nds.map (W.p ∘ Nd.node)) (by decide)
  have hd4 := dig (nx (nx (nx s))) 4 (nds.map (W.p ∘ Nd.node)) (by decide)
  have hlen := Y_lenR (S1 := S1) (id := id) h2
  have ho := on_ix (Y S1 id p (nx s) (nds.map (W.p ∘ Nd.node))) (dg s 2) (dg2 _)
  have hk := keep_ix (Y S1 id p (nx (nx s)) (nds.map (W.p ∘ Nd.node))) (dg (nx s) 2) (dg2 _)
  have hsrc := Y_src (id := id) h2 (nx (nx (nx (nx s)))) (nds.map (W.p ∘ Nd.node))
  have hce := c_two (id := id) h2 (nx (nx (nx (nx s)))) nds (wsOk hc.iv)
  have hpos := hc.pos
  have hsub : ((nds.length : Int) - 1) = ((nds.length - 1 : Nat) : Int) := by omega
  have hls : nds.length ≤ 16777216 := by omega
  have hls1 : nds.length < 16777216 := by omega
  have hls2 : nds.length + 1 < 16777216 := by omega
  have hls3 : nds.length + 2 < 16777216 := by omega
  have hls4 : nds.length + 1 + 1 ≤ 16777216 := by omega
  have htr := Y2_trim (S1 := S1) (id := id) (p := p)
  have hyl := Y_len (S1 := S1) (id := id) (p := p)
  have happ := Y_app (S1 := S1) (id := id) h2
  have hat := Y_at (S1 := S1) (id := id) h2
  have hf0 : nds[0]? = some nSrc := hc.fst
  have hot := r_others (c + 4)
  have e0 : W.p (.tup [.tup [.str ("source" : Str), .str ("t" : Str), .tup (F1.map fld)], .tup []]) = .p nSrcT.node := rfl
  have hadd : (((nds.length - 1 : Nat) : Int) + 1) = (nds.length : Int) := by omega
  have hadd2 : (((nds.length - 1 : Nat) : Int) + 2) = ((nds.length + 1 : Nat) : Int) := by omega
  have hmm : nds.map (W.p ∘ Nd.node) ++ [W.p nSrcT.node] = (nds ++ [nSrcT]).map (W.p ∘ Nd.node) := by simp
  have hfz := Y_frz (S1 := S1) (id := id) h2 (nx (nx (nx (nx s)))) (nds ++ [nSrcT])
  rw [← hmm] at hfz
  rw [e__law_two]
  by_cases ha : dg (nx (nx (nx s))) 4 = 0
  · have hfn := Y_frz (S1 := S1) (id := id) h2 (nx (nx (nx (nx s)))) (((nds ++ [nSrcT]) ++ [nMpT nds.length]) ++ [nUni (nds.length - 1) (nds.length + 1) k])
    refine ⟨_, nx (nx (nx (nx s))), .fz (.lst ((((nds ++ [nSrcT]) ++ [nMpT nds.length]) ++ [nUni (nds.length - 1) (nds.length + 1) k]).map Nd.node)), Fine.of hc.uni (by simp; omega) (by rw [List.append_assoc, List.append_assoc, List.getElem?_append_left hc.pos]; exact hf0), ?_⟩
    have e1 : P.tup [.tup [.str ("map" : Str), .tup [.tup [.str ("user" : Str), .tup [.str ("column" : Str), .str ("name" : Str)]], .tup [.str ("price" : Str), .tup [.str ("column" : Str), .str ("size" : Str)]]]], .tup [.int (nds.length : Int)]] = (nMpT nds.length).node := rfl
    have e2 : P.tup [.tup [.str ("union" : Str)], .tup [.int ((nds.length - 1 : Nat) : Int), .int ((nds.length : Int) + 1)]] = (nUni (nds.length - 1) (nds.length + 1) k).node := by simp [nUni, Nd.node, Nd.op, inP]
    simp at hfn
    simp [b__law_two, s__law_two_1, x_rCall, x_callT, hd1, ho, s__law_two_2, hd2, hk, s__law_two_3, hd3, s__law_two_4, hlen, hsub, s__law_two_5, hd4, s__law_two_8, hsrc, hls, hce, datsR_c, sz, s__law_two_9, hot, x_rApp, hat, happ, e0, hls1, s__law_two_10, s__law_two_11, ha, hadd, hadd2, e1, e2, hls2, hls3, hyl, htr, hfn]
  · by_cases hj : dg (nx (nx (nx s))) 4 = 1 ∨ ¬ (nds.filter dsc).length = 0
    · refine ⟨_, nx (nx (nx (nx s))), .fz (.lst ((nds ++ [nSrcT]).map Nd.node)), Fine.of (hc.joi (b2 (dg s 2))) (by simp; omega) (by rw [List.append_assoc, List.getElem?_append_left hc.pos]; exact hf0), ?_⟩
      have e1 : P.tup [.tup [.str ("join" : Str), onP (b2 (dg s 2))], .tup [.int ((nds.length - 1 : Nat) : Int), .int (nds.length : Int)]] = (nJoi (nds.length - 1) nds.length (b2 (dg s 2))).node := rfl
      by_cases h1' : dg (nx (nx (nx s))) 4 = 1
      · simp [b__law_two, s__law_two_1, x_rCall, x_callT, hd1, ho, s__law_two_2, hd2, hk, s__law_two_3, hd3, s__law_two_4, hlen, hsub, s__law_two_5, hd4, s__law_two_8, hsrc, hls, hce, datsR_c, sz, s__law_two_9, hot, x_rApp, hat, happ, e0, hls1, s__law_two_10, s__law_two_11, ha, s__law_two_12, x_tBool1, x_tBool2, h1', hfz, add_u, hadd, e1, hls4, hyl, htr]
      · have hne : ¬ (nds.filter dsc).length = 0 := hj.resolve_left h1'
        have hne2 : (((nds.filter dsc).length : Int) == 0) = false := by
          rw [beq_eq_false_iff_ne]
          omega
        simp [b__law_two, s__law_two_1, x_rCall, x_callT, hd1, ho, s__law_two_2, hd2, hk, s__law_two_3, hd3, s__law_two_4, hlen, hsub, s__law_two_5, hd4, s__law_two_8, hsrc, hls, hce, datsR_c, sz, s__law_two_9, hot, x_rApp, hat, happ, e0, hls1, s__law_two_10, s__law_two_11, ha, s__law_two_12, x_tBool1, x_tBool2, h1', hfz, add_u, hadd, e1, hls4, hyl, htr, hne2]
    · obtain ⟨h1', h0⟩ := not_or.mp hj
      have h0 : (nds.filter dsc).length = 0 := Classical.not_not.mp h0
      obtain rfl : k = "events" := hc.ev ((fil_any nds).mp h0)
      by_cases h22 : dg (nx (nx (nx s))) 4 = 2
      · refine ⟨_, nx (nx (nx (nx s))), .fz (.lst ((nds ++ [nSrcT]).map Nd.node)), Fine.of (hc.aso (b2 (dg s 2)) (b2 (dg (nx s) 2))) (by simp; omega) (by rw [List.append_assoc, List.getElem?_append_left hc.pos]; exact hf0), ?_⟩
        have e1 : P.tup [.tup [.str ("asof" : Str), onP (b2 (dg s 2)), .str (keepL (b2 (dg (nx s) 2)))], .tup [.int ((nds.length - 1 : Nat) : Int), .int (nds.length : Int)]] = (nAso (nds.length - 1) nds.length (b2 (dg s 2)) (b2 (dg (nx s) 2))).node := rfl
        simp [b__law_two, s__law_two_1, x_rCall, x_callT, hd1, ho, s__law_two_2, hd2, hk, s__law_two_3, hd3, s__law_two_4, hlen, hsub, s__law_two_5, hd4, s__law_two_8, hsrc, hls, hce, datsR_c, sz, s__law_two_9, hot, x_rApp, hat, happ, e0, hls1, s__law_two_10, s__law_two_11, ha, s__law_two_12, x_tBool1, x_tBool2, h1', hfz, add_u, hadd, e1, hls4, hyl, htr, h0, s__law_two_13, h22]
      · have hd5 := Y2_dig (S1 := S1) h1 h3 (c + 4) (nx (nx (nx (nx s)))) 5 (.fz (.lst ((nds ++ [nSrcT]).map Nd.node))) (by decide)
        refine ⟨_, nx (nx (nx (nx (nx s)))), .fz (.lst ((nds ++ [nSrcT]).map Nd.node)), Fine.of (hc.nea (b2 (dg s 2)) (b2 (dg (nx s) 2)) (l7_of (nx (nx s))) (d5_of (nx (nx (nx (nx s)))))) (by simp; omega) (by rw [List.append_assoc, List.getElem?_append_left hc.pos]; exact hf0), ?_⟩
        have e1 : P.tup [.tup [.str ("near" : Str), onP (b2 (dg s 2)), .int (dg (nx (nx s)) 7 - 4), .int (dg (nx (nx s)) 7 - 4 + dg (nx (nx (nx (nx s)))) 5), .str (keepL (b2 (dg (nx s) 2)))], .tup [.int ((nds.length - 1 : Nat) : Int), .int (nds.length : Int)]] = (nNea (nds.length - 1) nds.length (b2 (dg s 2)) (b2 (dg (nx s) 2)) (dg (nx (nx s)) 7 - 4) (dg (nx (nx s)) 7 - 4 + dg (nx (nx (nx (nx s)))) 5)).node := rfl
        have hfz' := hfz
        rw [show (nds ++ [nSrcT]).map Nd.node = nds.map Nd.node ++ [nSrcT.node] by simp] at hd5
        simp [b__law_two, s__law_two_1, x_rCall, x_callT, hd1, ho, s__law_two_2, hd2, hk, s__law_two_3, hd3, s__law_two_4, hlen, hsub, s__law_two_5, hd4, s__law_two_8, hsrc, hls, hce, datsR_c, sz, s__law_two_9, hot, x_rApp, hat, happ, e0, hls1, s__law_two_10, s__law_two_11, ha, s__law_two_12, x_tBool1, x_tBool2, h1', hfz, add_u, hadd, e1, hls4, hyl, htr, h0, s__law_two_13, h22, s__law_two_14, hd5]
end
end T
end
section
set_option Elab.async false
set_option linter.all false
set_option maxRecDepth 1000000
set_option autoImplicit false
set_option maxHeartbeats 4000000
namespace T
open PySem PySem.Spec PyProof.Rows L2 Mp
section
variable {S0 : Store} {id : Nat}
theorem Z_Y (hid : id < S0.length) (s : Int) (ws : List W) (T : Store) : Z S0 id s ++ (T ++ [.lst ws]) = Y (S0 ++ (T ++ [.dead])) id (S0.length + T.length) s ws := by
  unfold Z Y
  rw [List.set_append_left _ _ hid, List.set_append_right _ _ (by simp), List.set_append_right _ _ (by simp)]
  simp
theorem Z_Y2 (hid : id < S0.length) (s : Int) (cc : Cell) (T : Store) : Y2 (S0 ++ (T ++ [.dead])) id (S0.length + T.length) s cc = Z S0 id s ++ (T ++ [cc]) := by
  unfold Z Y2
  rw [List.set_append_left _ _ hid, List.set_append_right _ _ (by simp), List.set_append_right _ _ (by simp)]
  simp
theorem Z_below (hb : S0.all (Cell.below S0.length) = true) (s : Int) : (Z S0 id s).all (Cell.below S0.length) = true := by
  rw [List.all_eq_true] at hb ⊢
  intro c hc
  unfold Z at hc
  rcases List.mem_or_eq_of_mem_set hc with h | h
  · exact hb c h
  · subst h; rfl
theorem Z_trim (hb : S0.all (Cell.below S0.length) = true) (s : Int) (d : P) (T : Store) : trim S0.length (.p d) (Z S0 id s ++ T) = Z S0 id s := by
  have ht : (Z S0 id s ++ T).take S0.length = Z S0 id s := by
    rw [List.take_append_of_le_length (by rw [Z_len]; exact Nat.le_refl _), List.take_of_length_le (by rw [Z_len]; exact Nat.le_refl _)]
  unfold trim
  rw [ht, Z_below hb]
  rfl
end
end T
end
section
set_option Elab.async false
set_option linter.all false
set_option maxRecDepth 1000000
set_option autoImplicit false
set_option maxHeartbeats 4000000
namespace T
open PySem PySem.Spec PyProof.Rows L2 Mp
section
variable {S0 : Store} {id : Nat}
/-- the last two statements -/
theorem plan_tail (hid : id < S0.length) (hb : S0.all (Cell.below S0.length) = true) (c : Nat) (s : Int) (T : Store) {nds : List Nd} {k : Str} (hc : Chn nds k) (hl : nds.length ≤ 5) :
    ∃ nds' s', Fine nds' ∧ endR S0.length (sBody [s__law_plan_3 (runF cf (c + 6)), s__law_plan_4 (runF cf (c + 6))] [some (.o id), some (.o (S0.length + T.length))] (Z S0 id s ++ (T ++ [plC nds]))) = .ok (.p (planP nds')) (Z S0 id s') := by
  have hd := r_dig hid (c + 5) s 2 (T ++ [plC nds]) (by decide)
  have hp : S0.length + T.length < (S0 ++ (T ++ [Cell.dead])).length := by simp
  have hi : id < (S0 ++ (T ++ [Cell.dead])).length := by simp; omega
  have hne : id ≠ S0.length + T.length := by omega
  have hzy := Z_Y hid (nx s) (nds.map (W.p ∘ Nd.node)) T
  have htr := Z_trim (id := id) hb
  rcases dg2 s with h | h
  · obtain ⟨nds', s', cc, hf, he⟩ := r_ending hi hp hne c (nx s) hc hl
    refine ⟨nds', s', hf, ?_⟩
    rw [← hzy, Z_Y2 hid] at he
    rw [h] at hd
    rw [show plC nds = .lst (nds.map (W.p ∘ Nd.node)) from rfl] at hd ⊢
    simp [s__law_plan_3, s__law_plan_4, x_rCall, x_callT, hd, he, tupleR, htr, planP]
  · obtain ⟨nds', s', cc, hf, he⟩ := r_two hi hp hne c (nx s) hc hl
    refine ⟨nds', s', hf, ?_⟩
    rw [← hzy, Z_Y2 hid] at he
    rw [h] at hd
    rw [show plC nds = .lst (nds.map (W.p ∘ Nd.node)) from rfl] at hd ⊢
    simp [s__law_plan_3, s__law_plan_4, x_rCall, x_callT, hd, he, tupleR, htr, planP]
theorem r_plan (hid : id < S0.length) (hb : S0.all (Cell.below S0.length) = true) (c : Nat) (s : Int) : ∃ nds s', Fine nds ∧ runF cf (c + 7) ("_law_plan", none) [.o id] (Z S0 id s) = .ok (.p (planP nds)) (Z S0 id s') := by
  obtain ⟨nds, k, hc, hl, hch⟩ := r_chain hid (c + 1) s
  have hd := r_dig hid (c + 5) (nx (nx (nx s))) 3 [plC nds] (by decide)
  rw [e__law_plan]
  have hzl := Z_len S0 id
  by_cases h : dg (nx (nx (nx s))) 3 = 0
  · have hfn := r_fan (c + 5) (Z S0 id (nx (nx (nx (nx s)))) ++ [.fz (.lst (nds.map Nd.node))]) nds hc.pos (by omega) k
    obtain ⟨nds', s', hf, he⟩ := plan_tail hid hb c (nx (nx (nx (nx s)))) [.fz (.lst (nds.map Nd.node))] hc.fan (by simp; omega)
    refine ⟨nds', s', hf, ?_⟩
    rw [h] at hd
    have hfz := frz_o (S := Z S0 id (nx (nx (nx (nx s)))) ++ [plC nds]) (id := S0.length) (ds := nds.map Nd.node) (by rw [Zp_at]; unfold plC; rw [List.map_map])
    rw [Zp_set] at hfz
    simp at he hfn
    simp [b__law_plan, s__law_plan_1, x_rCall, hch, s__law_plan_2, x_callT, hd, hfz, hfn, he, hzl]

  · obtain ⟨nds', s', hf, he⟩ := plan_tail hid hb c (nx (nx (nx (nx s)))) [] hc (by omega)
    refine ⟨nds', s', hf, ?_⟩
    simp at he
    simp [b__law_plan, s__law_plan_1, x_rCall, hch, s__law_plan_2, x_callT, hd, h, he, hzl]
end
end T
end
section
set_option Elab.async false
set_option linter.all false
set_option maxRecDepth 1000000
set_option autoImplicit false
set_option maxHeartbeats 4000000
namespace T
open PySem PySem.Spec PyProof.Rows L2 Mp
theorem fine0 : Fine [nSrc] := Fine.of chn0.iv (by decide) rfl
theorem out0 : outF [nSrc] = "n0 source s: user text, price whole (events)\n" := by decide +kernel
def cellI (s : Int) : Cell := .lst [.p (.int s)]
def st0 (cell k : Int) : Int := (cell * 2654435761 + (k + 1) * 6700417).fmod 18446744073709551557
theorem r_start (c : Nat) (S : Store) (cell k : Int) : runF cf (c + 1) ("_law_start", none) [.p (.int cell), .p (.int k)] S = .ok (.o S.length) (S ++ [cellI (st0 cell k)]) := by
  rw [e__law_start]
  simp [b__law_start, s__law_start_1, binop, intR, sz, trim_new, cellI, st0]
def scr (ns : List Int) : P := .fro (ns.map P.int)
def cellAt (ns : List Int) (k : Nat) : Int := (ns[k]?).getD 0
theorem r_cell (c : Nat) (ns : List Int) (k : Nat) : runF cf (c + 1) ("_law_cell", none) [.p (scr ns), .p (.int (k : Int))] [] = .ok (.p (.int (cellAt ns k))) [] := by
  rw [e__law_cell]
  by_cases h : k < ns.length
  · have hk : (ns.map P.int)[k]? = some (.int (cellAt ns k)) := by
      unfold cellAt
      rw [List.getElem?_map, List.getElem?_eq_getElem h]
      rfl
    have hi := idx_f [] hk
    simp [b__law_cell, s__law_cell_1, scr, h, hi]
  · have hk : cellAt ns k = 0 := by
      unfold cellAt
      rw [List.getElem?_eq_none (by omega)]
      rfl
    simp [b__law_cell, s__law_cell_1, scr, h, hk, s__law_cell_2]
/-- a store of states -/
def Sts (S : Store) : Prop := ∀ c ∈ S, ∃ s, c = cellI s
theorem Sts.below {S : Store} (h : Sts S) (n : Nat) : S.all (Cell.below n) = true := by
  rw [List.all_eq_true]
  intro c hc
  obtain ⟨s, rfl⟩ := h c hc
  rfl
end T
end
section
set_option Elab.async false
set_option linter.all false
set_option maxRecDepth 1000000
set_option autoImplicit false
set_option maxHeartbeats 4000000
namespace T
open PySem PySem.Spec PyProof.Rows L2 Mp
theorem Z_snoc (S : Store) (s : Int) : Z (S ++ [cellI 0]) S.length s = S ++ [cellI s] := by
  unfold Z
  rw [List.set_append_right _ _ (Nat.le_refl _)]
  simp [cellI]
theorem joinK_law {nds : List Nd} (h : NdsOk nds) (S : Store) : joinK ("" : Str) (.lst ((lnF nds).map fun l => .str (l ++ ("\n" : Str)))) S = .ok (.p (.str (outF nds))) S := outF_j h S
theorem law_turn (c : Nat) (S : Store) (hS : Sts S) (ns : List Int) (k : Nat) (e2 e3 e4 : Option W) : ∃ e2' e3' e4' s', l_law_2 (runF cf (c + 50)) [some (.p (scr ns)), some (.p (.int (k : Int))), e2, e3, e4] S = .nx [some (.p (scr ns)), some (.p (.int (k : Int))), e2', e3', e4'] (S ++ [cellI s']) := by
  have hc := r_cell (c + 49) ns k
  have hst := r_start (c + 49) S (cellAt ns k) k
  have hb : (S ++ [cellI 0]).all (Cell.below (S ++ [cellI 0]).length) = true := by
    refine Sts.below ?_ _
    intro x hx
    rcases List.mem_append.mp hx with h | h
    · exact hS x h
    · rw [List.mem_singleton] at h; exact ⟨0, h⟩
  obtain ⟨nds, s', hf, hp⟩ := r_plan (S0 := S ++ [cellI 0]) (id := S.length) (by simp) hb (c + 43) (st0 (cellAt ns k) k)
  rw [Z_snoc, Z_snoc] at hp
  have hk := r_fields hf.ok hf.fo hf.pos
  have hk0 := r_fields fine0.ok fine0.fo fine0.pos
  have ho := r_outline hf.ok hk hf.pos (c + 20)
  have ho0 := r_outline fine0.ok hk0 fine0.pos (c + 20)
  rw [out0] at ho0
  have hl := r_lines hf.ok hk hf.pos (c + 28)
  have hcl := c_law hf.ok (runF cf (c + 50)) (S ++ [cellI s'])
  have hj := joinK_law hf.ok (S ++ [cellI s'])
  have hne := ne_s (outF nds) (outF nds) (outF_ok hf.ok) (outF_ok hf.ok)
  have hne0 := ne_s ("n0 source s: user text, price whole (events)\n" : Str) "n0 source s: user text, price whole (events)\n" (by decide +kernel) (by decide +kernel)
  have hll := lnF_len hf.ok
  have hll2 : (lnF nds).length ≤ 16777216 := by omega
  have hi0 : idxW (S ++ [cellI s']) (.p (planP nds)) (.int 0) = some (.p nSrc.node) := idx_t _ (i := 0) (by rw [List.getElem?_map, hf.fst]; rfl)
  have hp0 : P.tup [nSrc.node] = planP [nSrc] := rfl
  refine ⟨some (.o S.length), some (.p (planP nds)), e4, s', ?_⟩
  simp [l_law_2, x_rCall, x_callT, hc, hst, hp, ho, hl, x_rJoin, hll2, hcl, datsR_m, hj, hne, sz, hi0, hp0, ho0, hne0]

end T
end
section
set_option Elab.async false
set_option linter.all false
set_option maxRecDepth 1000000
set_option autoImplicit false
set_option maxHeartbeats 4000000
namespace T
open PySem PySem.Spec PyProof.Rows L2 Mp
theorem law_loop (c : Nat) (ns : List Int) : ∀ (ks : List Nat) (S : Store) (hS : Sts S) (e1 e2 e3 e4 : Option W), ∃ e1' e2' e3' e4' S', forS ⟨ks.map (W.p ∘ inP), none⟩ (.one 1) (l_law_2 (runF cf (c + 50))) (ks.map (W.p ∘ inP)) [some (.p (scr ns)), e1, e2, e3, e4] S = .nx [some (.p (scr ns)), e1', e2', e3', e4'] S' := by
  have gen : ∀ (src : Src) (hsrc : ∀ S, src.ok S) (ks : List Nat) (S : Store) (hS : Sts S) (e1 e2 e3 e4 : Option W), ∃ e1' e2' e3' e4' S', forS src (.one 1) (l_law_2 (runF cf (c + 50))) (ks.map (W.p ∘ inP)) [some (.p (scr ns)), e1, e2, e3, e4] S = .nx [some (.p (scr ns)), e1', e2', e3', e4'] S' := by
    intro src hsrc ks
    induction ks with
    | nil =>
      intro S hS e1 e2 e3 e4
      refine ⟨e1, e2, e3, e4, S, ?_⟩
      simp only [List.map_nil, forS, hsrc, if_true]
    | cons k ks ih =>
      intro S hS e1 e2 e3 e4
      obtain ⟨a2, a3, a4, s', ht⟩ := law_turn c S hS ns k e2 e3 e4
      obtain ⟨b1, b2, b3, b4, S', hr⟩ := ih (S ++ [cellI s']) (by
        intro x hx
        rcases List.mem_append.mp hx with h | h
        · exact hS x h
        · rw [List.mem_singleton] at h; exact ⟨s', h⟩) (some (.p (.int (k : Int)))) a2 a3 a4
      refine ⟨b1, b2, b3, b4, S', ?_⟩
      rw [List.map_cons]
      unfold forS
      rw [if_pos (hsrc S)]
      show (SR.turn (l_law_2 (runF cf (c + 50)) [some (.p (scr ns)), some (.p (.int (k : Int))), e2, e3, e4] S) _) = _
      rw [ht]
      exact hr
  intro ks
  exact gen ⟨ks.map (W.p ∘ inP), none⟩ (fun _ => True.intro) ks
theorem law_true (c : Nat) (ns : List Int) (hl : ns.length ≤ 63) : runF cf (c + 51) ("law", none) [.p (.fro (ns.map P.int))] [] = .ok (.p (.bl true)) [] := by
  rw [e_law]
  have hm : minR (.int 12) (.int (1 + (ns.length : Int))) = some (.int ((min 12 (1 + ns.length) : Nat) : Int)) := by
    unfold minR
    simp only [Option.some.injEq, P.int.injEq]
    split <;> omega
  have hn : min 12 (1 + ns.length) ≤ 12 := by omega
  obtain ⟨e1, e2, e3, e4, S', hr⟩ := law_loop c ns (List.range (min 12 (1 + ns.length))) [] (by intro x hx; cases hx) none none none none
  rw [← rng_i] at hr
  have hb : -(2 ^ 62) ≤ (((min 12 (1 + ns.length)) : Nat) : Int) ∧ (((min 12 (1 + ns.length)) : Nat) : Int) < 2 ^ 62 := by omega
  rw [scr] at hr
  have hb2 : (((min 12 (1 + ns.length)) : Nat) : Int) < 4611686018427387904 := by omega
  generalize hmm : min 12 (1 + ns.length) = mm at *
  simp [b_law, s_law_3, x_sRng1, hm, sz, hb2, hr, s_law_4, endR, trim, W.below]
theorem law_true' (ns : List Int) (hl : ns.length ≤ 63) : runB cf (runF cf 50) f_law [.p (.fro (ns.map P.int))] [] = .ok (.p (.bl true)) [] := by
  rw [← law_true 0 ns hl]
  kernel_rfl
end T
end
section
set_option Elab.async false
set_option linter.all false
set_option maxRecDepth 1000000
set_option autoImplicit false
set_option maxHeartbeats 0
namespace T
open PySem PySem.Spec PyProof.Rows L2 Mp
abbrev R : PySem.W.OpenRow := PySem.W.OpenLaw.row PySem.Challenge.rw_tidehold_k93_outlines
abbrev hk : PySem.W.Hook := hookOf cf
def ob (s : PySem.W.SharedT) : He.AlX := He.obsX 4 (facts cf) (fnsD cf) (tsD cf) [] (exD cf) (HandSHeadRun.getT s)
theorem ob_eq (s : PySem.W.SharedT) : ob s = hk.obs s.abs := He.obsX_eq (HandSHeadRun.getT_eq s)
def loose0 : List Str := ["TideholdError", "InvalidOperator", "InvalidPlan", "parts_of", "type_of_value", "column_index", "agree", "want", "type_of_binary", "type_of", "TWO_SIDES", "MOST_FIELDS", "sides_of", "type_in", "differ", "aggregate_type", "check_columns", "check_pairs", "mapped", "with_aggregates", "output_fields", "check_kinds", "output_kind", "check_operator", "MOST_NODES", "check_inputs", "output_of", "fields_of", "QUOTE", "RESERVED"]
def loose1 : List Str := ["OR", "AND", "NOT", "COMPARE", "SUM", "PRODUCT", "UNIT", "LEVELS", "write_name", "write_value", "level_of", "write_within", "write_expression", "write_names", "write_by", "write_aggregate", "write_with", "write_on", "write_window", "write_rest", "node_name", "format_node", "format_plan", "describe", "draw", "outline", "_law_events", "_law_others", "_law_counts", "_law_cell"]
def loose2 : List Str := ["_law_is_integer", "_law_start", "_law_digit", "_law_chain", "_law_ending", "_law_two", "_law_fan", "_law_plan", "_law_entries", "_law_logs", "_law_parallel", "_law_behind", "_law_line", "_law_lines"]
def loose : List Str := loose0 ++ loose1 ++ loose2
theorem run0 (w : World) : HandSHeadRun.RunEq R (PySem.W.view R.prog [84]) hk ob 6000 loose (w.withFollow "special-get-raises" false) := by
  intro os
  kernel_rfl
theorem run1 (w : World) : HandSHeadRun.RunEq R (PySem.W.view R.prog [84]) hk ob 6000 loose (w.withFollow "special-get-raises" true) := by
  intro os
  kernel_rfl
theorem run (w : World) : HandSHeadRun.RunEq R (PySem.W.view R.prog [84]) hk ob 6000 loose w := PySem.W.byRow2 "special-get-raises" (P := fun w => HandSHeadRun.RunEq R (PySem.W.view R.prog [84]) hk ob 6000 loose w) run0 run1 w
theorem scopes : (cf.fns.all scB) = true := by kernel_rfl
theorem binds : AllF BindOk cf.fns := And.intro (fun _ _ _ _ _ _ us hl => match us, hl with | [_], _ => rfl) (And.intro (fun _ _ _ _ _ _ us hl => match us, hl with | [_], _ => rfl) (And.intro (fun _ _ _ _ _ _ us hl => match us, hl with | [_, _], _ => rfl) (And.intro (fun _ _ _ _ _ _ us hl => match us, hl with | [_, _], _ => rfl) (And.intro (fun _ _ _ _ _ _ us hl => match us, hl with | [_, _], _ => rfl) (And.intro (fun _ _ _ _ _ _ us hl => match us, hl with | [_, _], _ => rfl) (And.intro (fun _ _ _ _ _ _ us hl => match us, hl with | [_, _], _ => rfl) (And.intro (fun _ _ _ _ _ _ us hl => match us, hl with | [_], _ => rfl) (And.intro (fun _ _ _ _ _ _ us hl => match us, hl with | [_, _], _ => rfl) (And.intro (fun _ _ _ _ _ _ us hl => match us, hl with | [], _ => rfl) (And.intro (fun _ _ _ _ _ _ us hl => match us, hl with | [_, _, _], _ => rfl) (And.intro (fun _ _ _ _ _ _ us hl => match us, hl with | [_, _], _ => rfl) (And.intro (fun _ _ _ _ _ _ us hl => match us, hl with | [_, _], _ => rfl) (And.intro (fun _ _ _ _ _ _ us hl => match us, hl with | [_, _], _ => rfl) (And.intro (fun _ _ _ _ _ _ us hl => match us, hl with | [_, _], _ => rfl) (And.intro (fun _ _ _ _ _ _ us hl => match us, hl with | [_, _], _ => rfl) (And.intro (fun _ _ _ _ _ _ us hl => match us, hl with | [_, _], _ => rfl) (And.intro (fun _ _ _ _ _ _ us hl => match us, hl with | [_, _], _ => rfl) (And.intro (fun _ _ _ _ _ _ us hl => match us, hl with | [_, _], _ => rfl) (And.intro (fun _ _ _ _ _ _ us hl => match us, hl with | [_, _], _ => rfl) (And.intro (fun _ _ _ _ _ _ us hl => match us, hl with | [_, _, _], _ => rfl) (And.intro (fun _ _ _ _ _ _ us hl => match us, hl with | [_], _ => rfl) (And.intro (fun _ _ _ _ _ _ us hl => match us, hl with | [_], _ => rfl) (And.intro (fun _ _ _ _ _ _ us hl => match us, hl with | [_], _ => rfl) (And.intro (fun _ _ _ _ _ _ us hl => match us, hl with | [_], _ => rfl) (And.intro (fun _ _ _ _ _ _ us hl => match us, hl with | [_, _], _ => rfl) (And.intro (fun _ _ _ _ _ _ us hl => match us, hl with | [_], _ => rfl) (And.intro (fun _ _ _ _ _ _ us hl => match us, hl with | [_], _ => rfl) (And.intro (fun _ _ _ _ _ _ us hl => match us, hl with | [_], _ => rfl) (And.intro (fun _ _ _ _ _ _ us hl => match us, hl with | [_], _ => rfl) (And.intro (fun _ _ _ _ _ _ us hl => match us, hl with | [_], _ => rfl) (And.intro (fun _ _ _ _ _ _ us hl => match us, hl with | [_], _ => rfl) (And.intro (fun _ _ _ _ _ _ us hl => match us, hl with | [_], _ => rfl) (And.intro (fun _ _ _ _ _ _ us hl => match us, hl with | [_], _ => rfl) (And.intro (fun _ _ _ _ _ _ us hl => match us, hl with | [_], _ => rfl) (And.intro (fun _ _ _ _ _ _ us hl => match us, hl with | [_, _], _ => rfl) (And.intro (fun _ _ _ _ _ _ us hl => match us, hl with | [_], _ => rfl) (And.intro (fun _ _ _ _ _ _ us hl => match us, hl with | [_, _, _], _ => rfl) (And.intro (fun _ _ _ _ _ _ us hl => match us, hl with | [_, _, _, _, _, _], _ => rfl) (And.intro (fun _ _ _ _ _ _ us hl => match us, hl with | [_], _ => rfl) (And.intro (fun _ _ _ _ _ _ us hl => match us, hl with | [], _ => rfl) (And.intro (fun _ _ _ _ _ _ us hl => match us, hl with | [], _ => rfl) (And.intro (fun _ _ _ _ _ _ us hl => match us, hl with | [], _ => rfl) (And.intro (fun _ _ _ _ _ _ us hl => match us, hl with | [_, _], _ => rfl) (And.intro (fun _ _ _ _ _ _ us hl => match us, hl with | [_], _ => rfl) (And.intro (fun _ _ _ _ _ _ us hl => match us, hl with | [_, _], _ => rfl) (And.intro (fun _ _ _ _ _ _ us hl => match us, hl with | [_, _], _ => rfl) (And.intro (fun _ _ _ _ _ _ us hl => match us, hl with | [_], _ => rfl) (And.intro (fun _ _ _ _ _ _ us hl => match us, hl with | [_, _], _ => rfl) (And.intro (fun _ _ _ _ _ _ us hl => match us, hl with | [_, _], _ => rfl) (And.intro (fun _ _ _ _ _ _ us hl => match us, hl with | [_], _ => rfl) (And.intro (fun _ _ _ _ _ _ us hl => match us, hl with | [_], _ => rfl) (And.intro (fun _ _ _ _ _ _ us hl => match us, hl with | [_, _, _], _ => rfl) (And.intro (fun _ _ _ _ _ _ us hl => match us, hl with | [_, _, _], _ => rfl) (And.intro (fun _ _ _ _ _ _ us hl => match us, hl with | [_, _], _ => rfl) (And.intro (fun _ _ _ _ _ _ us hl => match us, hl with | [_, _], _ => rfl) (And.intro (fun _ _ _ _ _ _ us hl => match us, hl with | [_, _], _ => rfl) (And.intro (fun _ _ _ _ _ _ us hl => match us, hl with | [_], _ => rfl) (And.intro (fun _ _ _ _ _ _ us hl => match us, hl with | [_], _ => rfl) (True.intro)))))))))))))))))))))))))))))))))))))))))))))))))))))))))))
theorem facts_law {w : World} {K : PySem.W.Frag} {h : Heap} {mg : Str → Option Value} {f : Addr} (X : K.In h) (G : h.Ns mainGlobals mg) (hfa : mg ("law" : Str) = some (.ref f)) (c : He.SaysX (facts cf) (fnsD cf) (tsD cf) [] (exD cf) w h K) :
    ∃ fd : FuncData, (∀ (s : Shared) (v : Value), BindsTo s fd ⟨[v], []⟩ [("script", v)]) ∧ ∀ base : Heap, FnOk R.prog w K mg base (L2.CX R.prog w) (2 * 50 + 2) f fd ["script"] (spRun ⟨R.prog, w, K, mg, base⟩ 1 (runB cf (runF cf 50) f_law)) := by
  obtain ⟨a, fd, h1, h2, h3, h4⟩ := (fnsOk_of (F := ⟨R.prog, w, K, mg, h⟩) X G c scopes binds).fn "law" f_law (by kernel_rfl)
  have e : f = a := by
    have e := hfa.symm.trans h1
    cases e
    rfl
  subst e
  refine ⟨fd, fun s v => FunD.bindsA (ps := ["script"]) h3 (fun _ _ _ _ _ _ us hl => match us, hl with | [_], _ => rfl) s [v] rfl, fun base => ?_⟩
  have hc : CfOk ⟨R.prog, w, K, mg, base⟩ cf := cfOk_of (F := ⟨R.prog, w, K, mg, base⟩) X G c
  have hf : FnsOk ⟨R.prog, w, K, mg, base⟩ cf := fnsOk_of (F := ⟨R.prog, w, K, mg, base⟩) X G c scopes binds
  exact fn_ok (F := ⟨R.prog, w, K, mg, base⟩) hc (callsOk hc hf 50) h3 h4
end T
open PySem PySem.W PySem.Calls PyProof.Rows
theorem PySem.Challenge.cw_tidehold_k93_outlines_holds : PySem.Challenge.rw_tidehold_k93_outlines.Holds := by
  w_on; o_law
  refine HandSHeadRun.head_any (r := OpenLaw.row PySem.Challenge.rw_tidehold_k93_outlines) (q := view (OpenLaw.row PySem.Challenge.rw_tidehold_k93_outlines).prog [84]) (H := T.hk) (ob := T.ob) (M := 6000) (loose := T.loose) (d := HandSHeadRun.topDef (OpenLaw.row PySem.Challenge.rw_tidehold_k93_outlines).prog 84) (kwd := []) T.ob_eq
    (by kernel_rfl) (fun s => by kernel_rfl) T.run (by kernel_rfl) (by kernel_rfl) (by kernel_rfl) (by rfl) (by first | assumption | decide +kernel) (by decide +kernel) ⟨rfl, rfl, rfl, rfl, rfl, by decide +kernel⟩ ?hw ?hc
  case hw => w_witness2
  case hc =>
    refine Mp.walk_w (l := PySem.Challenge.rw_tidehold_k93_outlines) (n := 63) (k := 2 * 50 + 2) (x := "script") (cx := fun w => L2.CX T.R.prog w) rfl (by decide) (by kernel_rfl) ⟨rfl, by decide, by decide⟩ (fun w mg fa h Y G hmg0 => ?F) (fun w H s e s' z => ?X)
    case X =>
      obtain ⟨_, _, _, _, _, _, _, _, _, _, _, _, no⟩ := z
      exact no
    obtain ⟨K, KX, c⟩ := Y
    have hmg : mg ("law" : PySem.Str) = some (.ref fa) := by
      have e : (HandSHeadRun.topDef (OpenLaw.row PySem.Challenge.rw_tidehold_k93_outlines).prog 84).name = ("law" : PySem.Str) := by kernel_rfl
      rw [← e]
      exact hmg0
    obtain ⟨fd, hb, hF⟩ := T.facts_law (w := w) KX G hmg c
    exact ⟨K, fd, fun vs H Q E => ∀ base : Heap, Mp.spRun ⟨T.R.prog, w, K, mg, base⟩ 1 (Mp.runB T.cf (Mp.runF T.cf 50) T.f_law) vs H Q E, KX, hb, fun H a ns hl hS base => Mp.law_sp (F := ⟨T.R.prog, w, K, mg, base⟩) hS (T.law_true' ns hl), fun base => (hF base).imp fun _ _ _ _ q => q base⟩
end

import PyProof.Rows.All
import Wide.All
import OpenK.AllK
import Wide.FinOn
import HandS.ForMost
import HandS.ForExc
import HandS.CallSlots
import HandS.Wide
import HandS.Style
import HandS.IsInst
import HandS.Property
import HandS.SortInts
import PyProof.Rows.RuleB_pow
import HandS.Deep
import HandS.TupAny
import KE.SortData
import KE.KTupSum
import PyProof.MaxThree
import HandS.Iter
import HandS.Zip
import HandS.NoneIn
import HandS.WideBits
import HandS.More
import HandS.Star
import HandS.MakeKwOnly
import HandS.OwnEq
import HandS.CallRecv
import HandS.ExcField
import HandS.ExcIs
import HandS.ExcInit
import HandS.TryMany
import PyProof.InstNe
import PyProof.ZipIter
import HandS.Zip0
import KE.KStar
import PyProof.ListNew
import PyProof.CollectWalk
import HandS.Conv
import HandS.SetFor
import HandS.Strs
import HandS.WordsExc
import HandS.HeadHook1
import HandS.Defaults
import HandS.HeadHook2
import HandS.Head0
import HandS.Head1
import HandS.Head2
import HandS.HeadEnd
import HandS.Codes
import PySem.Challenge.RW_evenbits_k56_errors_of_streams
set_option Elab.async false
set_option linter.all false
set_option maxRecDepth 100000
set_option maxHeartbeats 4000000
/-! EvA: data without a heap (D), the store of changing cells, and how they lie in the hand layer's heap. -/
namespace Ev
open PySem PySem.Spec PyProof.Rows L2

/-- data. scr: the script; ref k: the k-th cell of the store; obj c fs: an instance of the class numbered c that changes no more; exn: the exception that is handled -/
inductive D where
  | non | bl (b : Bool) | int (i : Int) | str (s : Str) | scr (xs : List Int)
  | lst (xs : List D) | tup (xs : List D) | dct (ks : List Key) (vs : List D)
  | obj (c : Nat) (fs : List D) | ref (k : Nat) | exn (c : Nat) (fs : List D)

/-- a cell of the store; frz: a list that changes no more -/
inductive Cell where
  | lst (xs : List D) | frz (xs : List D) | dct (ks : List Key) (vs : List D) | ins (c : Nat) (fs : List D) | fro (c : Nat) (fs : List D)
abbrev Store := List Cell

inductive R (α : Type) where
  | ok (a : α) (S : Store) | exc (c : Nat) (fs : List D) (S : Store) | stuck
abbrev M (α : Type) := Store → R α
def ret {α : Type} (a : α) : M α := fun S => .ok a S
def bnd {α β : Type} (m : M α) (f : α → M β) : M β := fun S => match m S with
  | .ok a S' => f a S'
  | .exc c fs S' => .exc c fs S'
  | .stuck => .stuck
def stk {α : Type} : M α := fun _ => .stuck

/-- what is fixed of the program's text: the written part, where the numbered classes stand, their fields -/
structure Kit where
  K : PySem.W.Frag
  cl : Nat → Addr
  fn : Nat → List Str
  /-- the exception that an except suite holds: where, its class, its dict -/
  x : Option (Addr × Value × Option Addr) := none

/-- the ghost: what changes no more, where the cells stand -/
structure Gh where
  H : Hp
  m : List Addr

mutual
def Rep (T : Kit) (G : Gh) : D → V → Prop
  | .non, v => v = .non
  | .bl b, v => v = .bl b
  | .int i, v => v = .int i
  | .str s, v => v = .str s
  | .scr xs, v => ∃ a, v = .ref a ∧ SqL T.K G.H a (xs.map V.int)
  | .lst ds, v => ∃ a vs, v = .ref a ∧ G.H a = some (.lst vs) ∧ Reps T G ds vs
  | .tup ds, v => ∃ a vs, v = .ref a ∧ SqT T.K G.H a vs ∧ Reps T G ds vs
  | .dct ks ds, v => ∃ a vs, v = .ref a ∧ G.H a = some (.dK (ks.zip vs)) ∧ ks.length = vs.length ∧ Reps T G ds vs
  | .obj c ds, v => ∃ a dx vs, v = .ref a ∧ G.H a = some (.ins (T.cl c) dx ((T.fn c).zip vs)) ∧ vs.length ≤ (T.fn c).length ∧ Reps T G ds vs
  | .ref k, v => ∃ a, v = .ref a ∧ G.m[k]? = some a
  | .exn c ds, v => ∃ a cls dx, T.x = some (a, cls, dx) ∧ v = .ref a ∧ cls = .ref (T.cl c) ∧ ((ds = [] ∧ dx = none) ∨ (ds ≠ [] ∧ ∃ d vs, dx = some d ∧ G.H d = some (.xd ((T.fn c).zip vs)) ∧ vs.length = (T.fn c).length ∧ Reps T G ds vs))
def Reps (T : Kit) (G : Gh) : List D → List V → Prop
  | [], vs => vs = []
  | d :: ds, vs => ∃ v r, vs = v :: r ∧ Rep T G d v ∧ Reps T G ds r
end

/-- the ghost grows -/
structure Le (G G' : Gh) : Prop where
  H : ∀ a o, G.H a = some o → G'.H a = some o
  m : ∃ t, G'.m = G.m ++ t
theorem Le.refl {G : Gh} : Le G G := ⟨fun _ _ h => h, [], by simp⟩
theorem Le.trans {G1 G2 G3 : Gh} (a : Le G1 G2) (b : Le G2 G3) : Le G1 G3 := ⟨fun x o h => b.H x o (a.H x o h), by
  obtain ⟨t, e⟩ := a.m
  obtain ⟨u, f⟩ := b.m
  exact ⟨t ++ u, by rw [f, e, List.append_assoc]⟩⟩
theorem Le.mget {G G' : Gh} (a : Le G G') {k : Nat} {x : Addr} (h : G.m[k]? = some x) : G'.m[k]? = some x := by
  obtain ⟨t, e⟩ := a.m
  rw [e]
  exact (List.getElem?_append_left (List.getElem?_eq_some_iff.mp h).1).trans h
theorem rd_le {H H' : Hp} {a : Addr} {u : HO} (e : ∀ a o, H a = some o → H' a = some o) (h : Rd H a u) : Rd H' a u := by
  rcases h with h | ⟨o, h⟩
  · exact .inl (e a _ h)
  · exact .inr ⟨o, e a _ h⟩
theorem sqL_le {K : PySem.W.Frag} {H H' : Hp} {a : Addr} {xs : List V} (e : ∀ a o, H a = some o → H' a = some o) (h : SqL K H a xs) : SqL K H' a xs := by
  rcases h with h | h
  · exact .inl (rd_le e h)
  · exact .inr h
theorem sqT_le {K : PySem.W.Frag} {H H' : Hp} {a : Addr} {xs : List V} (e : ∀ a o, H a = some o → H' a = some o) (h : SqT K H a xs) : SqT K H' a xs := by
  rcases h with h | h
  · exact .inl (rd_le e h)
  · exact .inr h

mutual
theorem Rep.le {T : Kit} {G G' : Gh} (l : Le G G') : ∀ {d : D} {v : V}, Rep T G d v → Rep T G' d v
  | .non, v, h => by simpa only [Rep] using h
  | .bl b, v, h => by simpa only [Rep] using h
  | .int i, v, h => by simpa only [Rep] using h
  | .str s, v, h => by simpa only [Rep] using h
  | .scr xs, v, h => by
    simp only [Rep] at h ⊢
    obtain ⟨a, e, q⟩ := h
    exact ⟨a, e, sqL_le l.H q⟩
  | .lst ds, v, h => by
    simp only [Rep] at h ⊢
    obtain ⟨a, vs, e, q, r⟩ := h
    exact ⟨a, vs, e, l.H _ _ q, Reps.le l r⟩
  | .tup ds, v, h => by
    simp only [Rep] at h ⊢
    obtain ⟨a, vs, e, q, r⟩ := h
    exact ⟨a, vs, e, sqT_le l.H q, Reps.le l r⟩
  | .dct ks ds, v, h => by
    simp only [Rep] at h ⊢
    obtain ⟨a, vs, e, q, z, r⟩ := h
    exact ⟨a, vs, e, l.H _ _ q, z, Reps.le l r⟩
  | .obj c ds, v, h => by
    simp only [Rep] at h ⊢
    obtain ⟨a, dx, vs, e, q, z, r⟩ := h
    exact ⟨a, dx, vs, e, l.H _ _ q, z, Reps.le l r⟩
  | .ref k, v, h => by
    simp only [Rep] at h ⊢
    obtain ⟨a, e, q⟩ := h
    exact ⟨a, e, l.mget q⟩
  | .exn c ds, v, h => by
    simp only [Rep] at h ⊢
    obtain ⟨a, cls, dx, e1, e2, e3, h⟩ := h
    refine ⟨a, cls, dx, e1, e2, e3, ?_⟩
    rcases h with h | ⟨h, d, vs, k1, k2, k3, k4⟩
    · exact .inl h
    · exact .inr ⟨h, d, vs, k1, l.H _ _ k2, k3, Reps.le l k4⟩
theorem Reps.le {T : Kit} {G G' : Gh} (l : Le G G') : ∀ {ds : List D} {vs : List V}, Reps T G ds vs → Reps T G' ds vs
  | [], vs, h => by simpa only [Reps] using h
  | d :: ds, vs, h => by
    simp only [Reps] at h ⊢
    obtain ⟨v, r, e, q, z⟩ := h
    exact ⟨v, r, e, Rep.le l q, Reps.le l z⟩
end

section
variable {T : Kit} {G : Gh}
theorem Reps.len : ∀ {ds : List D} {vs : List V}, Reps T G ds vs → ds.length = vs.length
  | [], vs, h => by simp only [Reps] at h; rw [h]; rfl
  | d :: ds, vs, h => by
    simp only [Reps] at h
    obtain ⟨v, r, rfl, _, z⟩ := h
    simp [Reps.len z]
theorem reps_nil : Reps T G [] [] := by simp only [Reps]
theorem reps_cons {d : D} {v : V} {ds : List D} {vs : List V} (h : Rep T G d v) (r : Reps T G ds vs) : Reps T G (d :: ds) (v :: vs) := by
  simp only [Reps]; exact ⟨v, vs, rfl, h, r⟩
theorem reps_app : ∀ {ds es : List D} {vs ws : List V}, Reps T G ds vs → Reps T G es ws → Reps T G (ds ++ es) (vs ++ ws)
  | [], es, vs, ws, h, k => by simp only [Reps] at h; subst h; exact k
  | d :: ds, es, vs, ws, h, k => by
    simp only [Reps] at h
    obtain ⟨v, r, rfl, q, z⟩ := h
    exact reps_cons q (reps_app z k)
theorem reps_snoc {d : D} {v : V} {ds : List D} {vs : List V} (r : Reps T G ds vs) (h : Rep T G d v) : Reps T G (ds ++ [d]) (vs ++ [v]) := reps_app r (reps_cons h reps_nil)
theorem reps_get : ∀ {ds : List D} {vs : List V} {i : Nat} {d : D}, Reps T G ds vs → ds[i]? = some d → ∃ v, vs[i]? = some v ∧ Rep T G d v
  | [], _, i, d, _, e => by simp at e
  | d' :: ds, vs, i, d, h, e => by
    simp only [Reps] at h
    obtain ⟨v, r, rfl, q, z⟩ := h
    cases i with
    | zero =>
      simp at e; subst e
      exact ⟨v, rfl, q⟩
    | succ i =>
      obtain ⟨w, h1, h2⟩ := reps_get (i := i) z (by simpa using e)
      exact ⟨w, by simpa using h1, h2⟩
theorem reps_getV : ∀ {ds : List D} {vs : List V} {i : Nat} {v : V}, Reps T G ds vs → vs[i]? = some v → ∃ d, ds[i]? = some d ∧ Rep T G d v
  | [], vs, i, v, h, e => by simp only [Reps] at h; subst h; simp at e
  | d' :: ds, vs, i, v, h, e => by
    simp only [Reps] at h
    obtain ⟨w, r, rfl, q, z⟩ := h
    cases i with
    | zero =>
      simp at e; subst e
      exact ⟨d', rfl, q⟩
    | succ i =>
      obtain ⟨w, h1, h2⟩ := reps_getV (i := i) z (by simpa using e)
      exact ⟨w, by simpa using h1, h2⟩
theorem reps_set : ∀ {ds : List D} {vs : List V} (i : Nat) {d : D} {v : V}, Reps T G ds vs → Rep T G d v → Reps T G (ds.set i d) (vs.set i v)
  | [], vs, i, d, v, h, k => by simp only [Reps] at h; subst h; exact reps_nil
  | d' :: ds, vs, i, d, v, h, k => by
    simp only [Reps] at h
    obtain ⟨w, r, rfl, q, z⟩ := h
    cases i with
    | zero => exact reps_cons k z
    | succ i => exact reps_cons q (reps_set i z k)
theorem reps_take : ∀ {ds : List D} {vs : List V} (n : Nat), Reps T G ds vs → Reps T G (ds.take n) (vs.take n)
  | [], vs, n, h => by simp only [Reps] at h; subst h; simp [Reps]
  | d :: ds, vs, n, h => by
    simp only [Reps] at h
    obtain ⟨w, r, rfl, q, z⟩ := h
    cases n with
    | zero => simp [Reps]
    | succ n => exact reps_cons q (reps_take n z)
theorem reps_drop : ∀ {ds : List D} {vs : List V} (n : Nat), Reps T G ds vs → Reps T G (ds.drop n) (vs.drop n)
  | [], vs, n, h => by simp only [Reps] at h; subst h; simp [Reps]
  | d :: ds, vs, n, h => by
    simp only [Reps] at h
    obtain ⟨w, r, rfl, q, z⟩ := h
    cases n with
    | zero => exact reps_cons q z
    | succ n => exact reps_drop n z
theorem reps_rev : ∀ {ds : List D} {vs : List V}, Reps T G ds vs → Reps T G ds.reverse vs.reverse
  | [], vs, h => by simp only [Reps] at h; subst h; simp [Reps]
  | d :: ds, vs, h => by
    simp only [Reps] at h
    obtain ⟨w, r, rfl, q, z⟩ := h
    rw [List.reverse_cons, List.reverse_cons]
    exact reps_snoc (reps_rev z) q
theorem reps_erase {ds : List D} {vs : List V} (n : Nat) (h : Reps T G ds vs) : Reps T G (ds.eraseIdx n) (vs.eraseIdx n) := by
  rw [List.eraseIdx_eq_take_drop_succ, List.eraseIdx_eq_take_drop_succ]
  exact reps_app (reps_take _ h) (reps_drop _ h)
theorem reps_ints : ∀ {xs : List Int} {vs : List V}, Reps T G (xs.map D.int) vs → vs = xs.map V.int
  | [], vs, h => by simpa only [List.map_nil, Reps] using h
  | x :: xs, vs, h => by
    simp only [List.map_cons, Reps] at h
    obtain ⟨w, r, rfl, q, z⟩ := h
    simp only [Rep] at q
    rw [q, reps_ints z]; rfl
theorem ints_reps : ∀ {xs : List Int}, Reps T G (xs.map D.int) (xs.map V.int)
  | [] => reps_nil
  | x :: xs => reps_cons (by simp only [Rep]) ints_reps
end

/-! ### the store -/
def CellRep (T : Kit) (G : Gh) (a : Addr) (H : Hp) : Cell → Prop
  | .lst ds => G.H a = none ∧ ∃ vs, H a = some (.lst vs) ∧ Reps T G ds vs
  | .frz ds => ∃ vs, G.H a = some (.lst vs) ∧ Reps T G ds vs
  | .dct ks ds => G.H a = none ∧ ∃ vs, H a = some (.dK (ks.zip vs)) ∧ ks.length = vs.length ∧ Reps T G ds vs
  | .ins c ds => G.H a = none ∧ ∃ dx vs, H a = some (.ins (T.cl c) dx ((T.fn c).zip vs)) ∧ vs.length ≤ (T.fn c).length ∧ Reps T G ds vs
  | .fro c ds => ∃ dx vs, G.H a = some (.ins (T.cl c) dx ((T.fn c).zip vs)) ∧ vs.length ≤ (T.fn c).length ∧ Reps T G ds vs

structure Held (T : Kit) (G : Gh) (S : Store) (H : Hp) : Prop where
  ext : ∀ a o, G.H a = some o → H a = some o
  len : G.m.length = S.length
  nd : G.m.Nodup
  cell : ∀ (k : Nat) (c : Cell) (a : Addr), S[k]? = some c → G.m[k]? = some a → CellRep T G a H c

/-- from one state to a later one -/
structure Step (G : Gh) (H : Hp) (G' : Gh) (H' : Hp) : Prop where
  le : Le G G'
  fr : ∀ a o, H a = some o → a ∉ G.m → H' a = some o ∧ a ∉ G'.m ∧ (G.H a = none → G'.H a = none)
theorem Step.refl {G : Gh} {H : Hp} : Step G H G H := ⟨.refl, fun _ _ h n => ⟨h, n, fun z => z⟩⟩
theorem Step.trans {G1 G2 G3 : Gh} {H1 H2 H3 : Hp} (a : Step G1 H1 G2 H2) (b : Step G2 H2 G3 H3) : Step G1 H1 G3 H3 := ⟨a.le.trans b.le, fun x o h n => by
  obtain ⟨p, q, r⟩ := a.fr x o h n
  obtain ⟨p', q', r'⟩ := b.fr x o p q
  exact ⟨p', q', fun z => r' (r z)⟩⟩

section
variable {T : Kit} {G : Gh} {S : Store} {H : Hp}
theorem Held.inm (h : Held T G S H) {k : Nat} (hk : k < S.length) : ∃ a, G.m[k]? = some a := ⟨G.m[k]'(by rw [h.len]; exact hk), List.getElem?_eq_getElem _⟩
theorem nodup_get {l : List Addr} (nd : l.Nodup) {i j : Nat} {a : Addr} (h1 : l[i]? = some a) (h2 : l[j]? = some a) : i = j := by
  obtain ⟨hi, e1⟩ := List.getElem?_eq_some_iff.mp h1
  obtain ⟨hj, e2⟩ := List.getElem?_eq_some_iff.mp h2
  exact (List.getElem_inj nd).mp (e1.trans e2.symm)
/-- the ghost of a frozen new object -/
def Gh.put (G : Gh) (p : Addr) (o : HO) : Gh := ⟨upd G.H p o, G.m⟩
theorem Gh.put_le {p : Addr} {o : HO} (h : G.H p = none) : Le G (G.put p o) := ⟨fun a u e => by
  show upd G.H p o a = some u
  rw [upd_ne (ne_of_none e h)]; exact e, [], by simp [Gh.put]⟩
theorem Held.fresh (h : Held T G S H) {p : Addr} (hp : H p = none) : G.H p = none := by
  cases e : G.H p with
  | none => rfl
  | some o => rw [h.ext p o e] at hp; cases hp
theorem CellRep.there {a : Addr} {c : Cell} (h : Held T G S H) (x : CellRep T G a H c) : ∃ o, H a = some o := by
  cases c <;> simp only [CellRep] at x
  · obtain ⟨_, vs, e, _⟩ := x; exact ⟨_, e⟩
  · obtain ⟨vs, e, _⟩ := x; exact ⟨_, h.ext _ _ e⟩
  · obtain ⟨_, vs, e, _⟩ := x; exact ⟨_, e⟩
  · obtain ⟨_, dx, vs, e, _⟩ := x; exact ⟨_, e⟩
  · obtain ⟨dx, vs, e, _⟩ := x; exact ⟨_, h.ext _ _ e⟩
theorem Held.notm (h : Held T G S H) {p : Addr} (hp : H p = none) : p ∉ G.m := fun hm => by
  obtain ⟨k, hk⟩ := List.getElem?_of_mem hm
  have hl : k < S.length := by rw [← h.len]; exact (List.getElem?_eq_some_iff.mp hk).1
  obtain ⟨o, e⟩ := (h.cell k _ p (List.getElem?_eq_getElem hl) hk).there h
  rw [e] at hp; cases hp
/-- an untouched cell stays -/
theorem CellRep.le {a : Addr} {c : Cell} {G' : Gh} {H' : Hp} (x : CellRep T G a H c) (l : Le G G') (hn : G.H a = none → G'.H a = none) (hh : G.H a = none → H' a = H a) : CellRep T G' a H' c := by
  cases c <;> simp only [CellRep] at x ⊢
  · obtain ⟨n, vs, e, r⟩ := x; exact ⟨hn n, vs, by rw [hh n]; exact e, r.le l⟩
  · obtain ⟨vs, e, r⟩ := x; exact ⟨vs, l.H _ _ e, r.le l⟩
  · obtain ⟨n, vs, e, z, r⟩ := x; exact ⟨hn n, vs, by rw [hh n]; exact e, z, r.le l⟩
  · obtain ⟨n, dx, vs, e, z, r⟩ := x; exact ⟨hn n, dx, vs, by rw [hh n]; exact e, z, r.le l⟩
  · obtain ⟨dx, vs, e, z, r⟩ := x; exact ⟨dx, vs, l.H _ _ e, z, r.le l⟩
/-- a new frozen object -/
theorem Held.new (h : Held T G S H) {p : Addr} {o : HO} (hp : H p = none) : Held T (G.put p o) S (upd H p o) ∧ Step G H (G.put p o) (upd H p o) := by
  have hG := h.fresh hp
  have l : Le G (G.put p o) := Gh.put_le hG
  have hm : ∀ {k : Nat} {a : Addr}, G.m[k]? = some a → a ≠ p := fun {k a} e z => h.notm hp (z ▸ List.mem_of_getElem? e)
  refine ⟨⟨fun a u e => ?_, h.len, h.nd, fun k c a e1 e2 => ?_⟩, l, fun a u e n => ⟨?_, n, fun z => ?_⟩⟩
  · by_cases ha : a = p
    · subst ha
      have e' : upd G.H a o a = some u := e
      rw [upd_same] at e' ⊢; exact e'
    · have e' : upd G.H p o a = some u := e
      rw [upd_ne ha] at e' ⊢; exact h.ext a u e'
  · have na := hm e2
    refine (h.cell k c a e1 e2).le l (fun z => ?_) fun z => upd_ne na
    show upd G.H p o a = none
    rw [upd_ne na]; exact z
  · rw [upd_ne (ne_of_none e hp)]; exact e
  · show upd G.H p o a = none
    rw [upd_ne (ne_of_none e hp)]; exact z
/-- an object beside -/
theorem Held.beside (h : Held T G S H) {p : Addr} {o : HO} (hp : H p = none) : Held T G S (upd H p o) ∧ Step G H G (upd H p o) := by
  have hG := h.fresh hp
  have hm : ∀ {k : Nat} {a : Addr}, G.m[k]? = some a → a ≠ p := fun {k a} e z => h.notm hp (z ▸ List.mem_of_getElem? e)
  refine ⟨⟨fun a u e => ?_, h.len, h.nd, fun k c a e1 e2 => ?_⟩, .refl, fun a u e n => ⟨?_, n, fun z => z⟩⟩
  · rw [upd_ne (ne_of_none e hG)]; exact h.ext a u e
  · exact (h.cell k c a e1 e2).le .refl (fun z => z) fun z => upd_ne (hm e2)
  · rw [upd_ne (ne_of_none e hp)]; exact e
/-- what stands beside is changed -/
theorem Held.beside_set (h : Held T G S H) {p : Addr} {o : HO} (hp : G.H p = none) (hm : p ∉ G.m) : Held T G S (upd H p o) := by
  refine ⟨fun a u e => ?_, h.len, h.nd, fun k c a e1 e2 => ?_⟩
  · rw [upd_ne (ne_of_none e hp)]; exact h.ext a u e
  · exact (h.cell k c a e1 e2).le .refl (fun z => z) fun z => upd_ne fun q => hm (q ▸ List.mem_of_getElem? e2)
/-- a new cell -/
def Gh.push (G : Gh) (p : Addr) : Gh := ⟨G.H, G.m ++ [p]⟩
theorem Gh.push_le {p : Addr} : Le G (G.push p) := ⟨fun _ _ e => e, [p], rfl⟩
theorem Held.cellNew (h : Held T G S H) {p : Addr} {o : HO} {c : Cell} (hp : H p = none) (hc : CellRep T (G.push p) p (upd H p o) c) : Held T (G.push p) (S ++ [c]) (upd H p o) ∧ Step G H (G.push p) (upd H p o) := by
  have hG := h.fresh hp
  have hm : ∀ {k : Nat} {a : Addr}, G.m[k]? = some a → a ≠ p := fun {k a} e z => h.notm hp (z ▸ List.mem_of_getElem? e)
  refine ⟨⟨fun a u e => ?_, ?_, ?_, fun k d a e1 e2 => ?_⟩, Gh.push_le, fun a u e n => ⟨?_, ?_, fun z => z⟩⟩
  · rw [upd_ne (ne_of_none e hG)]; exact h.ext a u e
  · show (G.m ++ [p]).length = _
    rw [List.length_append, List.length_append, h.len]; rfl
  · refine List.nodup_append.mpr ⟨h.nd, by simp, fun x hx y hy => ?_⟩
    simp at hy
    subst hy
    exact fun z => h.notm hp (z ▸ hx)
  · have hl := h.len
    have e2 : (G.m ++ [p])[k]? = some a := e2
    by_cases hk : k < S.length
    · rw [List.getElem?_append_left hk] at e1
      rw [List.getElem?_append_left (by omega)] at e2
      exact (h.cell k d a e1 e2).le Gh.push_le (fun z => z) fun z => upd_ne (hm e2)
    · rw [List.getElem?_append_right (by omega)] at e1 e2
      have hk2 : k - S.length = 0 := by
        have := (List.getElem?_eq_some_iff.mp e1).1
        simp at this
        omega
      rw [hk2] at e1
      rw [show k - G.m.length = 0 by omega] at e2
      simp at e1 e2
      subst e1; subst e2
      exact hc
  · rw [upd_ne (ne_of_none e hp)]; exact e
  · show a ∉ G.m ++ [p]
    rw [List.mem_append, List.mem_singleton]
    rintro (z | z)
    · exact n z
    · exact ne_of_none e hp z
/-- a cell is written -/
theorem Held.write (h : Held T G S H) {k : Nat} {p : Addr} {o : HO} {c c' : Cell} (hk : S[k]? = some c) (hm : G.m[k]? = some p) (hG : G.H p = none) (hc : CellRep T G p (upd H p o) c') :
    Held T G (S.set k c') (upd H p o) ∧ Step G H G (upd H p o) := by
  refine ⟨⟨fun a u e => ?_, ?_, h.nd, fun j d a e1 e2 => ?_⟩, .refl, fun a u e n => ⟨?_, n, fun z => z⟩⟩
  · rw [upd_ne (ne_of_none e hG)]; exact h.ext a u e
  · rw [List.length_set]; exact h.len
  · by_cases hj : j = k
    · subst hj
      rw [List.getElem?_set_self (List.getElem?_eq_some_iff.mp hk).1] at e1
      rw [hm] at e2
      cases e1; cases e2
      exact hc
    · rw [List.getElem?_set_ne (Ne.symm hj)] at e1
      exact (h.cell j d a e1 e2).le .refl (fun z => z) fun z => upd_ne fun q => hj (nodup_get h.nd (q ▸ e2) hm)
  · rw [upd_ne fun z => n (by rw [z]; exact List.mem_of_getElem? hm)]; exact e
/-- a cell is frozen: a ghost's step -/
theorem Held.freeze (h : Held T G S H) {k : Nat} {p : Addr} {o : HO} {c' : Cell} (hm : G.m[k]? = some p) (hG : G.H p = none) (ho : H p = some o) (hc : CellRep T (G.put p o) p H c') :
    Held T (G.put p o) (S.set k c') H ∧ Step G H (G.put p o) H := by
  have l : Le G (G.put p o) := Gh.put_le hG
  refine ⟨⟨fun a u e => ?_, ?_, h.nd, fun j d a e1 e2 => ?_⟩, l, fun a u e n => ⟨e, n, fun z => ?_⟩⟩
  · have e' : upd G.H p o a = some u := e
    by_cases ha : a = p
    · subst ha
      rw [upd_same] at e'; cases e'; exact ho
    · rw [upd_ne ha] at e'; exact h.ext a u e'
  · rw [List.length_set]; exact h.len
  · have e2' : G.m[j]? = some a := e2
    by_cases hj : j = k
    · subst hj
      rw [hm] at e2'
      cases e2'
      by_cases hl : j < S.length
      · rw [List.getElem?_set_self hl] at e1
        cases e1; exact hc
      · rw [List.getElem?_eq_none (by rw [List.length_set]; omega)] at e1; cases e1
    · rw [List.getElem?_set_ne (Ne.symm hj)] at e1
      have na : a ≠ p := fun q => hj (nodup_get h.nd (q ▸ e2') hm)
      refine (h.cell j d a e1 e2').le l (fun z => ?_) fun _ => rfl
      show upd G.H p o a = none
      rw [upd_ne na]; exact z
  · show upd G.H p o a = none
    rw [upd_ne fun q => n (by rw [q]; exact List.mem_of_getElem? hm)]; exact z
end
end Ev

set_option Elab.async false
set_option linter.all false
set_option maxRecDepth 100000
set_option maxHeartbeats 4000000
/-! EvB: what a reading evaluates to, by data; names, constants, operators, tests, displays. -/
namespace Ev
open PySem PySem.Spec PyProof.Rows L2

abbrev Envd := List (Option D)
structure EnvRep (T : Kit) (G : Gh) (env : Envd) (σ : L2.St) : Prop where
  len : env.length = σ.length
  get : ∀ (i : Nat) (d : D), env[i]? = some (some d) → ∃ v, σ[i]? = some (some v) ∧ Rep T G d v
theorem EnvRep.le {T : Kit} {G G' : Gh} {env : Envd} {σ : L2.St} (l : Le G G') (h : EnvRep T G env σ) : EnvRep T G' env σ := ⟨h.len, fun i d e => by
  obtain ⟨v, h1, h2⟩ := h.get i d e
  exact ⟨v, h1, h2.le l⟩⟩
theorem EnvRep.set {T : Kit} {G : Gh} {env : Envd} {σ : L2.St} (h : EnvRep T G env σ) (i : Nat) {d : D} {v : V} (r : Rep T G d v) : EnvRep T G (env.set i (some d)) (σ.set i (some v)) := by
  refine ⟨by rw [List.length_set, List.length_set]; exact h.len, fun j e q => ?_⟩
  by_cases hj : j = i
  · subst hj
    by_cases hl : j < env.length
    · rw [List.getElem?_set_self hl] at q
      cases q
      exact ⟨v, List.getElem?_set_self (by rw [← h.len]; exact hl), r⟩
    · rw [List.getElem?_eq_none (by rw [List.length_set]; omega)] at q; cases q
  · rw [List.getElem?_set_ne (Ne.symm hj)] at q
    obtain ⟨w, h1, h2⟩ := h.get j e q
    exact ⟨w, by rw [List.getElem?_set_ne (Ne.symm hj)]; exact h1, h2⟩
theorem EnvRep.kill {T : Kit} {G : Gh} {env : Envd} {σ : L2.St} (h : EnvRep T G env σ) (i : Nat) : EnvRep T G (env.set i none) σ := by
  refine ⟨by rw [List.length_set]; exact h.len, fun j e q => ?_⟩
  by_cases hj : j = i
  · subst hj
    by_cases hl : j < env.length
    · rw [List.getElem?_set_self hl] at q; cases q
    · rw [List.getElem?_eq_none (by rw [List.length_set]; omega)] at q; cases q
  · rw [List.getElem?_set_ne (Ne.symm hj)] at q
    exact h.get j e q
theorem EnvRep.kill2 {T : Kit} {G : Gh} {env : Envd} {σ : L2.St} (h : EnvRep T G env σ) (i : Nat) (w : Option V) : EnvRep T G (env.set i none) (σ.set i w) := by
  refine ⟨by rw [List.length_set, List.length_set]; exact h.len, fun j e q => ?_⟩
  by_cases hj : j = i
  · subst hj
    by_cases hl : j < env.length
    · rw [List.getElem?_set_self hl] at q; cases q
    · rw [List.getElem?_eq_none (by rw [List.length_set]; omega)] at q; cases q
  · rw [List.getElem?_set_ne (Ne.symm hj)] at q
    obtain ⟨w, h1, h2⟩ := h.get j e q
    exact ⟨w, by rw [List.getElem?_set_ne (Ne.symm hj)]; exact h1, h2⟩
theorem EnvRep.get_of {T : Kit} {G : Gh} {env : Envd} {σ : L2.St} (h : EnvRep T G env σ) {i : Nat} {d : D} (e : env[i]? = some (some d)) : ∃ v, σ[i]? = some (some v) ∧ Rep T G d v := h.get i d e

/-- an exception: its class, its own fields -/
def ExcRep (T : Kit) (G : Gh) (c : Nat) (fs : List D) (cls : Value) (dx : Option Addr) : Prop :=
  cls = .ref (T.cl c) ∧ ((fs = [] ∧ dx = none) ∨ (fs ≠ [] ∧ ∃ a vs, dx = some a ∧ G.H a = some (.xd ((T.fn c).zip vs)) ∧ vs.length = (T.fn c).length ∧ Reps T G fs vs))

/-- what is wanted of a run's end -/
def Pst {α β : Type} (T : Kit) (rel : Gh → α → β → Prop) (G : Gh) (H : Hp) (W : XK) (r : R α) (Q : Gh → Store → α → β → Hp → Prop) : Prop := match r with
  | .ok a S' => ∀ G' H' b, Step G H G' H' → Held T G' S' H' → rel G' a b → Q G' S' a b H'
  | .exc c fs S' => ∀ G' H' cls dx, Step G H G' H' → Held T G' S' H' → ExcRep T G' c fs cls dx → W cls dx H'
  | .stuck => False
abbrev PV (T : Kit) (G : Gh) (H : Hp) (W : XK) (r : R D) (Q : VK) : Prop := Pst T (Rep T) G H W r fun _ _ _ v H' => Q v H'
section
variable {T : Kit} {α β γ δ : Type} {rel : Gh → α → β → Prop} {rel2 : Gh → γ → δ → Prop} {G G1 : Gh} {H H1 : Hp} {W : XK} {S : Store}
theorem Pst.later {r : R α} {Q : Gh → Store → α → β → Hp → Prop} (st : Step G H G1 H1) (h : Pst T rel G H W r Q) : Pst T rel G1 H1 W r Q := by
  cases r with
  | ok a S' => exact fun G' H' b s => h G' H' b (st.trans s)
  | exc c fs S' => exact fun G' H' cls dx s => h G' H' cls dx (st.trans s)
  | stuck => exact h
theorem Pst.mono {r : R α} {Q Q' : Gh → Store → α → β → Hp → Prop} (h : Pst T rel G H W r Q) (k : ∀ G' S' a b H', Step G H G' H' → Held T G' S' H' → rel G' a b → Q G' S' a b H' → Q' G' S' a b H') : Pst T rel G H W r Q' := by
  cases r with
  | ok a S' => exact fun G' H' b s hd rr => k _ _ _ _ _ s hd rr (h G' H' b s hd rr)
  | exc c fs S' => exact h
  | stuck => exact h
theorem Pst.bnd {m : M α} {f : α → M γ} {Q : Gh → Store → γ → δ → Hp → Prop} (h : Pst T rel2 G H W (bnd m f S) Q) :
    Pst T rel G H W (m S) fun G' S' a b H' => Pst T rel2 G' H' W (f a S') Q := by
  unfold Ev.bnd at h
  cases e : m S with
  | ok a S' =>
    rw [e] at h
    exact fun G' H' b s hd rr => h.later s
  | exc c fs S' =>
    rw [e] at h
    exact h
  | stuck =>
    rw [e] at h
    exact h
theorem Pst.ret {a : α} {b : β} {Q : Gh → Store → α → β → Hp → Prop} (h : Pst T rel G H W (ret a S) Q) (hd : Held T G S H) (r : rel G a b) : Q G S a b H := h G H b .refl hd r
theorem Pst.ok {a : α} {b : β} {Q : Gh → Store → α → β → Hp → Prop} (h : Pst T rel G H W (.ok a S) Q) (hd : Held T G S H) (r : rel G a b) : Q G S a b H := h G H b .refl hd r
end

/-- a wish for exceptions that speaks of the slots -/
abbrev at_ (W : WX) (σ : L2.St) : XK := fun c d H => W c d σ H
/-- an expression's reading, by data -/
def tV (T : Kit) (W : WX) (f : Envd → M D) : TE := fun σ H Q => ∃ G S env, EnvRep T G env σ ∧ Held T G S H ∧ PV T G H (at_ W σ) (f env S) Q
def tB2 (T : Kit) (W : WX) (f : Envd → M Bool) : TT := fun σ H Q => ∃ G S env, EnvRep T G env σ ∧ Held T G S H ∧ Pst T (fun _ (a b : Bool) => b = a) G H (at_ W σ) (f env S) fun _ _ _ b H' => Q b H'
def tAs (T : Kit) (W : WX) (f : Envd → M (List D)) : TA := fun σ H Q => ∃ G S env, EnvRep T G env σ ∧ Held T G S H ∧ Pst T (Reps T) G H (at_ W σ) (f env S) fun _ _ _ vs H' => Q vs H'
abbrev VE (T : Kit) (X : Cx) (W : WX) (e : Expr) (f : Envd → M D) : Prop := PE X e (tV T W f)
abbrev VT (T : Kit) (X : Cx) (W : WX) (e : Expr) (f : Envd → M Bool) : Prop := PT X e (tB2 T W f)
abbrev VW (T : Kit) (X : Cx) (W : WX) (e : Expr) (f : Envd → M Bool) : Prop := PW X e (tB2 T W f)
abbrev VA (T : Kit) (X : Cx) (W : WX) (es : List Expr) (f : Envd → M (List D)) : Prop := PA X es (tAs T W f)

theorem _root_.L2.PE.imp {X : Cx} {e : Expr} {t t' : TE} (h : PE X e t) (k : ∀ σ H Q, t' σ H Q → t σ H Q) : PE X e t' := ⟨fun pins s σ H Q I q => h.run pins s σ H Q I (k _ _ _ q)⟩
theorem _root_.L2.PT.imp {X : Cx} {e : Expr} {t t' : TT} (h : PT X e t) (k : ∀ σ H Q, t' σ H Q → t σ H Q) : PT X e t' := ⟨fun pins s σ H Q I q => h.run pins s σ H Q I (k _ _ _ q)⟩
theorem _root_.L2.PW.imp {X : Cx} {e : Expr} {t t' : TT} (h : PW X e t) (k : ∀ σ H Q, t' σ H Q → t σ H Q) : PW X e t' := ⟨fun w pins s σ H Q I q => h.run w pins s σ H Q I (k _ _ _ q)⟩
theorem _root_.L2.PA.imp {X : Cx} {e : List Expr} {t t' : TA} (h : PA X e t) (k : ∀ σ H Q, t' σ H Q → t σ H Q) : PA X e t' := ⟨fun w pins s σ H Q I q => h.run w pins s σ H Q I (k _ _ _ q)⟩
theorem _root_.L2.PS.imp {X : Cx} {e : Stmt} {t t' : TS} (h : PS X e t) (k : ∀ D σ H, t' D σ H → t D σ H) : PS X e t' := ⟨fun pins s σ H Q I q => h.run pins s σ H Q I (k _ _ _ q)⟩
theorem _root_.L2.PSs.imp {X : Cx} {e : List Stmt} {t t' : TS} (h : PSs X e t) (k : ∀ D σ H, t' D σ H → t D σ H) : PSs X e t' := ⟨fun pins s σ H Q I q => h.run pins s σ H Q I (k _ _ _ q)⟩

/-! ### names and constants -/
def sVar (i : Nat) : Envd → M D := fun env => match env[i]? with
  | some (some d) => ret d
  | _ => stk
section
variable {T : Kit} {X : Cx} {W : WX} {pos : Pos}
theorem ve_var {i : Nat} {x : Str} (hN : X.N[i]? = some x) (hv : Vis X.env.scope x) (hd : (x == ("__debug__" : Str)) = false) (hcd : (x == ("__classdict__" : Str)) = false) : VE T X W (.Name x pos) (sVar i) := by
  refine (pe_var hN hv hd hcd).imp fun σ H Q ⟨G, S, env, hE, hH, p⟩ => ?_
  cases e : env[i]? with
  | none => simp only [sVar, e] at p; exact p.elim
  | some o =>
    cases o with
    | none => simp only [sVar, e] at p; exact p.elim
    | some d =>
      simp only [sVar, e] at p
      obtain ⟨v, h1, h2⟩ := hE.get i d e
      exact ⟨v, h1, p.ret hH h2⟩
theorem ve_c {e : Expr} {v : V} {d : D} (h : PE X e (tC v)) (r : ∀ G, Rep T G d v) : VE T X W e (fun _ => ret d) :=
  h.imp fun σ H Q ⟨G, S, env, hE, hH, p⟩ => p.ret hH (r G)
theorem ve_int {i : Int} {j} : VE T X W (.Constant (.int i) j pos) (fun _ => ret (.int i)) := ve_c pe_int fun _ => by simp only [Rep]
theorem ve_bl {b : Bool} {j} : VE T X W (.Constant (.bool b) j pos) (fun _ => ret (.bl b)) := ve_c pe_bl fun _ => by simp only [Rep]
theorem ve_non {j} : VE T X W (.Constant .none j pos) (fun _ => ret .non) := ve_c pe_non fun _ => by simp only [Rep]
theorem ve_str {x : Str} {j} : VE T X W (.Constant (.str x) j pos) (fun _ => ret (.str x)) := ve_c pe_str fun _ => by simp only [Rep]
/-- a module's constant -/
theorem ve_glob {x : Str} {v : V} {u : Value} {d : D} (hg : Gl X x) (hm : X.mg x = some u) (r : RelV v u) (hr : ∀ G, Rep T G d v) (hd : (x == ("__debug__" : Str)) = false) : VE T X W (.Name x pos) (fun _ => ret d) := ve_c (pe_glob hg hm r hd) hr

/-! ### two operands -/
theorem tOp_of {r : R2} {fa fb : Envd → M D} {g : D → D → M D}
    (hr : ∀ (W : XK) (G : Gh) (S : Store) (H : Hp) (d e : D) (x y : V) (Q : VK), Held T G S H → Rep T G d x → Rep T G e y → PV T G H W (g d e S) Q → r x y H Q) (σ : L2.St) (H : Hp) (Q : VK)
    (h : tV T W (fun env => bnd (fa env) fun d => bnd (fb env) fun e => g d e) σ H Q) : tOp r (tV T W fa) (tV T W fb) σ H Q := by
  obtain ⟨G, S, env, hE, hH, p⟩ := h
  refine ⟨G, S, env, hE, hH, (p.bnd (rel := Rep T)).mono fun G1 S1 d x H1 st1 hd1 r1 p1 => ?_⟩
  refine ⟨G1, S1, env, hE.le st1.le, hd1, (p1.bnd (rel := Rep T)).mono fun G2 S2 e y H2 st2 hd2 r2 p2 => ?_⟩
  exact hr _ _ _ _ _ _ _ _ _ hd2 (r1.le st2.le) r2 p2
theorem ve_op {op : Operator} {r : R2} {a b : Expr} {fa fb : Envd → M D} {g : D → D → M D} (ho : OpR X (binaryOp op) r)
    (hr : ∀ (W : XK) (G : Gh) (S : Store) (H : Hp) (d e : D) (x y : V) (Q : VK), Held T G S H → Rep T G d x → Rep T G e y → PV T G H W (g d e S) Q → r x y H Q)
    (ha : VE T X W a fa) (hb : VE T X W b fb) : VE T X W (.BinOp a op b pos) (fun env => bnd (fa env) fun d => bnd (fb env) fun e => g d e) :=
  (pe_op ho ha hb).imp (tOp_of hr)
theorem ve_cmp {op : CmpOp} {r : R2} {a b : Expr} {fa fb : Envd → M D} {g : D → D → M D} (ho : OpR X (compareOp op) r) (hm : behindInMarks op b = false)
    (hr : ∀ (W : XK) (G : Gh) (S : Store) (H : Hp) (d e : D) (x y : V) (Q : VK), Held T G S H → Rep T G d x → Rep T G e y → PV T G H W (g d e S) Q → r x y H Q)
    (ha : VE T X W a fa) (hb : VE T X W b fb) : VE T X W (.Compare a [op] [b] pos) (fun env => bnd (fa env) fun d => bnd (fb env) fun e => g d e) :=
  (pe_cmpR ho ha hb hm).imp (tOp_of hr)
end

/-- a truth value as a Bool -/
def asB : D → M Bool
  | .bl b => ret b
  | _ => stk
/-- a new list: a cell, or frozen at once -/
def newL (mu : Bool) (ds : List D) : M D := fun S => if mu then .ok (.ref S.length) (S ++ [.lst ds]) else .ok (.lst ds) S
section
variable {T : Kit} {G : Gh} {S : Store} {H : Hp} {W : XK}
theorem newL_ok {mu : Bool} {ds : List D} {vs : List V} {Q : VK} (hH : Held T G S H) (r : Reps T G ds vs) (p : PV T G H W (newL mu ds S) Q) : ∀ a, H a = none → Q (.ref a) (upd H a (.lst vs)) := by
  intro a ha
  unfold newL at p
  cases mu with
  | true =>
    have hn := hH.cellNew (p := a) (o := .lst vs) (c := .lst ds) ha ⟨hH.fresh ha, vs, upd_same, r.le Gh.push_le⟩
    refine p _ _ _ hn.2 hn.1 ?_
    simp only [Rep]
    refine ⟨a, rfl, ?_⟩
    show (G.m ++ [a])[S.length]? = some a
    rw [← hH.len, List.getElem?_append_right (Nat.le_refl _), Nat.sub_self]; rfl
  | false =>
    have hn := hH.new (p := a) (o := .lst vs) ha
    refine p _ _ _ hn.2 hn.1 ?_
    simp only [Rep]
    exact ⟨a, vs, rfl, upd_same, r.le hn.2.le⟩
theorem newT_ok {ds : List D} {vs : List V} {Q : VK} (hH : Held T G S H) (r : Reps T G ds vs) (p : PV T G H W (ret (.tup ds) S) Q) : ∀ a, H a = none → Q (.ref a) (upd H a (.tup vs)) := by
  intro a ha
  have hn := hH.new (p := a) (o := .tup vs) ha
  refine p _ _ _ hn.2 hn.1 ?_
  simp only [Rep]
  exact ⟨a, vs, rfl, SqT.of upd_same, r.le hn.2.le⟩
/-- what lies in a list -/
def seqL (S : Store) : D → Option (List D)
  | .lst xs => some xs
  | .ref k => match S[k]? with
    | some (.lst xs) => some xs
    | some (.frz xs) => some xs
    | _ => none
  | _ => none
theorem seqL_ok {d : D} {x : V} {ds : List D} (hH : Held T G S H) (r : Rep T G d x) (e : seqL S d = some ds) : ∃ a vs, x = .ref a ∧ H a = some (.lst vs) ∧ Reps T G ds vs := by
  cases d <;> simp only [seqL] at e <;> try cases e
  · simp only [Rep] at r
    obtain ⟨a, vs, rfl, q, z⟩ := r
    exact ⟨a, vs, rfl, hH.ext _ _ q, z⟩
  · rename_i k
    simp only [Rep] at r
    obtain ⟨a, rfl, q⟩ := r
    split at e
    · rename_i xs hk
      cases e
      have c := hH.cell k _ a hk q
      simp only [CellRep] at c
      obtain ⟨_, vs, c1, c2⟩ := c
      exact ⟨a, vs, rfl, c1, c2⟩
    · rename_i xs hk
      cases e
      have c := hH.cell k _ a hk q
      simp only [CellRep] at c
      obtain ⟨vs, c1, c2⟩ := c
      exact ⟨a, vs, rfl, hH.ext _ _ c1, c2⟩
    · cases e
def seqT : D → Option (List D)
  | .tup xs => some xs
  | _ => none
theorem seqT_ok {K : PySem.W.Frag} {d : D} {x : V} {ds : List D} (hK : T.K = K) (hH : Held T G S H) (r : Rep T G d x) (e : seqT d = some ds) : ∃ a vs, x = .ref a ∧ SqT K H a vs ∧ Reps T G ds vs := by
  cases d <;> simp only [seqT] at e <;> try cases e
  simp only [Rep] at r
  obtain ⟨a, vs, rfl, q, z⟩ := r
  exact ⟨a, vs, rfl, hK ▸ sqT_le hH.ext q, z⟩
end

/-! ### + - * // % ** -/
def dAdd (mu : Bool) (d e : D) : M D := match d, e with
  | .int i, .int j => ret (.int (i + j))
  | .str i, .str j => if i.length + j.length ≤ sizeLine then ret (.str (i ++ j)) else stk
  | d, e => fun S => match seqL S d, seqL S e with
    | some xs, some ys => if xs.length + ys.length ≤ sizeLine then newL mu (xs ++ ys) S else .stuck
    | _, _ => .stuck
def rAddA : R2 := fun x y H Q => rI0 (fun i j => .int (i + j)) x y H Q ∨ ((∃ i j, x = .str i ∧ y = .str j ∧ i.length + j.length ≤ sizeLine ∧ Q (.str (i ++ j)) H) ∨ rCat x y H Q)
section
variable {T : Kit} {X : Cx} {W : WX} {pos : Pos} {a b : Expr} {fa fb : Envd → M D}
theorem ve_add {mu : Bool} (ha : VE T X W a fa) (hb : VE T X W b fb) : VE T X W (.BinOp a .Add b pos) (fun env => bnd (fa env) fun d => bnd (fb env) fun e => dAdd mu d e) := by
  refine ve_op (r := rAddA) (op_add.or (op_add_str.or op_cat)) (fun W G S H d e x y Q hH r1 r2 p => ?_) ha hb
  unfold dAdd at p
  split at p
  · simp only [Rep] at r1 r2
    subst r1; subst r2
    exact .inl ⟨_, _, rfl, rfl, p.ret hH (by simp only [Rep])⟩
  · split at p
    · rename_i hz
      simp only [Rep] at r1 r2
      subst r1; subst r2
      exact .inr (.inl ⟨_, _, rfl, rfl, hz, p.ret hH (by simp only [Rep])⟩)
    · exact p.elim
  · dsimp only at p
    split at p
    · rename_i xs ys e1 e2
      split at p
      · rename_i hz
        obtain ⟨l, vs, rfl, q1, z1⟩ := seqL_ok hH r1 e1
        obtain ⟨l2, ws, rfl, q2, z2⟩ := seqL_ok hH r2 e2
        exact .inr (.inr ⟨l, l2, vs, ws, rfl, rfl, q1, q2, by rw [← z1.len, ← z2.len]; exact hz, newL_ok hH (reps_app z1 z2) p⟩)
      · exact p.elim
    · exact p.elim
def dSub : D → D → M D
  | .int i, .int j => ret (.int (i - j))
  | _, _ => stk
theorem ve_sub (ha : VE T X W a fa) (hb : VE T X W b fb) : VE T X W (.BinOp a .Sub b pos) (fun env => bnd (fa env) fun d => bnd (fb env) fun e => dSub d e) := by
  refine ve_op op_sub (fun W G S H d e x y Q hH r1 r2 p => ?_) ha hb
  unfold dSub at p
  split at p
  · simp only [Rep] at r1 r2
    subst r1; subst r2
    exact ⟨_, _, rfl, rfl, p.ret hH (by simp only [Rep])⟩
  · exact p.elim
theorem reps_flat {T : Kit} {G : Gh} {ds : List D} {vs : List V} (h : Reps T G ds vs) : ∀ n : Nat, Reps T G (List.replicate n ds).flatten (List.replicate n vs).flatten
  | 0 => by simp [Reps]
  | n + 1 => by
    rw [List.replicate_succ, List.replicate_succ, List.flatten_cons, List.flatten_cons]
    exact reps_app h (reps_flat h n)
def dMul (mu : Bool) (d e : D) : M D := match d, e with
  | .int i, .int j => if i.natAbs.log2 + j.natAbs.log2 < 1000000 then ret (.int (i * j)) else stk
  | .str x, .int k => if 0 ≤ k ∧ k ≤ 1000 ∧ x.length ≤ 1000 then ret (.str (Txt.mul x k)) else stk
  | d, .int k => fun S => match seqL S d with
    | some xs => if -(2 ^ 63) ≤ k ∧ k < 2 ^ 63 ∧ xs.length * k.toNat ≤ sizeLine then newL mu (List.replicate k.toNat xs).flatten S else .stuck
    | none => .stuck
  | _, _ => stk
def rRepS : R2 := fun x y H Q => ∃ a k, x = .str a ∧ y = .int k ∧ 0 ≤ k ∧ k ≤ 1000 ∧ a.length ≤ 1000 ∧ Q (.str (Txt.mul a k)) H
theorem mulOk_small {a : Str} {k : Int} (h0 : 0 ≤ k) (h1 : k ≤ 1000) (h2 : a.length ≤ 1000) : MulOk a k := by
  refine ⟨?_, fun c _ => ?_, fun _ _ => ?_⟩
  · rw [Bool.or_eq_false_iff, decide_eq_false_iff_not, decide_eq_false_iff_not]
    omega
  · have : (1000 : Int) ≤ (2 ^ 63 - 1) / k := by
      rw [Int.le_ediv_iff_mul_le (by omega)]
      omega
    omega
  · have hm : a.length * k.toNat ≤ 1000 * 1000 := Nat.mul_le_mul h2 (by omega)
    unfold Builtin.Str.tooLong
    rw [decide_eq_false_iff_not, sizeLine_eq]
    omega
theorem op_repS {X : Cx} : OpR X (binaryOp .Mult) rRepS := by
  intro pins s σ H x y v u Q I rx ry h
  obtain ⟨a, k, rfl, rfl, h0, h1, h2, q⟩ := h
  obtain ⟨t, rfl⟩ := rx
  obtain ⟨t', rfl⟩ := ry
  exact SB.mul (mulOk_small h0 h1 h2) fun t' tk => ⟨.str (Txt.mul a k), H, I.tok _, ⟨_, rfl⟩, q⟩
def rMulA : R2 := fun x y H Q => rI CMulW (fun i j => .int (i * j)) x y H Q ∨ (rRep x y H Q ∨ rRepS x y H Q)
theorem ve_mul {mu : Bool} (ha : VE T X W a fa) (hb : VE T X W b fb) : VE T X W (.BinOp a .Mult b pos) (fun env => bnd (fa env) fun d => bnd (fb env) fun e => dMul mu d e) := by
  refine ve_op (r := rMulA) (op_mulW.or (op_rep.or op_repS)) (fun W G S H d e x y Q hH r1 r2 p => ?_) ha hb
  unfold dMul at p
  split at p
  · split at p
    · rename_i hz
      simp only [Rep] at r1 r2
      subst r1; subst r2
      exact .inl ⟨_, _, rfl, rfl, hz, p.ret hH (by simp only [Rep])⟩
    · exact p.elim
  · split at p
    · rename_i hz
      simp only [Rep] at r1 r2
      subst r1; subst r2
      exact .inr (.inr ⟨_, _, rfl, rfl, hz.1, hz.2.1, hz.2.2, p.ret hH (by simp only [Rep])⟩)
    · exact p.elim
  · dsimp only at p
    split at p
    · rename_i xs e1
      split at p
      · rename_i hz
        simp only [Rep] at r2
        subst r2
        obtain ⟨l, vs, rfl, q1, z1⟩ := seqL_ok hH r1 e1
        exact .inr (.inl ⟨l, _, vs, rfl, rfl, q1, hz.1, hz.2.1, by rw [← z1.len]; exact hz.2.2, newL_ok hH (reps_flat z1 _) p⟩)
      · exact p.elim
    · exact p.elim
  · exact p.elim
def dDiv : D → D → M D
  | .int i, .int j => if 0 < j ∧ j.natAbs.log2 < 9000 then ret (.int (i / j)) else stk
  | _, _ => stk
theorem ve_div (ha : VE T X W a fa) (hb : VE T X W b fb) : VE T X W (.BinOp a .FloorDiv b pos) (fun env => bnd (fa env) fun d => bnd (fb env) fun e => dDiv d e) := by
  refine ve_op op_fdivW (fun W G S H d e x y Q hH r1 r2 p => ?_) ha hb
  unfold dDiv at p
  split at p
  · split at p
    · rename_i hz
      simp only [Rep] at r1 r2
      subst r1; subst r2
      exact ⟨_, _, rfl, rfl, hz, p.ret hH (by simp only [Rep])⟩
    · exact p.elim
  · exact p.elim
def dMod : D → D → M D
  | .int i, .int j => if 0 < j then ret (.int (i % j)) else stk
  | _, _ => stk
theorem ve_mod (ha : VE T X W a fa) (hb : VE T X W b fb) : VE T X W (.BinOp a .Mod b pos) (fun env => bnd (fa env) fun d => bnd (fb env) fun e => dMod d e) := by
  refine ve_op op_mod (fun W G S H d e x y Q hH r1 r2 p => ?_) ha hb
  unfold dMod at p
  split at p
  · split at p
    · rename_i hz
      simp only [Rep] at r1 r2
      subst r1; subst r2
      exact ⟨_, _, rfl, rfl, hz, p.ret hH (by simp only [Rep])⟩
    · exact p.elim
  · exact p.elim
def dPow : D → D → M D
  | .int i, .int j => if 0 ≤ j ∧ (Builtin.Int.intBits i : Int) * j ≤ 2 ^ 27 then ret (.int (i ^ j.toNat)) else stk
  | _, _ => stk
def CPowW (i j : Int) : Prop := 0 ≤ j ∧ (Builtin.Int.intBits i : Int) * j ≤ 2 ^ 27
theorem op_powW : OpR X (binaryOp .Pow) (rI CPowW fun i j => .int (i ^ j.toNat)) := opI fun _ _ _ _ _ _ _ hc q => pow_int hc.1 hc.2 q
theorem ve_pow (ha : VE T X W a fa) (hb : VE T X W b fb) : VE T X W (.BinOp a .Pow b pos) (fun env => bnd (fa env) fun d => bnd (fb env) fun e => dPow d e) := by
  refine ve_op op_powW (fun W G S H d e x y Q hH r1 r2 p => ?_) ha hb
  unfold dPow at p
  split at p
  · split at p
    · rename_i hz
      simp only [Rep] at r1 r2
      subst r1; subst r2
      exact ⟨_, _, rfl, rfl, hz, p.ret hH (by simp only [Rep])⟩
    · exact p.elim
  · exact p.elim
def dNeg : D → M D
  | .int i => ret (.int (-i))
  | _ => stk
theorem ve_neg (ha : VE T X W a fa) : VE T X W (.UnaryOp .USub a pos) (fun env => bnd (fa env) dNeg) := by
  refine (pe_un un_neg ha).imp fun σ H Q ⟨G, S, env, hE, hH, p⟩ => ?_
  refine ⟨G, S, env, hE, hH, (p.bnd (rel := Rep T)).mono fun G1 S1 d x H1 st1 hd1 r1 p1 => ?_⟩
  unfold dNeg at p1
  split at p1
  · simp only [Rep] at r1
    subst r1
    exact ⟨_, rfl, p1.ret hd1 (by simp only [Rep])⟩
  · exact p1.elim

/-! ### argument lists, displays -/
def sNil : Envd → M (List D) := fun _ => ret []
def sCons (f : Envd → M D) (g : Envd → M (List D)) : Envd → M (List D) := fun env => bnd (f env) fun d => bnd (g env) fun ds => ret (d :: ds)
theorem va_nil : VA T X W [] sNil := pa_nil.imp fun σ H Q ⟨G, S, env, hE, hH, p⟩ => p.ret hH reps_nil
theorem va_cons {es : List Expr} {g : Envd → M (List D)} (ha : VE T X W a fa) (hr : VA T X W es g) (hs : starEach (a :: es) X.env = (false, eval a X.env) :: starEach es X.env) : VA T X W (a :: es) (sCons fa g) := by
  refine (pa_cons ha hr hs).imp fun σ H Q ⟨G, S, env, hE, hH, p⟩ => ?_
  refine ⟨G, S, env, hE, hH, (p.bnd (rel := Rep T)).mono fun G1 S1 d x H1 st1 hd1 r1 p1 => ?_⟩
  refine ⟨G1, S1, env, hE.le st1.le, hd1, (p1.bnd (rel := Reps T)).mono fun G2 S2 ds vs H2 st2 hd2 r2 p2 => ?_⟩
  exact p2.ret hd2 (reps_cons (r1.le st2.le) r2)
theorem ve_lst {mu : Bool} {es : List Expr} {g : Envd → M (List D)} (h : VA T X W es g) : VE T X W (.List es pos) (fun env => bnd (g env) fun ds => if ds.length ≤ sizeLine then newL mu ds else stk) := by
  refine (pe_lst h).imp fun σ H Q ⟨G, S, env, hE, hH, p⟩ => ?_
  refine ⟨G, S, env, hE, hH, (p.bnd (rel := Reps T)).mono fun G1 S1 ds vs H1 st1 hd1 r1 p1 => ?_⟩
  split at p1
  · rename_i hz
    exact ⟨by rw [← r1.len]; exact hz, newL_ok hd1 r1 p1⟩
  · exact p1.elim
theorem ve_tup {es : List Expr} {k : Nat} {g : Envd → M (List D)} (h : VA T X W es g) : VE T X W (.Tuple es k pos) (fun env => bnd (g env) fun ds => if ds.length ≤ sizeLine then ret (.tup ds) else stk) := by
  refine (pe_tup h).imp fun σ H Q ⟨G, S, env, hE, hH, p⟩ => ?_
  refine ⟨G, S, env, hE, hH, (p.bnd (rel := Reps T)).mono fun G1 S1 ds vs H1 st1 hd1 r1 p1 => ?_⟩
  split at p1
  · rename_i hz
    exact ⟨by rw [← r1.len]; exact hz, newT_ok hd1 r1 p1⟩
  · exact p1.elim

/-! ### tests -/
theorem vt_val {f : Envd → M D} (h : VE T X W a f) (he : ∀ whole, isTrue a X.env whole = (do let v ← whole; standAt a.pos; holding [v] (truthy v))) : VT T X W a (fun env => bnd (f env) asB) := by
  refine (pt_val h he).imp fun σ H Q ⟨G, S, env, hE, hH, p⟩ => ?_
  refine ⟨G, S, env, hE, hH, (p.bnd (rel := Rep T)).mono fun G1 S1 d x H1 st1 hd1 r1 p1 => ?_⟩
  unfold asB at p1
  split at p1
  · simp only [Rep] at r1
    subst r1
    exact ⟨_, rfl, p1.ret hd1 rfl⟩
  · exact p1.elim
theorem vt_cmp {op : CmpOp} {r : R2} {g : D → D → M D} (ho : OpR X (compareOp op) r) (hm : behindInMarks op b = false)
    (hr : ∀ (W : XK) (G : Gh) (S : Store) (H : Hp) (d e : D) (x y : V) (Q : VK), Held T G S H → Rep T G d x → Rep T G e y → PV T G H W (g d e S) Q → r x y H Q)
    (ha : VE T X W a fa) (hb : VE T X W b fb) : VT T X W (.Compare a [op] [b] pos) (fun env => bnd (bnd (fa env) fun d => bnd (fb env) fun e => g d e) asB) := by
  refine (pt_cmpR ho ha hb hm).imp fun σ H Q ⟨G, S, env, hE, hH, p⟩ => ?_
  refine tOp_of hr σ H _ ⟨G, S, env, hE, hH, (p.bnd (rel := Rep T)).mono fun G1 S1 d x H1 st1 hd1 r1 p1 => ?_⟩
  unfold asB at p1
  split at p1
  · simp only [Rep] at r1
    subst r1
    exact ⟨_, rfl, p1.ret hd1 rfl⟩
  · exact p1.elim
def sAnd (f g : Envd → M Bool) : Envd → M Bool := fun env => bnd (f env) fun c => if c = true then g env else ret false
def sOr (f g : Envd → M Bool) : Envd → M Bool := fun env => bnd (f env) fun c => if c = true then ret true else g env
def sNot (f : Envd → M Bool) : Envd → M Bool := fun env => bnd (f env) fun c => ret (!c)
theorem vw_and1 {f : Envd → M Bool} (h : VT T X W a f) : VW T X W (.BoolOp .And [a] pos) f := pw_and1 h
theorem vw_or1 {f : Envd → M Bool} (h : VT T X W a f) : VW T X W (.BoolOp .Or [a] pos) f := pw_or1 h
theorem vw_and {es : List Expr} {f g : Envd → M Bool} (ha : VT T X W a f) (hb : VW T X W (.BoolOp .And (b :: es) pos) g) : VW T X W (.BoolOp .And (a :: b :: es) pos) (sAnd f g) := by
  refine (pw_and ha hb).imp fun σ H Q ⟨G, S, env, hE, hH, p⟩ => ?_
  refine ⟨G, S, env, hE, hH, (p.bnd (rel := fun _ (a b : Bool) => b = a)).mono fun G1 S1 c d H1 st1 hd1 r1 p1 => ?_⟩
  subst r1
  split
  · rename_i hc
    rw [if_pos hc] at p1
    exact ⟨G1, S1, env, hE.le st1.le, hd1, p1⟩
  · rename_i hc
    rw [if_neg hc] at p1
    exact p1.ret hd1 rfl
theorem vw_or {es : List Expr} {f g : Envd → M Bool} (ha : VT T X W a f) (hb : VW T X W (.BoolOp .Or (b :: es) pos) g) : VW T X W (.BoolOp .Or (a :: b :: es) pos) (sOr f g) := by
  refine (pw_or ha hb).imp fun σ H Q ⟨G, S, env, hE, hH, p⟩ => ?_
  refine ⟨G, S, env, hE, hH, (p.bnd (rel := fun _ (a b : Bool) => b = a)).mono fun G1 S1 c d H1 st1 hd1 r1 p1 => ?_⟩
  subst r1
  split
  · rename_i hc
    rw [if_pos hc] at p1
    exact p1.ret hd1 rfl
  · rename_i hc
    rw [if_neg hc] at p1
    exact ⟨G1, S1, env, hE.le st1.le, hd1, p1⟩
theorem vt_not {f : Envd → M Bool} (h : VT T X W a f) : VT T X W (.UnaryOp .Not a pos) (sNot f) := by
  refine (pt_not h).imp fun σ H Q ⟨G, S, env, hE, hH, p⟩ => ?_
  refine ⟨G, S, env, hE, hH, (p.bnd (rel := fun _ (a b : Bool) => b = a)).mono fun G1 S1 c d H1 st1 hd1 r1 p1 => ?_⟩
  subst r1
  exact p1.ret hd1 rfl
/-! as values -/
def vAnd (f g : Envd → M D) : Envd → M D := fun env => bnd (f env) fun x => bnd (asB x) fun c => if c = true then g env else ret (.bl false)
def vOr (f g : Envd → M D) : Envd → M D := fun env => bnd (f env) fun x => bnd (asB x) fun c => if c = true then ret (.bl true) else g env
def vNot (f : Envd → M D) : Envd → M D := fun env => bnd (f env) fun x => bnd (asB x) fun c => ret (.bl (!c))
theorem asB_ok {d : D} {x : V} {G : Gh} {H : Hp} {S : Store} {α β : Type} {rel : Gh → α → β → Prop} {W : XK} {k : Bool → M α} {Q : Gh → Store → α → β → Hp → Prop} (hH : Held T G S H) (r : Rep T G d x) (p : Pst T rel G H W (bnd (asB d) k S) Q) :
    ∃ c, x = .bl c ∧ Pst T rel G H W (k c S) Q := by
  unfold bnd asB at p
  split at p <;> rename_i h <;> split at h <;> simp only [ret, stk] at h <;> try (cases h)
  · simp only [Rep] at r
    exact ⟨_, r, p⟩
  all_goals exact p.elim
theorem ve_and {es : List Expr} {f g : Envd → M D} (ha : VE T X W a f) (hb : VE T X W (.BoolOp .And (b :: es) pos) g) : VE T X W (.BoolOp .And (a :: b :: es) pos) (vAnd f g) := by
  refine (pe_and ha hb).imp fun σ H Q ⟨G, S, env, hE, hH, p⟩ => ?_
  refine ⟨G, S, env, hE, hH, (p.bnd (rel := Rep T)).mono fun G1 S1 d x H1 st1 hd1 r1 p1 => ?_⟩
  obtain ⟨c, rfl, p2⟩ := asB_ok hd1 r1 p1
  refine ⟨c, rfl, ?_⟩
  split
  · rename_i hc
    rw [if_pos hc] at p2
    exact ⟨G1, S1, env, hE.le st1.le, hd1, p2⟩
  · rename_i hc
    rw [if_neg hc] at p2
    exact p2.ret hd1 (by simp only [Rep])
theorem ve_or {es : List Expr} {f g : Envd → M D} (ha : VE T X W a f) (hb : VE T X W (.BoolOp .Or (b :: es) pos) g) : VE T X W (.BoolOp .Or (a :: b :: es) pos) (vOr f g) := by
  refine (pe_or ha hb).imp fun σ H Q ⟨G, S, env, hE, hH, p⟩ => ?_
  refine ⟨G, S, env, hE, hH, (p.bnd (rel := Rep T)).mono fun G1 S1 d x H1 st1 hd1 r1 p1 => ?_⟩
  obtain ⟨c, rfl, p2⟩ := asB_ok hd1 r1 p1
  refine ⟨c, rfl, ?_⟩
  split
  · rename_i hc
    rw [if_pos hc] at p2
    exact p2.ret hd1 (by simp only [Rep])
  · rename_i hc
    rw [if_neg hc] at p2
    exact ⟨G1, S1, env, hE.le st1.le, hd1, p2⟩
theorem ve_not {f : Envd → M D} (ha : VE T X W a f) : VE T X W (.UnaryOp .Not a pos) (vNot f) := by
  refine (pe_not ha).imp fun σ H Q ⟨G, S, env, hE, hH, p⟩ => ?_
  refine ⟨G, S, env, hE, hH, (p.bnd (rel := Rep T)).mono fun G1 S1 d x H1 st1 hd1 r1 p1 => ?_⟩
  obtain ⟨c, rfl, p2⟩ := asB_ok hd1 r1 p1
  exact ⟨c, rfl, p2.ret hd1 (by simp only [Rep])⟩
def sIf {α : Type} (c : Envd → M Bool) (f g : Envd → M α) : Envd → M α := fun env => bnd (c env) fun b => if b = true then f env else g env
theorem ve_if {c : Expr} {fc : Envd → M Bool} (hc : VT T X W c fc) (ha : VE T X W a fa) (hb : VE T X W b fb) : VE T X W (.IfExp c a b pos) (sIf fc fa fb) := by
  refine (pe_ifExp hc ha hb).imp fun σ H Q ⟨G, S, env, hE, hH, p⟩ => ?_
  refine ⟨G, S, env, hE, hH, (p.bnd (rel := fun _ (a b : Bool) => b = a)).mono fun G1 S1 k d H1 st1 hd1 r1 p1 => ?_⟩
  subst r1
  split
  · rename_i hk
    rw [if_pos hk] at p1
    exact ⟨G1, S1, env, hE.le st1.le, hd1, p1⟩
  · rename_i hk
    rw [if_neg hk] at p1
    exact ⟨G1, S1, env, hE.le st1.le, hd1, p1⟩
end
end Ev

set_option Elab.async false
set_option linter.all false
set_option maxRecDepth 100000
set_option maxHeartbeats 4000000
/-! EvC: comparisons, chains, subscripts, slices. -/
namespace Ev
open PySem PySem.Spec PyProof.Rows L2

/-! ### == by data -/
def toPl (g : D → Option PyData) : List D → Option (List PyData)
  | [] => some []
  | d :: ds => match g d, toPl g ds with
    | some p, some ps => some (p :: ps)
    | _, _ => none
def toP (S : Store) : Nat → D → Option PyData
  | 0, d => match d with
    | .non => some .none
    | .bl b => some (.bool b)
    | .int i => some (.int i)
    | .str x => some (.str x)
    | _ => none
  | n + 1, d => match d with
    | .non => some .none
    | .bl b => some (.bool b)
    | .int i => some (.int i)
    | .str x => some (.str x)
    | .lst xs => (toPl (toP S n) xs).map .list
    | .tup xs => (toPl (toP S n) xs).map .tuple
    | .ref k => match seqL S (.ref k) with
      | some xs => (toPl (toP S n) xs).map .list
      | none => none
    | _ => none
def toPs (S : Store) (n : Nat) : List D → Option (List PyData) := toPl (toP S n)
section
variable {S : Store} {n : Nat}
theorem toP_non : toP S n .non = some .none := by cases n <;> rfl
theorem toP_bl {b : Bool} : toP S n (.bl b) = some (.bool b) := by cases n <;> rfl
theorem toP_int {i : Int} : toP S n (.int i) = some (.int i) := by cases n <;> rfl
theorem toP_str {x : Str} : toP S n (.str x) = some (.str x) := by cases n <;> rfl
theorem toP_scr {x : List Int} : toP S n (.scr x) = none := by cases n <;> rfl
theorem toP_dct {ks : List Key} {xs : List D} : toP S n (.dct ks xs) = none := by cases n <;> rfl
theorem toP_obj {c : Nat} {xs : List D} : toP S n (.obj c xs) = none := by cases n <;> rfl
theorem toP_exn {c : Nat} {xs : List D} : toP S n (.exn c xs) = none := by cases n <;> rfl
theorem toP_l0 {xs : List D} : toP S 0 (.lst xs) = none := rfl
theorem toP_t0 {xs : List D} : toP S 0 (.tup xs) = none := rfl
theorem toP_r0 {k : Nat} : toP S 0 (.ref k) = none := rfl
theorem toP_lst {xs : List D} : toP S (n + 1) (.lst xs) = (toPs S n xs).map .list := rfl
theorem toP_tup {xs : List D} : toP S (n + 1) (.tup xs) = (toPs S n xs).map .tuple := rfl
theorem toP_ref {k : Nat} : toP S (n + 1) (.ref k) = match seqL S (.ref k) with
      | some xs => (toPs S n xs).map .list
      | none => none := rfl
theorem toPs_nil : toPs S n [] = some [] := rfl
theorem toPs_cons {d : D} {ds : List D} : toPs S n (d :: ds) = match toP S n d, toPs S n ds with
    | some p, some ps => some (p :: ps)
    | _, _ => none := rfl
end
section
variable {T : Kit} {G : Gh} {S : Store} {H : Hp} {K : PySem.W.Frag}
mutual
theorem toP_ok (hK : K = T.K) (hH : Held T G S H) : ∀ (n : Nat) {d : D} {x : V} {p : PyData}, Rep T G d x → toP S n d = some p → Dp K H x p
  | n, .non, x, p, r, e => by
    simp only [Rep] at r; subst r
    simp only [toP_non, toP_bl, toP_int, toP_str, toP_scr, toP_dct, toP_obj, toP_l0, toP_t0, toP_r0, toP_lst, toP_tup, toP_ref] at e; cases e; exact .non
  | n, .bl b, x, p, r, e => by
    simp only [Rep] at r; subst r
    simp only [toP_non, toP_bl, toP_int, toP_str, toP_scr, toP_dct, toP_obj, toP_l0, toP_t0, toP_r0, toP_lst, toP_tup, toP_ref] at e; cases e; exact .bl b
  | n, .int i, x, p, r, e => by
    simp only [Rep] at r; subst r
    simp only [toP_non, toP_bl, toP_int, toP_str, toP_scr, toP_dct, toP_obj, toP_l0, toP_t0, toP_r0, toP_lst, toP_tup, toP_ref] at e; cases e; exact .int i
  | n, .str s, x, p, r, e => by
    simp only [Rep] at r; subst r
    simp only [toP_non, toP_bl, toP_int, toP_str, toP_scr, toP_dct, toP_obj, toP_l0, toP_t0, toP_r0, toP_lst, toP_tup, toP_ref] at e; cases e; exact .str s
  | 0, .lst xs, x, p, r, e => by simp only [toP_non, toP_bl, toP_int, toP_str, toP_scr, toP_dct, toP_obj, toP_l0, toP_t0, toP_r0, toP_lst, toP_tup, toP_ref] at e; cases e
  | 0, .tup xs, x, p, r, e => by simp only [toP_non, toP_bl, toP_int, toP_str, toP_scr, toP_dct, toP_obj, toP_l0, toP_t0, toP_r0, toP_lst, toP_tup, toP_ref] at e; cases e
  | 0, .ref k, x, p, r, e => by simp only [toP_non, toP_bl, toP_int, toP_str, toP_scr, toP_dct, toP_obj, toP_l0, toP_t0, toP_r0, toP_lst, toP_tup, toP_ref] at e; cases e
  | n + 1, .lst xs, x, p, r, e => by
    simp only [toP_non, toP_bl, toP_int, toP_str, toP_scr, toP_dct, toP_obj, toP_l0, toP_t0, toP_r0, toP_lst, toP_tup, toP_ref] at e
    obtain ⟨ps, e1, rfl⟩ := Option.map_eq_some_iff.mp e
    simp only [Rep] at r
    obtain ⟨a, vs, rfl, q, z⟩ := r
    exact .lst (SqL.of (hH.ext _ _ q)) (toPs_ok hK hH n z e1)
  | n + 1, .tup xs, x, p, r, e => by
    simp only [toP_non, toP_bl, toP_int, toP_str, toP_scr, toP_dct, toP_obj, toP_l0, toP_t0, toP_r0, toP_lst, toP_tup, toP_ref] at e
    obtain ⟨ps, e1, rfl⟩ := Option.map_eq_some_iff.mp e
    simp only [Rep] at r
    obtain ⟨a, vs, rfl, q, z⟩ := r
    exact .tup (hK ▸ sqT_le hH.ext q) (toPs_ok hK hH n z e1)
  | n + 1, .ref k, x, p, r, e => by
    simp only [toP_non, toP_bl, toP_int, toP_str, toP_scr, toP_dct, toP_obj, toP_l0, toP_t0, toP_r0, toP_lst, toP_tup, toP_ref] at e
    split at e
    · rename_i xs h
      obtain ⟨ps, e1, rfl⟩ := Option.map_eq_some_iff.mp e
      obtain ⟨a, vs, rfl, q, z⟩ := seqL_ok hH r h
      exact .lst (SqL.of q) (toPs_ok hK hH n z e1)
    · cases e
  | n, .scr _, x, p, r, e => by cases n <;> simp only [toP_non, toP_bl, toP_int, toP_str, toP_scr, toP_dct, toP_obj, toP_l0, toP_t0, toP_r0, toP_lst, toP_tup, toP_ref] at e <;> cases e
  | n, .dct _ _, x, p, r, e => by cases n <;> simp only [toP_non, toP_bl, toP_int, toP_str, toP_scr, toP_dct, toP_obj, toP_l0, toP_t0, toP_r0, toP_lst, toP_tup, toP_ref] at e <;> cases e
  | n, .obj _ _, x, p, r, e => by cases n <;> simp only [toP_non, toP_bl, toP_int, toP_str, toP_scr, toP_dct, toP_obj, toP_l0, toP_t0, toP_r0, toP_lst, toP_tup, toP_ref] at e <;> cases e
  | n, .exn _ _, x, p, r, e => by cases n <;> simp only [toP_exn] at e <;> cases e
theorem toPs_ok (hK : K = T.K) (hH : Held T G S H) : ∀ (n : Nat) {ds : List D} {xs : List V} {ps : List PyData}, Reps T G ds xs → toPs S n ds = some ps → DpAll K H xs ps
  | n, [], xs, ps, r, e => by
    simp only [Reps] at r; subst r
    simp only [toPs_nil, toPs_cons] at e; cases e; exact .nil
  | n, d :: ds, xs, ps, r, e => by
    simp only [Reps] at r
    obtain ⟨v, vs, rfl, r1, r2⟩ := r
    simp only [toPs_nil, toPs_cons] at e
    split at e
    · rename_i p ps' h1 h2
      cases e
      exact .cons (toP_ok hK hH n r1 h1) (toPs_ok hK hH n r2 h2)
    · cases e
end
end
def dEq (neg : Bool) (d e : D) : M D := fun S => match toP S 12 d, toP S 12 e with
  | some p, some q => if SeqAt.shaped p = true ∧ SeqAt.shaped q = true then .ok (.bl (if neg then !PyData.eqv p q else PyData.eqv p q)) S else .stuck
  | _, _ => .stuck
section
variable {T : Kit} {X : Cx} {W : WX} {pos : Pos} {a b : Expr} {fa fb : Envd → M D}
abbrev Two (T : Kit) (g : D → D → M D) (r : R2) : Prop := ∀ (W : XK) (G : Gh) (S : Store) (H : Hp) (d e : D) (x y : V) (Q : VK), Held T G S H → Rep T G d x → Rep T G e y → PV T G H W (g d e S) Q → r x y H Q
theorem two_eq (hK : X.K = T.K) : Two T (dEq false) (rEqD X.K) := fun W G S H d e x y Q hH r1 r2 p => by
  unfold dEq at p
  split at p
  · rename_i u v e1 e2
    split at p
    · rename_i hs
      exact ⟨u, v, toP_ok hK hH _ r1 e1, toP_ok hK hH _ r2 e2, hs.1, hs.2, p.ok hH (by simp only [Rep]; rfl)⟩
    · exact p.elim
  · exact p.elim
theorem two_ne (hK : X.K = T.K) : Two T (dEq true) (rNeD X.K) := fun W G S H d e x y Q hH r1 r2 p => by
  unfold dEq at p
  split at p
  · rename_i u v e1 e2
    split at p
    · rename_i hs
      exact ⟨u, v, toP_ok hK hH _ r1 e1, toP_ok hK hH _ r2 e2, hs.1, hs.2, p.ok hH (by simp only [Rep]; rfl)⟩
    · exact p.elim
  · exact p.elim
def dCmpI (f : Int → Int → Bool) : D → D → M D
  | .int i, .int j => ret (.bl (f i j))
  | _, _ => stk
theorem two_cmpI (f : Int → Int → Bool) : Two T (dCmpI f) (rI0 fun i j => .bl (f i j)) := fun W G S H d e x y Q hH r1 r2 p => by
  unfold dCmpI at p
  split at p
  · simp only [Rep] at r1 r2
    subst r1; subst r2
    exact ⟨_, _, rfl, rfl, p.ret hH (by simp only [Rep])⟩
  · exact p.elim
def dIsN (neg : Bool) (d e : D) : M D := match d, e with
  | .non, .non => ret (.bl (!neg))
  | _, .non => ret (.bl neg)
  | _, _ => stk
theorem isN_of {G : Gh} {d : D} {x : V} (r : Rep T G d x) : (d = .non ∧ x = .non) ∨ (d ≠ .non ∧ x ≠ .non) := by
  cases d <;> simp only [Rep] at r
  · exact .inl ⟨rfl, r⟩
  all_goals (refine .inr ⟨fun z => (by cases z), fun z => ?_⟩; subst z; first | (obtain ⟨a, b, c, e0, e, _⟩ := r; cases e; done) | (obtain ⟨a, b, c, e, _⟩ := r; cases e; done) | (obtain ⟨a, b, e, _⟩ := r; cases e; done) | (obtain ⟨a, e, _⟩ := r; cases e; done) | (cases r; done))
theorem two_isN : Two T (dIsN false) (fun x y H Q => y = .non ∧ Q (.bl (decide (x = .non))) H) := fun W G S H d e x y Q hH r1 r2 p => by
  unfold dIsN at p
  split at p
  · simp only [Rep] at r1 r2
    subst r1; subst r2
    exact ⟨rfl, p.ret hH (by simp only [Rep]; rfl)⟩
  · rename_i hn
    simp only [Rep] at r2
    subst r2
    rcases isN_of r1 with ⟨e, _⟩ | ⟨_, e⟩
    · exact absurd e (by intro z; exact hn z)
    · refine ⟨rfl, ?_⟩
      rw [decide_eq_false e]
      exact p.ret hH (by simp only [Rep])
  · exact p.elim
theorem two_notN : Two T (dIsN true) (fun x y H Q => y = .non ∧ Q (.bl (!decide (x = .non))) H) := fun W G S H d e x y Q hH r1 r2 p => by
  unfold dIsN at p
  split at p
  · simp only [Rep] at r1 r2
    subst r1; subst r2
    exact ⟨rfl, p.ret hH (by simp only [Rep]; rfl)⟩
  · rename_i hn
    simp only [Rep] at r2
    subst r2
    rcases isN_of r1 with ⟨e, _⟩ | ⟨_, e⟩
    · exact absurd e (by intro z; exact hn z)
    · refine ⟨rfl, ?_⟩
      rw [decide_eq_false e]
      exact p.ret hH (by simp only [Rep]; rfl)
  · exact p.elim

/-! ### in -/
def flD : D → Option V
  | .non => some .non
  | .bl b => some (.bl b)
  | .int i => some (.int i)
  | .str x => some (.str x)
  | _ => none
def flDs : List D → Option (List V)
  | [] => some []
  | d :: ds => match flD d, flDs ds with
    | some v, some vs => some (v :: vs)
    | _, _ => none
theorem flD_ok {G : Gh} {d : D} {x v : V} (r : Rep T G d x) (e : flD d = some v) : x = v ∧ flatV x = true := by
  cases d <;> simp only [flD] at e <;> cases e <;> (simp only [Rep] at r; subst r; exact ⟨rfl, rfl⟩)
theorem flDs_ok {G : Gh} : ∀ {ds : List D} {xs vs : List V}, Reps T G ds xs → flDs ds = some vs → xs = vs ∧ xs.all flatV = true
  | [], xs, vs, r, e => by
    simp only [Reps] at r; subst r
    simp only [flDs] at e; cases e; exact ⟨rfl, rfl⟩
  | d :: ds, xs, vs, r, e => by
    simp only [Reps] at r
    obtain ⟨v, r', rfl, r1, r2⟩ := r
    simp only [flDs] at e
    split at e
    · rename_i w ws h1 h2
      cases e
      obtain ⟨rfl, f1⟩ := flD_ok r1 h1
      obtain ⟨rfl, f2⟩ := flDs_ok r2 h2
      exact ⟨rfl, by rw [List.all_cons, f1, f2]; rfl⟩
    · cases e
/-- x in a text, a tuple of flat items, a list of data, a dict -/
def dIn (neg : Bool) (d e : D) : M D := fun S => match d, e with
  | .str ⟨cs⟩, .str z => match cs.toList with
    | [c] => .ok (.bl (if neg then !decide (c ∈ z.cps.toList) else decide (c ∈ z.cps.toList))) S
    | _ => .stuck
  | d, .tup xs => match flD d, flDs xs with
    | some v, some vs => .ok (.bl (if neg then !inV v vs else inV v vs)) S
    | _, _ => .stuck
  | d, e => match toP S 12 d, toP S 12 e with
    | some p, some (.list qs) => if SeqAt.shaped p = true ∧ SeqAt.shaped (.list qs) = true then .ok (.bl (if neg then !qs.any (fun z => PyData.eqv z p) else qs.any (fun z => PyData.eqv z p))) S else .stuck
    | _, _ => .stuck
def rInA (K : PySem.W.Frag) : R2 := fun x y H Q => (∃ (c : Nat) (z : Str), x = .str ⟨#[c]⟩ ∧ y = .str z ∧ Q (.bl (decide (c ∈ z.cps.toList))) H) ∨ (rIn K false x y H Q ∨ rInD K x y H Q)
def rNotInA (K : PySem.W.Frag) : R2 := fun x y H Q => (∃ (c : Nat) (z : Str), x = .str ⟨#[c]⟩ ∧ y = .str z ∧ Q (.bl (!decide (c ∈ z.cps.toList))) H) ∨ (rIn K true x y H Q ∨ rNotInD K x y H Q)
theorem op_inA (hu : X.A.units + 65 < cLine) : OpR X (compareOp .In) (rInA X.K) := op_in_sign.or (op_in_seq.or (op_inD hu))
theorem op_notInA (hu : X.A.units + 65 < cLine) : OpR X (compareOp .NotIn) (rNotInA X.K) := op_notIn_sign.or (op_notIn_seq.or (op_notInD hu))
theorem two_in (hK : X.K = T.K) : Two T (dIn false) (rInA X.K) := fun W G S H d e x y Q hH r1 r2 p => by
  unfold dIn at p
  split at p
  · rename_i cs z
    split at p
    · rename_i c hc
      have hcs : cs = #[c] := by rw [← Array.toList_inj, hc]
      subst hcs
      simp only [Rep] at r1 r2
      subst r1; subst r2
      exact .inl ⟨c, z, rfl, rfl, p.ok hH (by simp only [Rep]; rfl)⟩
    · exact p.elim
  · split at p
    · rename_i v vs h1 h2
      simp only [Rep] at r2
      obtain ⟨a, ws, rfl, q, z⟩ := r2
      obtain ⟨rfl, f1⟩ := flD_ok r1 h1
      obtain ⟨rfl, f2⟩ := flDs_ok z h2
      exact .inr (.inl ⟨a, _, rfl, .inr (hK ▸ sqT_le hH.ext q), f1, f2, p.ok hH (by simp only [Rep])⟩)
    · exact p.elim
  · split at p
    · rename_i u qs e1 e2
      split at p
      · rename_i hs
        exact .inr (.inr ⟨u, qs, toP_ok hK hH _ r1 e1, toP_ok hK hH _ r2 e2, hs.1, hs.2, p.ok hH (by simp only [Rep]; rfl)⟩)
      · exact p.elim
    · exact p.elim
theorem two_notIn (hK : X.K = T.K) : Two T (dIn true) (rNotInA X.K) := fun W G S H d e x y Q hH r1 r2 p => by
  unfold dIn at p
  split at p
  · rename_i cs z
    split at p
    · rename_i c hc
      have hcs : cs = #[c] := by rw [← Array.toList_inj, hc]
      subst hcs
      simp only [Rep] at r1 r2
      subst r1; subst r2
      exact .inl ⟨c, z, rfl, rfl, p.ok hH (by simp only [Rep]; rfl)⟩
    · exact p.elim
  · split at p
    · rename_i v vs h1 h2
      simp only [Rep] at r2
      obtain ⟨a, ws, rfl, q, z⟩ := r2
      obtain ⟨rfl, f1⟩ := flD_ok r1 h1
      obtain ⟨rfl, f2⟩ := flDs_ok z h2
      exact .inr (.inl ⟨a, _, rfl, .inr (hK ▸ sqT_le hH.ext q), f1, f2, p.ok hH (by simp only [Rep])⟩)
    · exact p.elim
  · split at p
    · rename_i u qs e1 e2
      split at p
      · rename_i hs
        exact .inr (.inr ⟨u, qs, toP_ok hK hH _ r1 e1, toP_ok hK hH _ r2 e2, hs.1, hs.2, p.ok hH (by simp only [Rep]; rfl)⟩)
      · exact p.elim
    · exact p.elim

/-! ### a < b < c -/
def sChain (g g' : D → D → M D) (fa fb fc : Envd → M D) : Envd → M D := fun env => bnd (fa env) fun x => bnd (fb env) fun y => bnd (g x y) fun z => bnd (asB z) fun k =>
  if k = true then bnd (fc env) fun w => g' y w else ret (.bl false)
theorem ve_chain {op op' : CmpOp} {r r' : R2} {c : Expr} {fc : Envd → M D} {g g' : D → D → M D} (ho : OpR X (compareOp op) r) (ho' : OpR X (compareOp op') r')
    (hr : ∀ (W : XK) (G : Gh) (S : Store) (H : Hp) (d e : D) (x y : V) (Q : VK), Held T G S H → Rep T G d x → Rep T G e y → PV T G H W (g d e S) Q → r x y H Q) (hr' : Two T g' r')
    (hm : lastMarks [op, op'] [b, c] = false) (ha : VE T X W a fa) (hb : VE T X W b fb) (hc : VE T X W c fc) :
    VE T X W (.Compare a [op, op'] [b, c] pos) (sChain g g' fa fb fc) := by
  refine (pe_chain ho ho' ha hb hc hm).imp fun σ H Q ⟨G, S, env, hE, hH, p⟩ => ?_
  refine ⟨G, S, env, hE, hH, (p.bnd (rel := Rep T)).mono fun G1 S1 d x H1 st1 hd1 r1 p1 => ?_⟩
  refine ⟨G1, S1, env, hE.le st1.le, hd1, (p1.bnd (rel := Rep T)).mono fun G2 S2 e y H2 st2 hd2 r2 p2 => ?_⟩
  refine hr (at_ W σ) G2 S2 H2 d e x y _ hd2 (r1.le st2.le) r2 ((p2.bnd (rel := Rep T)).mono fun G3 S3 z v H3 st3 hd3 r3 p3 => ?_)
  obtain ⟨k, rfl, p4⟩ := asB_ok hd3 r3 p3
  refine ⟨k, rfl, ?_⟩
  split
  · rename_i hk
    rw [if_pos hk] at p4
    refine ⟨G3, S3, env, hE.le ((st1.trans st2).trans st3).le, hd3, (p4.bnd (rel := Rep T)).mono fun G4 S4 w u H4 st4 hd4 r4 p5 => ?_⟩
    exact hr' _ _ _ _ _ _ _ _ _ hd4 (r2.le (st3.trans st4).le) r4 p5
  · rename_i hk
    rw [if_neg hk] at p4
    exact p4.ret hd3 (by simp only [Rep])

theorem vt_chain {op op' : CmpOp} {r r' : R2} {c : Expr} {fc : Envd → M D} {g g' : D → D → M D} (ho : OpR X (compareOp op) r) (ho' : OpR X (compareOp op') r') (hr : Two T g r) (hr' : Two T g' r')
    (hm : lastMarks [op, op'] [b, c] = false) (ha : VE T X W a fa) (hb : VE T X W b fb) (hc : VE T X W c fc) :
    VT T X W (.Compare a [op, op'] [b, c] pos) (fun env => bnd (sChain g g' fa fb fc env) asB) := by
  refine (pt_chain ho ho' ha hb hc hm).imp fun σ H Q ⟨G, S, env, hE, hH, p⟩ => ?_
  refine ⟨G, S, env, hE, hH, ((p.bnd (rel := Rep T)).bnd (rel := Rep T)).mono fun G1 S1 d x H1 st1 hd1 r1 p1 => ?_⟩
  refine ⟨G1, S1, env, hE.le st1.le, hd1, (p1.bnd (rel := Rep T)).mono fun G2 S2 e y H2 st2 hd2 r2 p2 => ?_⟩
  refine hr (at_ W σ) G2 S2 H2 d e x y _ hd2 (r1.le st2.le) r2 ((p2.bnd (rel := Rep T)).mono fun G3 S3 z v H3 st3 hd3 r3 p3 => ?_)
  obtain ⟨k, rfl, p4⟩ := asB_ok hd3 r3 p3
  refine ⟨k, rfl, ?_⟩
  split
  · rename_i hk
    rw [if_pos hk] at p4
    refine ⟨G3, S3, env, hE.le ((st1.trans st2).trans st3).le, hd3, (p4.bnd (rel := Rep T)).mono fun G4 S4 w u H4 st4 hd4 r4 p5 => ?_⟩
    refine hr' (at_ W σ) _ _ _ _ _ _ _ _ hd4 (r2.le (st3.trans st4).le) r4 (p5.mono fun G5 S5 d' x' H5 st5 hd5 r5 p6 => ?_)
    unfold asB at p6
    split at p6
    · simp only [Rep] at r5
      subst r5
      exact ⟨_, rfl, p6.ret hd5 rfl⟩
    · exact p6.elim
  · rename_i hk
    rw [if_neg hk] at p4
    have p5 := p4.ret (b := V.bl false) hd3 (by simp only [Rep])
    exact ⟨false, rfl, p5.ret hd3 rfl⟩

/-! ### subscripts -/
theorem atI_rep {G : Gh} {ds : List D} {vs : List V} {i : Int} {d : D} (r : Reps T G ds vs) (e : atI ds i = some d) : ∃ v, atI vs i = some v ∧ Rep T G d v := by
  unfold atI at e ⊢
  rw [← r.len]
  cases h : ixN ds.length i with
  | none => rw [h] at e; cases e
  | some j =>
    rw [h] at e
    obtain ⟨v, h1, h2⟩ := reps_get r (show ds[j]? = some d from e)
    exact ⟨v, h1, h2⟩
def dIx (d e : D) : M D := fun S => match d, e with
  | .tup xs, .int i => match atI xs i with
    | some x => .ok x S
    | none => .stuck
  | .str z, .int i => if z.length ≤ sizeLine then match atI z.cps.toList i with
      | some c => .ok (.str ⟨#[c]⟩) S
      | none => .stuck
    else .stuck
  | d, .int i => match seqL S d with
    | some xs => match atI xs i with
      | some x => .ok x S
      | none => .stuck
    | none => .stuck
  | _, _ => .stuck
theorem two_ix (hK : X.K = T.K) : Two T dIx (rIx X.K) := fun W G S H d e x y Q hH r1 r2 p => by
  unfold dIx at p
  split at p
  · rename_i xs i
    split at p
    · rename_i z h
      simp only [Rep] at r1 r2
      obtain ⟨a, vs, rfl, q, w⟩ := r1
      subst r2
      obtain ⟨v, h1, h2⟩ := atI_rep w h
      exact .inr (.inl ⟨a, vs, i, v, rfl, rfl, hK ▸ sqT_le hH.ext q, h1, p.ok hH h2⟩)
    · exact p.elim
  · rename_i z i
    split at p
    · rename_i hz
      split at p
      · rename_i c h
        simp only [Rep] at r1 r2
        subst r1; subst r2
        exact .inr (.inr ⟨z, i, c, rfl, rfl, hz, h, p.ok hH (by simp only [Rep])⟩)
      · exact p.elim
    · exact p.elim
  · rename_i i _ _
    split at p
    · rename_i xs h0
      split at p
      · rename_i z h
        obtain ⟨a, vs, rfl, q, w⟩ := seqL_ok hH r1 h0
        simp only [Rep] at r2
        subst r2
        obtain ⟨v, h1, h2⟩ := atI_rep w h
        exact .inl ⟨a, vs, i, v, rfl, rfl, SqL.of q, h1, p.ok hH h2⟩
      · exact p.elim
    · exact p.elim
  · exact p.elim
theorem ve_ix (hK : X.K = T.K) (hs : PlainIx b) (ha : VE T X W a fa) (hb : VE T X W b fb) : VE T X W (.Subscript a b pos) (fun env => bnd (fa env) fun d => bnd (fb env) fun e => dIx d e) :=
  (pe_ix ix_seq ha hb hs).imp (tOp_of (two_ix hK))

/-! ### slices -/
def cutD (xs : List D) (lo hi : Option Int) : List D := (xs.drop (HT.sIx xs.length 0 lo)).take (HT.sIx xs.length xs.length hi - HT.sIx xs.length 0 lo)
theorem reps_cut {G : Gh} {ds : List D} {vs : List V} {lo hi : Option Int} (r : Reps T G ds vs) : Reps T G (cutD ds lo hi) (cutV vs lo hi) := by
  unfold cutD cutV
  rw [r.len]
  exact reps_take _ (reps_drop _ r)
def dSl (mu : Bool) (d : D) (lo hi : Option Int) : M D := match d with
  | .str z => if z.length ≤ sizeLine then ret (.str (cutS z lo hi)) else stk
  | .scr xs => newL mu (cutD (xs.map .int) lo hi)
  | .tup xs => ret (.tup (cutD xs lo hi))
  | d => fun S => match seqL S d with
    | some xs => newL mu (cutD xs lo hi) S
    | none => .stuck
def rSlX (K : PySem.W.Frag) : V → Option Int → Option Int → Hp → VK → Prop := fun x lo hi H Q => rSlL K x lo hi H Q ∨ (rSlA K x lo hi H Q ∨ rSlS x lo hi H Q)
theorem sl_any : SlR X (rSlX X.K) := sl_list.or (sl_tupA.or sl_str)
theorem cut_whole {α : Type} {xs : List α} {lo hi : Option Int} (h : HT.sIx xs.length 0 lo = 0 ∧ HT.sIx xs.length xs.length hi = xs.length) : (xs.drop (HT.sIx xs.length 0 lo)).take (HT.sIx xs.length xs.length hi - HT.sIx xs.length 0 lo) = xs := by
  rw [h.1, h.2]
  simp
theorem sl_rep (hK : X.K = T.K) {mu : Bool} {W : XK} {G : Gh} {S : Store} {H : Hp} {d : D} {x : V} {lo hi : Option Int} {Q : VK} (hH : Held T G S H) (r1 : Rep T G d x) (p : PV T G H W (dSl mu d lo hi S) Q) : rSlX X.K x lo hi H Q := by
  unfold dSl at p
  split at p
  · split at p
    · rename_i hz
      simp only [Rep] at r1
      subst r1
      exact .inr (.inr ⟨_, rfl, hz, p.ret hH (by simp only [Rep])⟩)
    · exact p.elim
  · rename_i xs
    simp only [Rep] at r1
    obtain ⟨a, rfl, q⟩ := r1
    exact .inl ⟨a, _, rfl, hK ▸ sqL_le hH.ext q, newL_ok hH (reps_cut ints_reps) p⟩
  · rename_i xs
    simp only [Rep] at r1
    obtain ⟨a, vs, rfl, q, w⟩ := r1
    refine .inr (.inl ⟨a, vs, rfl, hK ▸ sqT_le hH.ext q, fun hw => ?_, fun _ => newT_ok hH (reps_cut w) p⟩)
    have e1 : cutD xs lo hi = xs := by
      unfold cutD
      rw [← w.len] at hw
      exact cut_whole hw
    rw [e1] at p
    exact p.ret hH (by simp only [Rep]; exact ⟨a, vs, rfl, q, w⟩)
  · dsimp only at p
    split at p
    · rename_i xs h0
      obtain ⟨a, vs, rfl, q, w⟩ := seqL_ok hH r1 h0
      exact .inl ⟨a, vs, rfl, SqL.of q, newL_ok hH (reps_cut w) p⟩
    · exact p.elim
/-- a slice's part -/
def asI (d : D) : M (Option Int) := fun S => match d with
  | .int i => .ok (some i) S
  | _ => .stuck
def sPart : Option (Envd → M D) → Envd → M (Option Int)
  | none => fun _ => ret none
  | some f => fun env => bnd (f env) asI
abbrev eqR {α : Type} : Gh → α → α → Prop := fun _ a b => b = a
def tO (T : Kit) (W : WX) (f : Envd → M (Option Int)) : TO := fun σ H Q => ∃ G S env, EnvRep T G env σ ∧ Held T G S H ∧ Pst T eqR G H (at_ W σ) (f env S) fun _ _ _ b H' => Q b H'
theorem _root_.L2.PO.imp {X : Cx} {e : Option Expr} {t t' : TO} (h : PO X e t) (k : ∀ σ H Q, t' σ H Q → t σ H Q) : PO X e t' := ⟨fun pins s σ H Q I q => h.run pins s σ H Q I (k _ _ _ q)⟩
theorem vo_none : PO X none (tO T W (sPart none)) := po_none.imp fun σ H Q ⟨G, S, env, hE, hH, p⟩ => p.ret hH rfl
theorem vo_some (ha : VE T X W a fa) : PO X (some a) (tO T W (sPart (some fa))) := by
  refine (po_some ha).imp fun σ H Q ⟨G, S, env, hE, hH, p⟩ => ?_
  refine ⟨G, S, env, hE, hH, (p.bnd (rel := Rep T)).mono fun G1 S1 d x H1 st1 hd1 r1 p1 => ?_⟩
  unfold asI at p1
  split at p1
  · simp only [Rep] at r1
    subst r1
    exact ⟨_, rfl, p1.ok hd1 rfl⟩
  · exact p1.elim
theorem ve_slice {mu : Bool} {lo hi : Option Expr} {flo fhi : Envd → M (Option Int)} {p2 : Pos} (hK : X.K = T.K) (ha : VE T X W a fa) (hl : PO X lo (tO T W flo)) (hh : PO X hi (tO T W fhi)) :
    VE T X W (.Subscript a (.Slice lo hi none p2) pos) (fun env => bnd (fa env) fun d => bnd (flo env) fun l => bnd (fhi env) fun h => dSl mu d l h) := by
  refine (pe_slice sl_any ha hl hh).imp fun σ H Q ⟨G, S, env, hE, hH, p⟩ => ?_
  refine ⟨G, S, env, hE, hH, (p.bnd (rel := Rep T)).mono fun G1 S1 d x H1 st1 hd1 r1 p1 => ?_⟩
  refine ⟨G1, S1, env, hE.le st1.le, hd1, (p1.bnd (rel := eqR)).mono fun G2 S2 l l' H2 st2 hd2 r2 p2 => ?_⟩
  refine ⟨G2, S2, env, hE.le (st1.trans st2).le, hd2, (p2.bnd (rel := eqR)).mono fun G3 S3 h h' H3 st3 hd3 r3 p3 => ?_⟩
  subst r2; subst r3
  exact sl_rep hK hd3 (r1.le (st2.trans st3).le) p3
/-- xs[::-1] -/
def dRev (mu : Bool) (d : D) : M D := fun S => match seqL S d with
  | some xs => newL mu xs.reverse S
  | none => .stuck
theorem ve_rev {mu : Bool} {k : Nat} {p1 p2 p3 : Pos} (ha : VE T X W a fa) : VE T X W (.Subscript a (.Slice none none (some (.UnaryOp .USub (.Constant (.int 1) k p1) p2)) p3) pos) (fun env => bnd (fa env) fun d => dRev mu d) := by
  refine (pe_revL ha).imp fun σ H Q ⟨G, S, env, hE, hH, p⟩ => ?_
  refine ⟨G, S, env, hE, hH, (p.bnd (rel := Rep T)).mono fun G1 S1 d x H1 st1 hd1 r1 p1 => ?_⟩
  unfold dRev at p1
  split at p1
  · rename_i xs h0
    obtain ⟨a, vs, rfl, q, w⟩ := seqL_ok hd1 r1 h0
    exact ⟨a, vs, rfl, SqL.of q, newL_ok hd1 (reps_rev w) p1⟩
  · exact p1.elim
end
end Ev

set_option Elab.async false
set_option linter.all false
set_option maxRecDepth 100000
set_option maxHeartbeats 4000000
/-! EvCs: sorted() of items that read as data (tuples of numbers, ..). -/
namespace Ev
open PySem PySem.Spec PyProof.Rows L2

/-! ### a stable sort that the kernel runs -/
def insB {α : Type} (le : α → α → Bool) (x : α) : List α → List α
  | [] => [x]
  | y :: ys => if le x y = true then x :: y :: ys else y :: insB le x ys
def sortB {α : Type} (le : α → α → Bool) : List α → List α
  | [] => []
  | x :: xs => insB le x (sortB le xs)
section
variable {α β : Type} {le : α → α → Bool}
theorem insB_perm (x : α) : ∀ ys : List α, (insB le x ys).Perm (x :: ys)
  | [] => .refl _
  | y :: ys => by
    unfold insB
    split
    · exact .refl _
    · exact ((insB_perm x ys).cons y).trans (.swap x y ys)
theorem sortB_perm : ∀ xs : List α, (sortB le xs).Perm xs
  | [] => .refl _
  | x :: xs => (insB_perm x _).trans (.cons x (sortB_perm xs))
theorem insB_le (h : PySem.W.TotalLe le) (x : α) : ∀ ys : List α, ys.Pairwise (fun a b => le a b = true) → (insB le x ys).Pairwise (fun a b => le a b = true)
  | [], _ => by simp [insB]
  | y :: ys, p => by
    obtain ⟨p1, p2⟩ := List.pairwise_cons.mp p
    unfold insB
    split
    · rename_i c
      refine List.pairwise_cons.mpr ⟨fun z hz => ?_, p⟩
      rcases List.mem_cons.mp hz with rfl | hz
      · exact c
      · exact h.trans _ _ _ c (p1 z hz)
    · rename_i c
      refine List.pairwise_cons.mpr ⟨fun z hz => ?_, insB_le h x ys p2⟩
      rcases List.mem_cons.mp ((insB_perm x ys).mem_iff.mp hz) with rfl | hz
      · exact (h.total z y).resolve_left c
      · exact p1 z hz
theorem sortB_le (h : PySem.W.TotalLe le) : ∀ xs : List α, (sortB le xs).Pairwise (fun a b => le a b = true)
  | [] => .nil
  | x :: xs => insB_le h x _ (sortB_le h xs)
theorem insB_fil (h : PySem.W.TotalLe le) (c x : α) : ∀ ys : List α, (insB le x ys).filter (PySem.W.sameRank le c) = (x :: ys).filter (PySem.W.sameRank le c)
  | [] => rfl
  | y :: ys => by
    unfold insB
    split
    · rfl
    · rename_i n
      rw [List.filter_cons, insB_fil h c x ys]
      by_cases cx : PySem.W.sameRank le c x = true
      · have cy : PySem.W.sameRank le c y = false := by
          cases e : PySem.W.sameRank le c y with
          | false => rfl
          | true =>
            unfold PySem.W.sameRank at cx e
            rw [Bool.and_eq_true] at cx e
            exact absurd (h.trans _ _ _ cx.2 e.1) n
        simp [List.filter_cons, cx, cy]
      · have cx' : PySem.W.sameRank le c x = false := by simpa using cx
        simp [List.filter_cons, cx']
theorem sortB_fil (h : PySem.W.TotalLe le) (c : α) : ∀ xs : List α, (sortB le xs).filter (PySem.W.sameRank le c) = xs.filter (PySem.W.sameRank le c)
  | [] => rfl
  | x :: xs => by
    show (insB le x (sortB le xs)).filter _ = _
    rw [insB_fil h, List.filter_cons, List.filter_cons, sortB_fil h c xs]
theorem sortB_eq (h : PySem.W.TotalLe le) (xs : List α) : sortB le xs = xs.mergeSort le := PySem.W.sort_unique h (sortB_le h xs) fun c => sortB_fil h c xs
theorem insB_map {f : α → β} {le' : β → β → Bool} (h : ∀ a b, le a b = le' (f a) (f b)) (x : α) : ∀ ys : List α, (insB le x ys).map f = insB le' (f x) (ys.map f)
  | [] => rfl
  | y :: ys => by
    show (if le x y = true then x :: y :: ys else y :: insB le x ys).map f = if le' (f x) (f y) = true then f x :: f y :: ys.map f else f y :: insB le' (f x) (ys.map f)
    rw [← h]
    split
    · rfl
    · rw [List.map_cons, insB_map h x ys]
theorem sortB_map {f : α → β} {le' : β → β → Bool} (h : ∀ a b, le a b = le' (f a) (f b)) : ∀ xs : List α, (sortB le xs).map f = sortB le' (xs.map f)
  | [] => rfl
  | x :: xs => by
    show (insB le x (sortB le xs)).map f = insB le' (f x) (sortB le' (xs.map f))
    rw [insB_map h, sortB_map h xs]
end
/-! ### items and their data -/
/-- the data may be sorted -/
def sortOk (ps : List PyData) : Bool := ps.all (fun p => decide (p.depth ≤ 40)) && ps.all (fun p => ps.all fun q => PySem.W.alike p q) && (ps.all (fun p => match p with | .tuple (_ :: _) => true | _ => false) || ps.all (fun p => match p with | .tuple _ => false | .none => false | _ => true))
def leP (p q : D × PyData) : Bool := PySem.W.dataLe false Prod.snd p q
theorem sortOk_alike {ps : List PyData} (h : sortOk ps = true) : PySem.W.AllAlike ps := by
  unfold sortOk at h
  simp only [Bool.and_eq_true, List.all_eq_true] at h
  exact fun d hd e he => h.1.2 d hd e he
theorem sortOk_depth {ps : List PyData} (h : sortOk ps = true) : ∀ p ∈ ps, p.depth ≤ 40 := by
  unfold sortOk at h
  simp only [Bool.and_eq_true, List.all_eq_true, decide_eq_true_eq] at h
  exact h.1.1
theorem sortOk_kind {ps : List PyData} (h : sortOk ps = true) : PySem.W.Sortable ps := by
  unfold sortOk at h
  rw [Bool.and_eq_true, Bool.or_eq_true, List.all_eq_true, List.all_eq_true] at h
  rcases h.2 with k | k
  · refine .inl fun d hd => ?_
    have := k d hd
    split at this
    · exact ⟨_, _, rfl⟩
    · cases this
  · refine .inr fun d hd => ?_
    have := k d hd
    constructor
    · rintro rfl; simp at this
    · rintro xs rfl; simp at this
/-- sorted() of a list that reads as data: what stands for what is kept -/
def rSortedD (K : PySem.W.Frag) : List V → Hp → VK → Prop := fun vs H Q => ∃ (a : Addr) (bs : List (V × PyData)), vs = [V.ref a] ∧ SqL K H a (bs.map Prod.fst) ∧ DpAll K H (bs.map Prod.fst) (bs.map Prod.snd) ∧ sortOk (bs.map Prod.snd) = true ∧
  ∀ (p : Addr), H p = none → Q (.ref p) (upd H p (.lst ((sortB (PySem.W.dataLe false Prod.snd) bs).map Prod.fst)))
section
variable {X : Cx}
theorem each_vals : ∀ {bs : List (V × PyData)} {us : List Value}, Vals (bs.map Prod.fst) us → PySem.W.EachIs (fun u (b : V × PyData) => RelV b.1 u) us bs
  | [], us, h => by cases us with
    | nil => exact .nil
    | cons u us => cases h
  | b :: bs, us, h => by cases us with
    | nil => cases h
    | cons u us =>
      cases h with
      | cons h1 h2 => exact .cons h1 (each_vals h2)
theorem vals_each : ∀ {bs : List (V × PyData)} {us : List Value}, PySem.W.EachIs (fun u (b : V × PyData) => RelV b.1 u) us bs → Vals (bs.map Prod.fst) us
  | _, _, .nil => .nil
  | _, _, .cons h t => .cons h (vals_each t)
theorem each_reads {pins : List (Addr × Obj)} {s : Shared} {σ : L2.St} {H : Hp} (I : L2.Inv X pins σ H s) : ∀ {bs : List (V × PyData)} {us : List Value}, DpAll X.K H (bs.map Prod.fst) (bs.map Prod.snd) → Vals (bs.map Prod.fst) us → PySem.W.EachIs (fun u (b : V × PyData) => ∃ as, Reads s.heap u b.2 as) us bs
  | [], us, _, h => by cases us with
    | nil => exact .nil
    | cons u us => cases h
  | b :: bs, us, d, h => by
    cases us with
    | nil => cases h
    | cons u us =>
      have d' : DpAll X.K H (b.1 :: bs.map Prod.fst) (b.2 :: bs.map Prod.snd) := d
      cases d' with
      | cons d1 d2 =>
        cases h with
        | cons h1 h2 => exact .cons (Dp.reads I b.2 b.1 u d1 h1) (each_reads I d2 h2)
theorem cr_sortedD (hu : X.A.units + 65 < cLine) : CallR X (.builtin "sorted") (rSortedD X.K) := by
  intro pins s σ H vs us Q I r h
  obtain ⟨a, bs, rfl, hs, hd, ok, q⟩ := h
  obtain ⟨its, rv, hl, hz⟩ := I.list hs
  rw [Vals.ref1 r]
  have hz' : bs.length ≤ sizeLine := by rwa [List.length_map] at hz
  refine PySem.W.sorted_data (β := V × PyData) (enc := Prod.snd) (R := fun u b => RelV b.1 u) (bs := bs) hl.isList (each_vals rv) (each_reads I hd rv) (sortOk_alike ok) (sortOk_kind ok) hz' (fun b hb => by
    have := sortOk_depth ok b.2 (List.mem_map.mpr ⟨b, hb, rfl⟩)
    omega) fun out ho eo => ?_
  rw [← sortB_eq (le := PySem.W.dataLe false Prod.snd) (PySem.W.sortLe_total _ _ _)] at eo
  obtain ⟨ep, he'⟩ := PyProof.Rows.sortedAll_at s.heap its out.toArray
  have hlen : ((sortB (PySem.W.dataLe false Prod.snd) bs).map Prod.fst).length ≤ sizeLine := by
    rw [List.length_map, (sortB_perm bs).length_eq]
    exact hz'
  exact ⟨.ref _, upd H (s.heap.objs.size + 1) (.lst ((sortB (PySem.W.dataLe false Prod.snd) bs).map Prod.fst)), I.laid (t' := s.toks) (fun _ _ => PyProof.Rows.sortedAll_old) (Nat.le_succ _) ⟨hlen, out, ep, vals_each eo, he'⟩, rfl, q _ (I.hok.fresh (Nat.le_succ _))⟩
end
/-- by data: the items in order -/
def sortD (xs : List D) (ps : List PyData) : List D := (sortB (PySem.W.dataLe false Prod.snd) (xs.zip ps)).map Prod.fst
section
variable {T : Kit} {G : Gh}
theorem reps_pairs : ∀ {zs : List (V × D × PyData)}, (∀ z ∈ zs, Rep T G z.2.1 z.1) → Reps T G (zs.map fun z => z.2.1) (zs.map fun z => z.1)
  | [], _ => reps_nil
  | z :: zs, h => reps_cons (h z List.mem_cons_self) (reps_pairs fun y hy => h y (List.mem_cons_of_mem _ hy))
theorem pairs_reps : ∀ {xs : List D} {vs : List V} {ps : List PyData}, Reps T G xs vs → ps.length = xs.length → ∃ zs : List (V × D × PyData), (zs.map fun z => (z.1, z.2.2)) = vs.zip ps ∧ (zs.map fun z => (z.2.1, z.2.2)) = xs.zip ps ∧ (zs.map fun z => z.1) = vs ∧ (zs.map fun z => z.2.2) = ps ∧ ∀ z ∈ zs, Rep T G z.2.1 z.1
  | [], vs, ps, r, l => by
    simp only [Reps] at r
    subst r
    cases ps with
    | nil => exact ⟨[], rfl, rfl, rfl, rfl, fun z hz => by cases hz⟩
    | cons p ps => cases l
  | x :: xs, vs, ps, r, l => by
    simp only [Reps] at r
    obtain ⟨v, vs', rfl, r1, r2⟩ := r
    cases ps with
    | nil => cases l
    | cons p ps =>
      obtain ⟨zs, h1, h2, h3, h4, h5⟩ := pairs_reps r2 (by simpa using l)
      refine ⟨(v, x, p) :: zs, ?_, ?_, ?_, ?_, fun z hz => ?_⟩
      · rw [List.map_cons, h1]; rfl
      · rw [List.map_cons, h2]; rfl
      · rw [List.map_cons, h3]
      · rw [List.map_cons, h4]
      · rcases List.mem_cons.mp hz with rfl | hz
        · exact r1
        · exact h5 z hz
theorem sortD_ok {xs : List D} {vs : List V} {ps : List PyData} (r : Reps T G xs vs) (l : ps.length = xs.length) : Reps T G (sortD xs ps) ((sortB (PySem.W.dataLe false Prod.snd) (vs.zip ps)).map Prod.fst) := by
  obtain ⟨zs, h1, h2, _, _, h5⟩ := pairs_reps r l
  unfold sortD
  have le0 : ∀ a b : V × D × PyData, PySem.W.dataLe false (fun z : V × D × PyData => z.2.2) a b = PySem.W.dataLe false (Prod.snd : V × PyData → PyData) (a.1, a.2.2) (b.1, b.2.2) := fun a b => rfl
  have le1 : ∀ a b : V × D × PyData, PySem.W.dataLe false (fun z : V × D × PyData => z.2.2) a b = PySem.W.dataLe false (Prod.snd : D × PyData → PyData) (a.2.1, a.2.2) (b.2.1, b.2.2) := fun a b => rfl
  rw [← h1, ← h2, ← sortB_map (f := fun z : V × D × PyData => (z.1, z.2.2)) le0, ← sortB_map (f := fun z : V × D × PyData => (z.2.1, z.2.2)) le1, List.map_map, List.map_map]
  exact reps_pairs fun z hz => h5 z ((sortB_perm zs).mem_iff.mp hz)
theorem toPs_len {S : Store} {n : Nat} : ∀ {xs : List D} {ps : List PyData}, toPs S n xs = some ps → ps.length = xs.length
  | [], ps, h => by rw [toPs_nil] at h; cases h; rfl
  | x :: xs, ps, h => by
    rw [toPs_cons] at h
    split at h
    · rename_i p ps' h1 h2
      cases h
      simp [toPs_len h2]
    · cases h
end
end Ev

set_option Elab.async false
set_option linter.all false
set_option maxRecDepth 100000
set_option maxHeartbeats 4000000
/-! EvD: calls of builtins by data. -/
namespace Ev
open PySem PySem.Spec PyProof.Rows L2

/-! ### ints, truth values, in lists of data -/
def intsOf : List D → Option (List Int)
  | [] => some []
  | .int i :: ds => (intsOf ds).map (i :: ·)
  | _ :: _ => none
def blsOf : List D → Option (List Bool)
  | [] => some []
  | .bl i :: ds => (blsOf ds).map (i :: ·)
  | _ :: _ => none
def strsOf : List D → Option (List Str)
  | [] => some []
  | .str i :: ds => (strsOf ds).map (i :: ·)
  | _ :: _ => none
section
variable {T : Kit} {G : Gh}
theorem intsOf_ok : ∀ {ds : List D} {vs : List V} {ns : List Int}, Reps T G ds vs → intsOf ds = some ns → vs = ns.map V.int
  | [], vs, ns, r, e => by
    simp only [Reps] at r; subst r
    simp only [intsOf] at e; cases e; rfl
  | d :: ds, vs, ns, r, e => by
    simp only [Reps] at r
    obtain ⟨v, r', rfl, r1, r2⟩ := r
    cases d <;> simp only [intsOf] at e <;> try cases e
    obtain ⟨ms, e1, rfl⟩ := Option.map_eq_some_iff.mp e
    simp only [Rep] at r1
    subst r1
    rw [intsOf_ok r2 e1]; rfl
theorem blsOf_ok : ∀ {ds : List D} {vs : List V} {ns : List Bool}, Reps T G ds vs → blsOf ds = some ns → vs = ns.map V.bl
  | [], vs, ns, r, e => by
    simp only [Reps] at r; subst r
    simp only [blsOf] at e; cases e; rfl
  | d :: ds, vs, ns, r, e => by
    simp only [Reps] at r
    obtain ⟨v, r', rfl, r1, r2⟩ := r
    cases d <;> simp only [blsOf] at e <;> try cases e
    obtain ⟨ms, e1, rfl⟩ := Option.map_eq_some_iff.mp e
    simp only [Rep] at r1
    subst r1
    rw [blsOf_ok r2 e1]; rfl
theorem strsOf_ok : ∀ {ds : List D} {vs : List V} {ns : List Str}, Reps T G ds vs → strsOf ds = some ns → vs = ns.map V.str
  | [], vs, ns, r, e => by
    simp only [Reps] at r; subst r
    simp only [strsOf] at e; cases e; rfl
  | d :: ds, vs, ns, r, e => by
    simp only [Reps] at r
    obtain ⟨v, r', rfl, r1, r2⟩ := r
    cases d <;> simp only [strsOf] at e <;> try cases e
    obtain ⟨ms, e1, rfl⟩ := Option.map_eq_some_iff.mp e
    simp only [Rep] at r1
    subst r1
    rw [strsOf_ok r2 e1]; rfl
end
/-- sorted, by insertion -/
def ins1 (x : Int) : List Int → List Int
  | [] => [x]
  | y :: ys => if x ≤ y then x :: y :: ys else y :: ins1 x ys
def isort : List Int → List Int
  | [] => []
  | x :: xs => ins1 x (isort xs)
theorem ins1_perm (x : Int) : ∀ ys : List Int, (ins1 x ys).Perm (x :: ys)
  | [] => .refl _
  | y :: ys => by
    unfold ins1
    split
    · exact .refl _
    · exact (List.Perm.cons y (ins1_perm x ys)).trans (.swap x y ys)
theorem isort_perm : ∀ xs : List Int, (isort xs).Perm xs
  | [] => .refl _
  | x :: xs => (ins1_perm x _).trans (.cons x (isort_perm xs))
theorem ins1_le (x : Int) : ∀ ys : List Int, ys.Pairwise (· ≤ ·) → (ins1 x ys).Pairwise (· ≤ ·)
  | [], _ => by simp [ins1]
  | y :: ys, h => by
    unfold ins1
    have h' := List.pairwise_cons.mp h
    split
    · rename_i hx
      refine List.pairwise_cons.mpr ⟨fun z hz => ?_, h⟩
      rcases List.mem_cons.mp hz with e | hz
      · rw [e]; exact hx
      · exact Int.le_trans hx (h'.1 z hz)
    · refine List.pairwise_cons.mpr ⟨fun z hz => ?_, ins1_le x ys h'.2⟩
      rcases List.mem_cons.mp ((ins1_perm x ys).mem_iff.mp hz) with e | hz
      · rw [e]; omega
      · exact h'.1 z hz
theorem isort_le : ∀ xs : List Int, (isort xs).Pairwise (· ≤ ·)
  | [] => .nil
  | x :: xs => ins1_le x _ (isort_le xs)
theorem sorted_one {xs ys : List Int} (p : xs.Perm ys) (h1 : xs.Pairwise (· ≤ ·)) (h2 : ys.Pairwise (· ≤ ·)) : xs = ys :=
  List.Perm.eq_of_pairwise (fun a b _ _ h1 h2 => Int.le_antisymm h1 h2) h1 h2 p

section
variable {T : Kit} {X : Cx} {W : WX} {pos : Pos} {a b : Expr}
abbrev Many (T : Kit) (g : List D → M D) (r : List V → Hp → VK → Prop) : Prop := ∀ (W : XK) (G : Gh) (S : Store) (H : Hp) (ds : List D) (xs : List V) (Q : VK), Held T G S H → Reps T G ds xs → PV T G H W (g ds S) Q → r xs H Q
def noStar : List Expr → Bool
  | [] => true
  | .Starred _ _ :: _ => false
  | _ :: es => noStar es
theorem star_cons {e : Expr} {es : List Expr} (h : noStar (e :: es) = true) {env : Env} : starEach (e :: es) env = (false, eval e env) :: starEach es env := by
  cases e <;> first | rfl | (simp only [noStar] at h; cases h)
theorem noStar_tail {e : Expr} {es : List Expr} (h : noStar (e :: es) = true) : noStar es = true := by
  cases e <;> simp only [noStar] at h <;> first | exact h | cases h
theorem star_any {es : List Expr} {env : Env} (h : noStar es = true) : (backTo pos (starEach es env)).any (·.1) = false := by
  induction es with
  | nil => rfl
  | cons e es ih =>
    rw [star_cons h]
    have := ih (noStar_tail h)
    unfold backTo at this ⊢
    rw [List.map_cons, List.any_cons, this]; rfl
theorem ve_blt {id : String} {x : Str} {p : Pos} {e : Expr} {es : List Expr} {f : Envd → M (List D)} {g : List D → M D} {r : List V → Hp → VK → Prop} (hc : CallR X (.builtin id) r) (hg : Gl X x) (hm : X.mg x = none)
    (hv : bootBuiltins x = some (.builtin id)) (hr : Many T g r) (ha : VA T X W (e :: es) f) (hn : x ≠ "__name__") (hd : (x == ("__debug__" : Str)) = false) (hs : noStar (e :: es) = true) :
    VE T X W (.Call (.Name x p) (e :: es) [] pos) (fun env => bnd (f env) g) := by
  refine (pe_callB hc hg hm hv ha hn hd (star_cons hs) (star_any (noStar_tail hs))).imp fun σ H Q ⟨G, S, env, hE, hH, p⟩ => ?_
  refine ⟨G, S, env, hE, hH, (p.bnd (rel := Reps T)).mono fun G1 S1 ds xs H1 st1 hd1 r1 p1 => ?_⟩
  exact hr _ _ _ _ _ _ _ hd1 r1 p1
theorem ve_ty {id : String} {x : Str} {p : Pos} {e : Expr} {es : List Expr} {f : Envd → M (List D)} {g : List D → M D} {r : List V → Hp → VK → Prop} (hc : CallR X (.type id) r) (hg : Gl X x) (hm : X.mg x = none)
    (hv : bootBuiltins x = some (.type id)) (hr : Many T g r) (ha : VA T X W (e :: es) f) (hn : x ≠ "__name__") (hd : (x == ("__debug__" : Str)) = false) (hs : noStar (e :: es) = true) :
    VE T X W (.Call (.Name x p) (e :: es) [] pos) (fun env => bnd (f env) g) := by
  refine (pe_callTy hc hg hm hv ha hn hd (star_cons hs) (star_any (noStar_tail hs))).imp fun σ H Q ⟨G, S, env, hE, hH, p⟩ => ?_
  refine ⟨G, S, env, hE, hH, (p.bnd (rel := Reps T)).mono fun G1 S1 ds xs H1 st1 hd1 r1 p1 => ?_⟩
  exact hr _ _ _ _ _ _ _ hd1 r1 p1

theorem reps1 {G : Gh} {d : D} {xs : List V} (r : Reps T G [d] xs) : ∃ x, xs = [x] ∧ Rep T G d x := by
  simp only [Reps] at r
  obtain ⟨v, r', rfl, r1, rfl⟩ := r
  exact ⟨v, rfl, r1⟩
theorem reps2 {G : Gh} {d e : D} {xs : List V} (r : Reps T G [d, e] xs) : ∃ x y, xs = [x, y] ∧ Rep T G d x ∧ Rep T G e y := by
  simp only [Reps] at r
  obtain ⟨v, r', rfl, r1, w, r'', rfl, r2, rfl⟩ := r
  exact ⟨v, w, rfl, r1, r2⟩

/-! len -/
def dLen (ds : List D) : M D := fun S => match ds with
  | [.str z] => if z.length ≤ sizeLine then .ok (.int z.length) S else .stuck
  | [.tup xs] => .ok (.int xs.length) S
  | [d] => match seqL S d with
    | some xs => .ok (.int xs.length) S
    | none => .stuck
  | _ => .stuck
theorem many_len (hK : X.K = T.K) : Many T dLen (fun xs H Q => ∃ x n, xs = [x] ∧ LenV X.K x H n ∧ Q (.int n) H) := fun W G S H ds xs Q hH r p => by
  unfold dLen at p
  split at p
  · split at p
    · rename_i z hz
      obtain ⟨x, rfl, r1⟩ := reps1 r
      simp only [Rep] at r1
      subst r1
      exact ⟨_, z.length, rfl, ⟨hz, rfl⟩, p.ok hH (by simp only [Rep])⟩
    · exact p.elim
  · rename_i zs
    obtain ⟨x, rfl, r1⟩ := reps1 r
    simp only [Rep] at r1
    obtain ⟨a, vs, rfl, q, w⟩ := r1
    exact ⟨_, zs.length, rfl, .inr ⟨vs, hK ▸ sqT_le hH.ext q, w.len⟩, p.ok hH (by simp only [Rep])⟩
  · split at p
    · rename_i zs h
      obtain ⟨x, rfl, r1⟩ := reps1 r
      obtain ⟨a, vs, rfl, q, w⟩ := seqL_ok hH r1 h
      exact ⟨_, zs.length, rfl, .inl ⟨vs, SqL.of q, w.len⟩, p.ok hH (by simp only [Rep])⟩
    · exact p.elim
  · exact p.elim
/-! abs, int, str -/
def dAbs (ds : List D) : M D := fun S => match ds with
  | [.int i] => .ok (.int (i.natAbs : Int)) S
  | _ => .stuck
theorem many_abs : Many T dAbs (fun xs H Q => ∃ i, xs = [.int i] ∧ Q (.int (if i < 0 then -i else i)) H) := fun W G S H ds xs Q hH r p => by
  unfold dAbs at p
  split at p
  · rename_i i
    obtain ⟨x, rfl, r1⟩ := reps1 r
    simp only [Rep] at r1
    subst r1
    refine ⟨i, rfl, ?_⟩
    rw [show (if i < 0 then -i else i) = (i.natAbs : Int) by split <;> omega]
    exact p.ok hH (by simp only [Rep])
  · exact p.elim
def dInt (ds : List D) : M D := fun S => match ds with
  | [.int i] => .ok (.int i) S
  | [.bl k] => .ok (.int (if k then 1 else 0)) S
  | [.str z] => if z.length ≤ 640 then match PySem.intText? z with
      | some n => .ok (.int n) S
      | none => .stuck
    else .stuck
  | _ => .stuck
def rIntA : List V → Hp → VK → Prop := fun xs H Q => ((∃ i, xs = [.int i] ∧ Q (.int i) H) ∨ ∃ k, xs = [.bl k] ∧ Q (.int (if k then 1 else 0)) H) ∨ ∃ a n, xs = [.str a] ∧ PySem.intText? a = some n ∧ a.length ≤ 640 ∧ Q (.int n) H
theorem many_int : Many T dInt rIntA := fun W G S H ds xs Q hH r p => by
  unfold dInt at p
  split at p
  · obtain ⟨x, rfl, r1⟩ := reps1 r
    simp only [Rep] at r1
    subst r1
    exact .inl (.inl ⟨_, rfl, p.ok hH (by simp only [Rep])⟩)
  · obtain ⟨x, rfl, r1⟩ := reps1 r
    simp only [Rep] at r1
    subst r1
    exact .inl (.inr ⟨_, rfl, p.ok hH (by simp only [Rep])⟩)
  · split at p
    · rename_i hz
      split at p
      · rename_i n hn
        obtain ⟨x, rfl, r1⟩ := reps1 r
        simp only [Rep] at r1
        subst r1
        exact .inr ⟨_, n, rfl, hn, hz, p.ok hH (by simp only [Rep])⟩
      · exact p.elim
    · exact p.elim
  · exact p.elim
def dStr (ds : List D) : M D := fun S => match ds with
  | [.int i] => if i.natAbs.log2 < 1920 then .ok (.str (toString i)) S else .stuck
  | _ => .stuck
theorem many_str : Many T dStr (fun xs H Q => ∃ i, xs = [.int i] ∧ i.natAbs.log2 < 1920 ∧ Q (.str (toString i)) H) := fun W G S H ds xs Q hH r p => by
  unfold dStr at p
  split at p
  · split at p
    · rename_i hz
      obtain ⟨x, rfl, r1⟩ := reps1 r
      simp only [Rep] at r1
      subst r1
      exact ⟨_, rfl, hz, p.ok hH (by simp only [Rep])⟩
    · exact p.elim
  · exact p.elim
/-! list, tuple -/
def dList (mu : Bool) (ds : List D) : M D := fun S => match ds with
  | [.tup xs] => newL mu xs S
  | [d] => match seqL S d with
    | some xs => newL mu xs S
    | none => .stuck
  | _ => .stuck
theorem many_list {mu : Bool} (hK : X.K = T.K) : Many T (dList mu) (fun xs H Q => ∃ p ys, xs = [.ref p] ∧ (SqL X.K H p ys ∨ SqT X.K H p ys) ∧ ∀ l, H l = none → Q (.ref l) (upd H l (.lst ys))) := fun W G S H ds xs Q hH r p => by
  unfold dList at p
  split at p
  · obtain ⟨x, rfl, r1⟩ := reps1 r
    simp only [Rep] at r1
    obtain ⟨a, vs, rfl, q, w⟩ := r1
    exact ⟨_, vs, rfl, .inr (hK ▸ sqT_le hH.ext q), newL_ok hH w p⟩
  · split at p
    · rename_i zs h
      obtain ⟨x, rfl, r1⟩ := reps1 r
      obtain ⟨a, vs, rfl, q, w⟩ := seqL_ok hH r1 h
      exact ⟨_, vs, rfl, .inl (SqL.of q), newL_ok hH w p⟩
    · exact p.elim
  · exact p.elim
def dTuple (ds : List D) : M D := fun S => match ds with
  | [.tup xs] => .ok (.tup xs) S
  | [d] => match seqL S d with
    | some xs => .ok (.tup xs) S
    | none => .stuck
  | _ => .stuck
theorem many_tuple (hK : X.K = T.K) : Many T dTuple (fun xs H Q => ∃ p ys, xs = [.ref p] ∧ ((SqL X.K H p ys ∧ ∀ l, H l = none → Q (.ref l) (upd H l (.tup ys))) ∨ (SqT X.K H p ys ∧ Q (.ref p) H))) := fun W G S H ds xs Q hH r p => by
  unfold dTuple at p
  split at p
  · obtain ⟨x, rfl, r1⟩ := reps1 r
    simp only [Rep] at r1
    obtain ⟨a, vs, rfl, q, w⟩ := r1
    exact ⟨_, vs, rfl, .inr ⟨hK ▸ sqT_le hH.ext q, p.ok hH (by simp only [Rep]; exact ⟨a, vs, rfl, q, w⟩)⟩⟩
  · split at p
    · rename_i zs h
      obtain ⟨x, rfl, r1⟩ := reps1 r
      obtain ⟨a, vs, rfl, q, w⟩ := seqL_ok hH r1 h
      exact ⟨_, vs, rfl, .inl ⟨SqL.of q, newT_ok hH w p⟩⟩
    · exact p.elim
  · exact p.elim
/-! sum, all, any, max, min, sorted -/
def dSum (ds : List D) : M D := fun S => match ds with
  | [.tup xs] => match intsOf xs with
    | some ns => .ok (.int ns.sum) S
    | none => .stuck
  | [d] => match (seqL S d).bind intsOf with
    | some ns => .ok (.int ns.sum) S
    | none => .stuck
  | _ => .stuck
/-- sum() of a tuple of ints -/
def rSumT (K : PySem.W.Frag) : List V → Hp → VK → Prop := fun vs H Q => ∃ (a : Addr) (ns : List Int), vs = [V.ref a] ∧ SqT K H a (ns.map V.int) ∧ Q (.int ns.sum) H
theorem cr_sumT (hc : X.calm = true) : CallR X (.builtin "sum") (rSumT X.K) := by
  intro pins s σ H vs us Q I r h
  obtain ⟨a, ns, rfl, hs, q⟩ := h
  obtain ⟨its, rv, hl, _⟩ := I.tuple hs
  rw [Vals.ref1 r]
  have hi := rv.ints
  obtain ⟨xs, hx⟩ := hi.allInts.items
  have hn : numsOf its.toArray.toList = ns := by rw [show its.toArray.toList = its from rfl, hi.numsOf]
  have ht : s.heap.IsTuple a its.toArray := hl
  rw [hx] at ht hn
  rw [nums_intItems] at hn
  refine PySem.W.ktm_sumG (I.ok.hd hc) ht fun h' tk t' hk => ?_
  rw [preSum_eq, List.take_of_length_le (by simp), hn]
  exact ⟨.int _, H, I.kept hk, ⟨_, rfl⟩, q⟩
theorem vals3 {x y z : V} {us : List Value} (r : Vals [x, y, z] us) : ∃ u v w, us = [u, v, w] ∧ RelV x u ∧ RelV y v ∧ RelV z w := by
  cases r with
  | cons r1 t =>
    cases t with
    | cons r2 t =>
      cases t with
      | cons r3 t =>
        cases t
        exact ⟨_, _, _, rfl, r1, r2, r3⟩
theorem call_max3 (hc : X.calm = true) : CallR X (.builtin "max") (fun xs H Q => ∃ i j k, xs = [.int i, .int j, .int k] ∧ Q (.int (max i (max j k))) H) := by
  intro pins s σ H xs us Q I r h
  obtain ⟨i, j, k, rfl, q⟩ := h
  obtain ⟨u, v, w, rfl, ⟨t, rfl⟩, ⟨t', rfl⟩, ⟨t'', rfl⟩⟩ := vals3 r
  refine max_three_ints (I.ok.hd hc) fun h' tk kp => ⟨_, H, I.kept kp, ?_, q⟩
  by_cases hj : j > i
  · rw [if_pos hj]
    by_cases hk : k > j
    · rw [if_pos hk, show max i (max j k) = k by omega]; exact ⟨_, rfl⟩
    · rw [if_neg hk, show max i (max j k) = j by omega]; exact ⟨_, rfl⟩
  · rw [if_neg hj]
    by_cases hk : k > i
    · rw [if_pos hk, show max i (max j k) = k by omega]; exact ⟨_, rfl⟩
    · rw [if_neg hk, show max i (max j k) = i by omega]; exact ⟨_, rfl⟩
theorem call_min3 (hc : X.calm = true) : CallR X (.builtin "min") (fun xs H Q => ∃ i j k, xs = [.int i, .int j, .int k] ∧ Q (.int (min i (min j k))) H) := by
  intro pins s σ H xs us Q I r h
  obtain ⟨i, j, k, rfl, q⟩ := h
  obtain ⟨u, v, w, rfl, ⟨t, rfl⟩, ⟨t', rfl⟩, ⟨t'', rfl⟩⟩ := vals3 r
  refine min_three_ints (I.ok.hd hc) fun h' tk kp => ⟨_, H, I.kept kp, ?_, q⟩
  by_cases hj : j < i
  · rw [if_pos hj]
    by_cases hk : k < j
    · rw [if_pos hk, show min i (min j k) = k by omega]; exact ⟨_, rfl⟩
    · rw [if_neg hk, show min i (min j k) = j by omega]; exact ⟨_, rfl⟩
  · rw [if_neg hj]
    by_cases hk : k < i
    · rw [if_pos hk, show min i (min j k) = k by omega]; exact ⟨_, rfl⟩
    · rw [if_neg hk, show min i (min j k) = i by omega]; exact ⟨_, rfl⟩
theorem reps3D {G : Gh} {d e f : D} {xs : List V} (r : Reps T G [d, e, f] xs) : ∃ x y z, xs = [x, y, z] ∧ Rep T G d x ∧ Rep T G e y ∧ Rep T G f z := by
  simp only [Reps] at r
  obtain ⟨x, _, rfl, h1, y, _, rfl, h2, z, _, rfl, h3, rfl⟩ := r
  exact ⟨x, y, z, rfl, h1, h2, h3⟩
theorem ints_at {G : Gh} {S : Store} {H : Hp} {d : D} {x : V} {ns : List Int} (hH : Held T G S H) (r : Rep T G d x) (e : (seqL S d).bind intsOf = some ns) : ∃ a, x = .ref a ∧ H a = some (.lst (ns.map V.int)) := by
  obtain ⟨xs, h1, h2⟩ := Option.bind_eq_some_iff.mp e
  obtain ⟨a, vs, rfl, q, w⟩ := seqL_ok hH r h1
  rw [intsOf_ok w h2] at q
  exact ⟨a, rfl, q⟩
theorem many_sum (hK : X.K = T.K) : Many T dSum (fun vs H Q => rSum X.K vs H Q ∨ rSumT X.K vs H Q) := fun W G S H ds xs Q hH r p => by
  unfold dSum at p
  split at p
  · split at p
    · rename_i ns h
      obtain ⟨x, rfl, r1⟩ := reps1 r
      simp only [Rep] at r1
      obtain ⟨a, vs, rfl, q, w⟩ := r1
      rw [intsOf_ok w h] at q
      exact .inr ⟨a, ns, rfl, hK ▸ sqT_le hH.ext q, p.ok hH (by simp only [Rep])⟩
    · exact p.elim
  · split at p
    · rename_i ns h
      obtain ⟨x, rfl, r1⟩ := reps1 r
      obtain ⟨a, rfl, q⟩ := ints_at hH r1 h
      exact .inl ⟨a, ns, rfl, SqL.of q, p.ok hH (by simp only [Rep])⟩
    · exact p.elim
  · exact p.elim
def dAll (any : Bool) (ds : List D) : M D := fun S => match ds with
  | [d] => match (seqL S d).bind blsOf with
    | some ns => .ok (.bl (if any then ns.any id else ns.all id)) S
    | none => .stuck
  | _ => .stuck
theorem bls_at {G : Gh} {S : Store} {H : Hp} {d : D} {x : V} {ns : List Bool} (hH : Held T G S H) (r : Rep T G d x) (e : (seqL S d).bind blsOf = some ns) : ∃ a, x = .ref a ∧ H a = some (.lst (ns.map V.bl)) := by
  obtain ⟨xs, h1, h2⟩ := Option.bind_eq_some_iff.mp e
  obtain ⟨a, vs, rfl, q, w⟩ := seqL_ok hH r h1
  rw [blsOf_ok w h2] at q
  exact ⟨a, rfl, q⟩
theorem many_all : Many T (dAll false) (rAll X.K) := fun W G S H ds xs Q hH r p => by
  unfold dAll at p
  split at p
  · split at p
    · rename_i ns h
      obtain ⟨x, rfl, r1⟩ := reps1 r
      obtain ⟨a, rfl, q⟩ := bls_at hH r1 h
      exact ⟨a, ns, rfl, SqL.of q, p.ok hH (by simp only [Rep]; rfl)⟩
    · exact p.elim
  · exact p.elim
theorem many_any : Many T (dAll true) (rAny X.K) := fun W G S H ds xs Q hH r p => by
  unfold dAll at p
  split at p
  · split at p
    · rename_i ns h
      obtain ⟨x, rfl, r1⟩ := reps1 r
      obtain ⟨a, rfl, q⟩ := bls_at hH r1 h
      exact ⟨a, ns, rfl, SqL.of q, p.ok hH (by simp only [Rep]; rfl)⟩
    · exact p.elim
  · exact p.elim
/-- the greatest, the least of a list -/
def lmax : List Int → Int
  | [] => 0
  | [x] => x
  | x :: y :: r => max x (lmax (y :: r))
def lmin : List Int → Int
  | [] => 0
  | [x] => x
  | x :: y :: r => min x (lmin (y :: r))
theorem lmax_mem : ∀ {xs : List Int}, xs ≠ [] → lmax xs ∈ xs
  | [], h => absurd rfl h
  | [x], _ => by simp [lmax]
  | x :: y :: r, _ => by
    have := lmax_mem (xs := y :: r) (by simp)
    unfold lmax
    rcases Int.le_total x (lmax (y :: r)) with h | h
    · rw [Int.max_eq_right h]; exact List.mem_cons_of_mem _ this
    · rw [Int.max_eq_left h]; exact List.mem_cons_self
theorem le_lmax : ∀ {xs : List Int} {z : Int}, z ∈ xs → z ≤ lmax xs
  | [], z, h => by cases h
  | [x], z, h => by simp at h; simp [lmax, h]
  | x :: y :: r, z, h => by
    unfold lmax
    rcases List.mem_cons.mp h with e | h
    · rw [e]; exact Int.le_max_left ..
    · exact Int.le_trans (le_lmax h) (Int.le_max_right ..)
theorem lmin_mem : ∀ {xs : List Int}, xs ≠ [] → lmin xs ∈ xs
  | [], h => absurd rfl h
  | [x], _ => by simp [lmin]
  | x :: y :: r, _ => by
    have := lmin_mem (xs := y :: r) (by simp)
    unfold lmin
    rcases Int.le_total x (lmin (y :: r)) with h | h
    · rw [Int.min_eq_left h]; exact List.mem_cons_self
    · rw [Int.min_eq_right h]; exact List.mem_cons_of_mem _ this
theorem lmin_le : ∀ {xs : List Int} {z : Int}, z ∈ xs → lmin xs ≤ z
  | [], z, h => by cases h
  | [x], z, h => by simp at h; simp [lmin, h]
  | x :: y :: r, z, h => by
    unfold lmin
    rcases List.mem_cons.mp h with e | h
    · rw [e]; exact Int.min_le_left ..
    · exact Int.le_trans (Int.min_le_right ..) (lmin_le h)
def dMax (ds : List D) : M D := fun S => match ds with
  | [.int i, .int j] => .ok (.int (max i j)) S
  | [.int i, .int j, .int k] => .ok (.int (max i (max j k))) S
  | [d] => match (seqL S d).bind intsOf with
    | some (n :: ns) => .ok (.int (lmax (n :: ns))) S
    | _ => .stuck
  | _ => .stuck
def dMin (ds : List D) : M D := fun S => match ds with
  | [.int i, .int j] => .ok (.int (min i j)) S
  | [.int i, .int j, .int k] => .ok (.int (min i (min j k))) S
  | [d] => match (seqL S d).bind intsOf with
    | some (n :: ns) => .ok (.int (lmin (n :: ns))) S
    | _ => .stuck
  | _ => .stuck
theorem many_max : Many T dMax (fun xs H Q => (∃ i j k, xs = [.int i, .int j, .int k] ∧ Q (.int (max i (max j k))) H) ∨ ((∃ i j, xs = [.int i, .int j] ∧ Q (.int (if j > i then j else i)) H) ∨ rMax X.K xs H Q)) := fun W G S H ds xs Q hH r p => by
  unfold dMax at p
  split at p
  · rename_i i j
    obtain ⟨x, y, rfl, r1, r2⟩ := reps2 r
    simp only [Rep] at r1 r2
    subst r1; subst r2
    refine .inr (.inl ⟨_, _, rfl, ?_⟩)
    rw [show (if j > i then j else i) = max i j by split <;> omega]
    exact p.ok hH (by simp only [Rep])
  · obtain ⟨x, y, z, rfl, r1, r2, r3⟩ := reps3D r
    simp only [Rep] at r1 r2 r3
    subst r1; subst r2; subst r3
    exact .inl ⟨_, _, _, rfl, p.ok hH (by simp only [Rep])⟩
  · split at p
    · rename_i n ns h
      obtain ⟨x, rfl, r1⟩ := reps1 r
      obtain ⟨a, rfl, q⟩ := ints_at hH r1 h
      refine .inr (.inr ⟨a, n :: ns, rfl, SqL.of q, by simp, fun m h1 h2 => ?_⟩)
      have e : m = lmax (n :: ns) := Int.le_antisymm (le_lmax h1) (h2 _ (lmax_mem (by simp)))
      rw [e]
      exact p.ok hH (by simp only [Rep])
    · exact p.elim
  · exact p.elim
theorem many_min : Many T dMin (fun xs H Q => (∃ i j k, xs = [.int i, .int j, .int k] ∧ Q (.int (min i (min j k))) H) ∨ ((∃ i j, xs = [.int i, .int j] ∧ Q (.int (if j < i then j else i)) H) ∨ rMin X.K xs H Q)) := fun W G S H ds xs Q hH r p => by
  unfold dMin at p
  split at p
  · rename_i i j
    obtain ⟨x, y, rfl, r1, r2⟩ := reps2 r
    simp only [Rep] at r1 r2
    subst r1; subst r2
    refine .inr (.inl ⟨_, _, rfl, ?_⟩)
    rw [show (if j < i then j else i) = min i j by split <;> omega]
    exact p.ok hH (by simp only [Rep])
  · obtain ⟨x, y, z, rfl, r1, r2, r3⟩ := reps3D r
    simp only [Rep] at r1 r2 r3
    subst r1; subst r2; subst r3
    exact .inl ⟨_, _, _, rfl, p.ok hH (by simp only [Rep])⟩
  · split at p
    · rename_i n ns h
      obtain ⟨x, rfl, r1⟩ := reps1 r
      obtain ⟨a, rfl, q⟩ := ints_at hH r1 h
      refine .inr (.inr ⟨a, n :: ns, rfl, SqL.of q, by simp, fun m h1 h2 => ?_⟩)
      have e : m = lmin (n :: ns) := Int.le_antisymm (h2 _ (lmin_mem (by simp))) (lmin_le h1)
      rw [e]
      exact p.ok hH (by simp only [Rep])
    · exact p.elim
  · exact p.elim
/-- sorted() of items that are not all numbers -/
def dSortP (mu : Bool) (xs : List D) : M D := fun S => match toPs S 12 xs with
  | some ps => if sortOk ps = true then newL mu (sortD xs ps) S else .stuck
  | none => .stuck
def dSorted (mu : Bool) (ds : List D) : M D := fun S => match ds with
  | [d] => match seqL S d with
    | some xs => match intsOf xs with
      | some ns => newL mu ((isort ns).map .int) S
      | none => dSortP mu xs S
    | none => .stuck
  | _ => .stuck
theorem many_sorted {mu : Bool} (hK : X.K = T.K) : Many T (dSorted mu) (fun vs H Q => rSortedI X.K vs H Q ∨ rSortedD X.K vs H Q) := fun W G S H ds xs Q hH r p => by
  unfold dSorted at p
  split at p
  · split at p
    · rename_i ys h0
      split at p
      · rename_i ns h1
        have h : (some ys).bind intsOf = some ns := h1
        rw [← h0] at h
        obtain ⟨x, rfl, r1⟩ := reps1 r
        obtain ⟨a, rfl, q⟩ := ints_at hH r1 h
        refine .inl ⟨a, ns, rfl, SqL.of q, fun ns' l h1 h2 hl => ?_⟩
        have e : ns' = isort ns := sorted_one (h1.trans (isort_perm ns).symm) h2 (isort_le ns)
        rw [e]
        exact newL_ok hH ints_reps p l hl
      · unfold dSortP at p
        split at p
        · rename_i ps h1
          split at p
          · rename_i ok
            obtain ⟨x, rfl, r1⟩ := reps1 r
            obtain ⟨a, vs, rfl, q, z⟩ := seqL_ok hH r1 h0
            have l := toPs_len h1
            have lv : ps.length = vs.length := by rw [l, z.len]
            have e1 : (vs.zip ps).map Prod.fst = vs := List.map_fst_zip (by omega)
            have e2 : (vs.zip ps).map Prod.snd = ps := List.map_snd_zip (by omega)
            refine .inr ⟨a, vs.zip ps, rfl, by rw [e1]; exact SqL.of q, by rw [e1, e2]; exact toPs_ok hK hH _ z h1, by rw [e2]; exact ok, fun l2 hl => ?_⟩
            exact newL_ok hH (sortD_ok z l) p _ hl
          · exact p.elim
        · exact p.elim
    · exact p.elim
  · exact p.elim

/-- a builtin that may be called by its name; mu: the list that it makes is a cell -/
inductive BK where
  | len | abs | int | str | list | tuple | sum | all | any | max | min | sorted
  deriving DecidableEq
def BK.sem (mu : Bool) : BK → List D → M D
  | .len => dLen | .abs => dAbs | .int => dInt | .str => dStr | .list => dList mu | .tuple => dTuple | .sum => dSum | .all => dAll false | .any => dAll true | .max => dMax | .min => dMin | .sorted => dSorted mu
def BK.name : BK → Str
  | .len => "len" | .abs => "abs" | .int => "int" | .str => "str" | .list => "list" | .tuple => "tuple" | .sum => "sum" | .all => "all" | .any => "any" | .max => "max" | .min => "min" | .sorted => "sorted"
theorem ve_bk {k : BK} {mu : Bool} {p : Pos} {e : Expr} {es : List Expr} {f : Envd → M (List D)} (hK : X.K = T.K) (hu : X.A.units + 65 < cLine) (hc : X.calm = true) (hg : Gl X k.name) (hm : X.mg k.name = none) (ha : VA T X W (e :: es) f) (hs : noStar (e :: es) = true) :
    VE T X W (.Call (.Name k.name p) (e :: es) [] pos) (fun env => bnd (f env) (k.sem mu)) := by
  cases k
  · exact ve_blt call_len hg hm PySem.boot_len (many_len hK) ha (by decide) (by decide) hs
  · exact ve_blt call_abs hg hm PyProof.Rows.boot_abs many_abs ha (by decide) (by decide) hs
  · exact ve_ty (call_int1.or call_int_str) hg hm PyProof.Rows.boot_int many_int ha (by decide) (by decide) hs
  · exact ve_ty call_str_int hg hm PyProof.Rows.boot_str many_str ha (by decide) (by decide) hs
  · exact ve_ty call_list_of hg hm PyProof.Rows.boot_list (many_list hK) ha (by decide) (by decide) hs
  · exact ve_ty call_tuple_of hg hm PyProof.Rows.boot_tuple (many_tuple hK) ha (by decide) (by decide) hs
  · exact ve_blt ((cr_sum hc).or (cr_sumT hc)) hg hm (by decide +kernel) (many_sum hK) ha (by decide) (by decide) hs
  · exact ve_blt (cr_all hc) hg hm (by decide +kernel) many_all ha (by decide) (by decide) hs
  · exact ve_blt (cr_any hc) hg hm (by decide +kernel) many_any ha (by decide) (by decide) hs
  · exact ve_blt ((call_max3 hc).or ((call_max2 hc).or (cr_max hc))) hg hm (by decide +kernel) many_max ha (by decide) (by decide) hs
  · exact ve_blt ((call_min3 hc).or ((call_min2 hc).or (cr_min hc))) hg hm (by decide +kernel) many_min ha (by decide) (by decide) hs
  · exact ve_blt (cr_sortedI.or (cr_sortedD hu)) hg hm PyProof.Rows.boot_sorted (many_sorted hK) ha (by decide) (by decide) hs
end
end Ev

set_option Elab.async false
set_option linter.all false
set_option maxRecDepth 100000
set_option maxHeartbeats 4000000
/-! EvE: what is walked, targets, comprehensions. -/
namespace Ev
open PySem PySem.Spec PyProof.Rows L2

/-! ### a list is walked: it changes no more -/
def shz (d : D) : M (List D) := fun S => match d with
  | .lst xs => .ok xs S
  | .ref k => match S[k]? with
    | some (.lst xs) => .ok xs (S.set k (.frz xs))
    | some (.frz xs) => .ok xs S
    | _ => .stuck
  | _ => .stuck
section
variable {T : Kit} {G : Gh} {S : Store} {H : Hp}
theorem shz_ok {d : D} {x : V} {ds : List D} {S' : Store} (hH : Held T G S H) (r : Rep T G d x) (e : shz d S = .ok ds S') : ∃ a vs G', x = .ref a ∧ Step G H G' H ∧ Held T G' S' H ∧ G'.H a = some (.lst vs) ∧ Reps T G' ds vs := by
  unfold shz at e
  split at e
  · cases e
    simp only [Rep] at r
    obtain ⟨a, vs, rfl, q, z⟩ := r
    exact ⟨a, vs, G, rfl, .refl, hH, q, z⟩
  · rename_i k
    simp only [Rep] at r
    obtain ⟨a, rfl, q⟩ := r
    split at e
    · rename_i xs hk
      cases e
      have c := hH.cell k _ a hk q
      simp only [CellRep] at c
      obtain ⟨c0, vs, c1, c2⟩ := c
      have l : Le G (G.put a (.lst vs)) := Gh.put_le c0
      have hc : CellRep T (G.put a (.lst vs)) a H (.frz ds) := by
        simp only [CellRep]
        exact ⟨vs, upd_same, c2.le l⟩
      obtain ⟨h1, h2⟩ := hH.freeze (c' := .frz ds) q c0 c1 hc
      exact ⟨a, vs, _, rfl, h2, h1, upd_same, c2.le l⟩
    · rename_i xs hk
      cases e
      have c := hH.cell k _ a hk q
      simp only [CellRep] at c
      obtain ⟨vs, c1, c2⟩ := c
      exact ⟨a, vs, G, rfl, .refl, hH, c1, c2⟩
    · cases e
  · cases e
end

/-! ### what a loop walks: the items that come -/
def relI (T : Kit) (G : Gh) (items : List D) (J : It) : Prop := ∀ (i : Nat) (G1 : Gh) (S1 : Store) (H1 : Hp), Le G G1 → Held T G1 S1 H1 →
  (i < items.length → J.go i H1) ∧ (items.length ≤ i → J.stop i H1) ∧ ∀ x H2, i < items.length → J.yld i H1 x H2 → ∃ d G2, items[i]? = some d ∧ Step G1 H1 G2 H2 ∧ Held T G2 S1 H2 ∧ Rep T G2 d x
def tI (T : Kit) (W : WX) (f : Envd → M (List D)) : TI := fun σ H R => ∃ G S env, EnvRep T G env σ ∧ Held T G S H ∧ Pst T (relI T) G H (at_ W σ) (f env S) fun _ _ _ J H' => R J H'
abbrev VI (T : Kit) (X : Cx) (W : WX) (tg e : Expr) (f : Envd → M (List D)) : Prop := PI X tg e (tI T W f)
theorem _root_.L2.PI.imp {X : Cx} {tg e : Expr} {t t' : TI} (h : PI X tg e t) (k : ∀ σ H Q, t' σ H Q → t σ H Q) : PI X tg e t' := ⟨fun pins s σ H Q I q => h.run pins s σ H Q I (k _ _ _ q)⟩
theorem _root_.L2.PI.or {X : Cx} {tg e : Expr} {t t' : TI} (h : PI X tg e t) (h' : PI X tg e t') : PI X tg e (fun σ H R => t σ H R ∨ t' σ H R) := ⟨fun pins s σ H Q I q => q.elim (h.run pins s σ H Q I) (h'.run pins s σ H Q I)⟩
section
variable {T : Kit} {X : Cx} {W : WX} {pos : Pos} {a b : Expr} {tg : Expr} {fa fb : Envd → M D}
theorem relI_list {K : PySem.W.Frag} {G : Gh} {ad : Addr} {ds : List D} {vs : List V} (hq : G.H ad = some (.lst vs)) (r : Reps T G ds vs) : relI T G ds (Itl K ad) := fun i G1 S1 H1 l hH => by
  have hs : SqL K H1 ad vs := SqL.of (hH.ext _ _ (l.H _ _ hq))
  have hl := r.len
  refine ⟨fun h => ⟨vs, vs[i]'(by omega), hs, List.getElem?_eq_getElem _⟩, fun h => ⟨vs, hs, by omega⟩, fun x H2 h y => ?_⟩
  obtain ⟨rfl, y⟩ := y
  obtain ⟨d, e, rd⟩ := reps_getV r (y vs hs)
  exact ⟨d, G1, e, .refl, hH, rd.le l⟩
theorem relI_tup {K : PySem.W.Frag} {G : Gh} {ad : Addr} {ds : List D} {vs : List V} (hK : K = T.K) (hq : SqT T.K G.H ad vs) (r : Reps T G ds vs) : relI T G ds (Itt K ad) := fun i G1 S1 H1 l hH => by
  have hs : SqT K H1 ad vs := hK ▸ sqT_le hH.ext (sqT_le l.H hq)
  have hl := r.len
  refine ⟨fun h => ⟨vs, vs[i]'(by omega), hs, List.getElem?_eq_getElem _⟩, fun h => ⟨vs, hs, by omega⟩, fun x H2 h y => ?_⟩
  obtain ⟨rfl, y⟩ := y
  obtain ⟨d, e, rd⟩ := reps_getV r (y vs hs)
  exact ⟨d, G1, e, .refl, hH, rd.le l⟩
def chars (z : Str) : List D := z.cps.toList.map fun c => .str ⟨#[c]⟩
theorem relI_str {G : Gh} {z : Str} : relI T G (chars z) (Its z) := fun i G1 S1 H1 l hH => by
  have hl : (chars z).length = z.cps.size := by unfold chars; simp
  refine ⟨fun h => by show i < z.cps.size; omega, fun h => by show z.cps.size ≤ i; omega, fun x H2 h y => ?_⟩
  obtain ⟨rfl, c, e, rfl⟩ := y
  refine ⟨.str ⟨#[c]⟩, G1, ?_, .refl, hH, by simp only [Rep]⟩
  unfold chars
  rw [List.getElem?_map, Array.getElem?_toList, e]; rfl
/-- a value is walked -/
def iSeq (f : Envd → M D) : Envd → M (List D) := fun env => bnd (f env) fun d S => match d with
  | .tup xs => .ok xs S
  | .str z => .ok (chars z) S
  | d => shz d S
theorem vi_seq (hK : X.K = T.K) (ha : VE T X W a fa) : VI T X W tg a (iSeq fa) := by
  refine ((pi_list (tg := tg) ha).or ((pi_tup (tg := tg) ha).or (pi_str (tg := tg) ha))).imp fun σ H Q ⟨G, S, env, hE, hH, p⟩ => ?_
  unfold iSeq at p
  cases e : fa env S with
  | stuck => simp only [bnd, e] at p; exact p.elim
  | exc c fs S1 =>
    simp only [bnd, e] at p
    exact .inl ⟨G, S, env, hE, hH, by rw [e]; exact p⟩
  | ok d S1 =>
    have p1 := p.bnd (rel := Rep T)
    rw [e] at p1
    have lst : ∀ {d : D}, fa env S = .ok d S1 → (∀ G' H' x, Step G H G' H' → Held T G' S1 H' → Rep T G' d x → Pst T (relI T) G' H' (at_ W σ) (shz d S1) fun _ _ _ J H' => Q J H') → iList X.K (tV T W fa) σ H Q := fun {d} e p1 =>
      ⟨G, S, env, hE, hH, by
        rw [e]
        intro G1 H1 x st1 hd1 r1
        have p2 := p1 G1 H1 x st1 hd1 r1
        cases e2 : shz d S1 with
        | stuck => rw [e2] at p2; exact p2.elim
        | exc c fs S2 =>
          exfalso
          unfold shz at e2
          split at e2
          · cases e2
          · split at e2 <;> cases e2
          · cases e2
        | ok ds S2 =>
          rw [e2] at p2
          obtain ⟨ad, vs, G2, rfl, st2, hd2, q, z⟩ := shz_ok hd1 r1 e2
          exact ⟨ad, rfl, ⟨vs, SqL.of (hd2.ext _ _ q)⟩, p2 G2 H1 _ st2 hd2 (relI_list q z)⟩⟩
    cases d with
    | tup xs =>
      refine .inr (.inl ⟨G, S, env, hE, hH, ?_⟩)
      rw [e]
      intro G1 H1 x st1 hd1 r1
      have p2 := p1 G1 H1 x st1 hd1 r1
      simp only [Rep] at r1
      obtain ⟨ad, vs, rfl, q, z⟩ := r1
      exact ⟨ad, rfl, ⟨vs, hK ▸ sqT_le hd1.ext q⟩, p2.ok hd1 (relI_tup hK q z)⟩
    | str z =>
      refine .inr (.inr ⟨G, S, env, hE, hH, ?_⟩)
      rw [e]
      intro G1 H1 x st1 hd1 r1
      have p2 := p1 G1 H1 x st1 hd1 r1
      simp only [Rep] at r1
      exact ⟨z, r1, p2.ok hd1 relI_str⟩
    | lst xs => exact .inl (lst e p1)
    | ref k => exact .inl (lst e p1)
    | exn c fs => exact .inl (lst e p1)
    | non => exact .inl (lst e p1)
    | bl _ => exact .inl (lst e p1)
    | int _ => exact .inl (lst e p1)
    | scr _ => exact .inl (lst e p1)
    | dct _ _ => exact .inl (lst e p1)
    | obj _ _ => exact .inl (lst e p1)
/-! range -/
def rangeD (lo : Int) (n : Nat) : List D := (List.range n).map fun (i : Nat) => .int (lo + (i : Int))
theorem rangeD_len {lo : Int} {n : Nat} : (rangeD lo n).length = n := by unfold rangeD; simp
theorem relI_rng {G : Gh} {lo : Int} {n : Nat} : relI T G (rangeD lo n) (Itr lo n) := fun i G1 S1 H1 l hH => by
  rw [rangeD_len]
  refine ⟨fun h => h, fun h => h, fun x H2 h y => ?_⟩
  obtain ⟨rfl, rfl⟩ := y
  refine ⟨.int (lo + i), G1, ?_, .refl, hH, by simp only [Rep]⟩
  unfold rangeD
  rw [List.getElem?_map, List.getElem?_range h]; rfl
def downD (hi : Int) (n : Nat) : List D := (List.range n).map fun (i : Nat) => .int (hi - (i : Int))
theorem downD_len {lo : Int} {n : Nat} : (downD lo n).length = n := by unfold downD; simp
theorem relI_down {G : Gh} {hi : Int} {n : Nat} : relI T G (downD hi n) (Itc hi (-1) n) := fun i G1 S1 H1 l hH => by
  rw [downD_len]
  refine ⟨fun h => h, fun h => h, fun x H2 h y => ?_⟩
  obtain ⟨rfl, rfl⟩ := y
  refine ⟨.int (hi - i), G1, ?_, .refl, hH, by simp only [Rep]; rw [show hi + (i : Int) * -1 = hi - i by omega]⟩
  unfold downD
  rw [List.getElem?_map, List.getElem?_range h]; rfl
def okR (i : Int) : Bool := decide (-(2 ^ 62) ≤ i) && decide (i < 2 ^ 62)
def dRange1 (ds : List D) : M (List D) := fun S => match ds with
  | [.int j] => if okR j then .ok (rangeD 0 j.toNat) S else .stuck
  | _ => .stuck
def dRange2 (ds : List D) : M (List D) := fun S => match ds with
  | [.int i, .int j] => if okR i && okR j then .ok (rangeD i (j - i).toNat) S else .stuck
  | _ => .stuck
/-- downwards -/
def dRange3 (ds : List D) : M (List D) := fun S => match ds with
  | [.int i, .int j, .int c] => if okR i && okR j && c == -1 then .ok (downD i (i - j).toNat) S else .stuck
  | _ => .stuck
theorem okR_iff {i : Int} (h : okR i = true) : -(2 ^ 62) ≤ i ∧ i < 2 ^ 62 := by
  unfold okR at h
  simp only [Bool.and_eq_true, decide_eq_true_eq] at h
  exact h
theorem vi_range1 {f : Envd → M (List D)} {p : Pos} (hg : Gl X "range") (hm : X.mg "range" = none) (ha : VA T X W [a] f) (hs : noStar [a] = true) : VI T X W tg (.Call (.Name "range" p) [a] [] pos) (fun env => bnd (f env) dRange1) := by
  refine (pi_range1 hg hm ha (star_cons hs)).imp fun σ H Q ⟨G, S, env, hE, hH, p⟩ => ?_
  refine ⟨G, S, env, hE, hH, (p.bnd (rel := Reps T)).mono fun G1 S1 ds xs H1 st1 hd1 r1 p1 => ?_⟩
  unfold dRange1 at p1
  split at p1
  · rename_i j
    split at p1
    · rename_i h
      obtain ⟨x, rfl, r2⟩ := reps1 r1
      simp only [Rep] at r2
      subst r2
      exact ⟨j, rfl, (okR_iff h).1, (okR_iff h).2, p1.ok hd1 relI_rng⟩
    · exact p1.elim
  · exact p1.elim
theorem vi_range2 {f : Envd → M (List D)} {p : Pos} (hg : Gl X "range") (hm : X.mg "range" = none) (ha : VA T X W [a, b] f) (hs : noStar [a, b] = true) : VI T X W tg (.Call (.Name "range" p) [a, b] [] pos) (fun env => bnd (f env) dRange2) := by
  refine (pi_range2 hg hm ha (by rw [star_cons hs, star_cons (noStar_tail hs)]; rfl) (star_cons (noStar_tail hs))).imp fun σ H Q ⟨G, S, env, hE, hH, p⟩ => ?_
  refine ⟨G, S, env, hE, hH, (p.bnd (rel := Reps T)).mono fun G1 S1 ds xs H1 st1 hd1 r1 p1 => ?_⟩
  unfold dRange2 at p1
  split at p1
  · rename_i i j
    split at p1
    · rename_i h
      simp only [Bool.and_eq_true] at h
      obtain ⟨x, y, rfl, r2, r3⟩ := reps2 r1
      simp only [Rep] at r2 r3
      subst r2; subst r3
      exact ⟨i, j, rfl, ⟨(okR_iff h.1).1, (okR_iff h.1).2, (okR_iff h.2).1, (okR_iff h.2).2⟩, p1.ok hd1 relI_rng⟩
    · exact p1.elim
  · exact p1.elim
theorem reps3 {G : Gh} {d e f : D} {xs : List V} (r : Reps T G [d, e, f] xs) : ∃ x y z, xs = [x, y, z] ∧ Rep T G d x ∧ Rep T G e y ∧ Rep T G f z := by
  simp only [Reps] at r
  obtain ⟨v, r', rfl, r1, w, r'', rfl, r2, u, r3', rfl, r3, rfl⟩ := r
  exact ⟨v, w, u, rfl, r1, r2, r3⟩
theorem vi_range3 {c : Expr} {f : Envd → M (List D)} {p : Pos} (hg : Gl X "range") (hm : X.mg "range" = none) (ha : VA T X W [a, b, c] f) (hs : noStar [a, b, c] = true) : VI T X W tg (.Call (.Name "range" p) [a, b, c] [] pos) (fun env => bnd (f env) dRange3) := by
  refine (pi_range3 hg hm ha (star_cons hs) (star_any (noStar_tail hs))).imp fun σ H Q ⟨G, S, env, hE, hH, p⟩ => ?_
  refine ⟨G, S, env, hE, hH, (p.bnd (rel := Reps T)).mono fun G1 S1 ds xs H1 st1 hd1 r1 p1 => ?_⟩
  unfold dRange3 at p1
  split at p1
  · rename_i i j c
    split at p1
    · rename_i h
      simp only [Bool.and_eq_true, beq_iff_eq] at h
      obtain ⟨⟨h1, h2⟩, rfl⟩ := h
      obtain ⟨x, y, z, rfl, r2, r3, r4⟩ := reps3 r1
      simp only [Rep] at r2 r3 r4
      subst r2; subst r3; subst r4
      exact ⟨i, j, -1, _, rfl, RgC.neg (okR_iff h1).1 (okR_iff h1).2 (okR_iff h2).1 (okR_iff h2).2, p1.ok hd1 relI_down⟩
    · exact p1.elim
  · exact p1.elim

/-! zip, enumerate: new tuples -/
theorem relI_new {G : Gh} {items : List D} {J : It} (pre : ∀ (i : Nat) (G1 : Gh) (S1 : Store) (H1 : Hp), Le G G1 → Held T G1 S1 H1 → (i < items.length → J.go i H1) ∧ (items.length ≤ i → J.stop i H1) ∧
    ∀ x H2, i < items.length → J.yld i H1 x H2 → ∃ ds vs p, items[i]? = some (.tup ds) ∧ x = .ref p ∧ H1 p = none ∧ H2 = upd H1 p (.tup vs) ∧ Reps T G1 ds vs) : relI T G items J := fun i G1 S1 H1 l hH => by
  obtain ⟨h1, h2, h3⟩ := pre i G1 S1 H1 l hH
  refine ⟨h1, h2, fun x H2 hi y => ?_⟩
  obtain ⟨ds, vs, p, e, rfl, hp, rfl, r⟩ := h3 x H2 hi y
  obtain ⟨k1, k2⟩ := hH.new (p := p) (o := .tup vs) hp
  refine ⟨.tup ds, _, e, k2, k1, ?_⟩
  simp only [Rep]
  exact ⟨p, vs, rfl, SqT.of upd_same, r.le k2.le⟩
def zipD (xs ys : List D) : List D := (xs.zip ys).map fun p => .tup [p.1, p.2]
theorem zipD_len {xs ys : List D} : (zipD xs ys).length = min xs.length ys.length := by unfold zipD; simp
theorem zipD_get {xs ys : List D} {i : Nat} {d e : D} (h1 : xs[i]? = some d) (h2 : ys[i]? = some e) : (zipD xs ys)[i]? = some (.tup [d, e]) := by
  unfold zipD
  rw [List.getElem?_map, (List.getElem?_zip_eq_some (z := (d, e))).mpr ⟨h1, h2⟩]; rfl
theorem relI_zip {K : PySem.W.Frag} {G : Gh} {p q : Addr} {xs ys : List D} {vs ws : List V} (h1 : G.H p = some (.lst vs)) (r1 : Reps T G xs vs) (h2 : G.H q = some (.lst ws)) (r2 : Reps T G ys ws) : relI T G (zipD xs ys) (Itz K p q) :=
  relI_new fun i G1 S1 H1 l hH => by
    have s1 : SqL K H1 p vs := SqL.of (hH.ext _ _ (l.H _ _ h1))
    have s2 : SqL K H1 q ws := SqL.of (hH.ext _ _ (l.H _ _ h2))
    have l1 := r1.len
    have l2 := r2.len
    rw [zipD_len]
    refine ⟨fun h => ⟨vs, ws, vs[i]'(by omega), ws[i]'(by omega), s1, s2, List.getElem?_eq_getElem _, List.getElem?_eq_getElem _⟩, fun h => ⟨vs, ws, s1, s2, by omega⟩, fun x H2 hi y => ?_⟩
    obtain ⟨t, u, v, rfl, ht, rfl, y1, y2⟩ := y
    obtain ⟨d, e1, k1⟩ := reps_getV r1 (y1 vs s1)
    obtain ⟨e, e2, k2⟩ := reps_getV r2 (y2 ws s2)
    exact ⟨[d, e], [u, v], t, zipD_get e1 e2, rfl, ht, rfl, reps_cons (k1.le l) (reps_cons (k2.le l) reps_nil)⟩
theorem relI_zipT {K : PySem.W.Frag} (hK : K = T.K) {G : Gh} {p q : Addr} {xs ys : List D} {vs ws : List V} (h1 : SqT T.K G.H p vs) (r1 : Reps T G xs vs) (h2 : SqT T.K G.H q ws) (r2 : Reps T G ys ws) : relI T G (zipD xs ys) (RZ.ItzT K p q) :=
  relI_new fun i G1 S1 H1 l hH => by
    have s1 : SqT K H1 p vs := hK ▸ sqT_le hH.ext (sqT_le l.H h1)
    have s2 : SqT K H1 q ws := hK ▸ sqT_le hH.ext (sqT_le l.H h2)
    have l1 := r1.len
    have l2 := r2.len
    rw [zipD_len]
    refine ⟨fun h => ⟨vs, ws, vs[i]'(by omega), ws[i]'(by omega), s1, s2, List.getElem?_eq_getElem _, List.getElem?_eq_getElem _⟩, fun h => ⟨vs, ws, s1, s2, by omega⟩, fun x H2 hi y => ?_⟩
    obtain ⟨t, u, v, rfl, ht, rfl, y1, y2⟩ := y
    obtain ⟨d, e1, k1⟩ := reps_getV r1 (y1 vs s1)
    obtain ⟨e, e2, k2⟩ := reps_getV r2 (y2 ws s2)
    exact ⟨[d, e], [u, v], t, zipD_get e1 e2, rfl, ht, rfl, reps_cons (k1.le l) (reps_cons (k2.le l) reps_nil)⟩
/-- two lists, or two tuples -/
def dZip (ds : List D) : M (List D) := fun S => match ds with
  | [.tup xs, .tup ys] => .ok (zipD xs ys) S
  | [d, e] => match shz d S with
    | .ok xs S1 => match shz e S1 with
      | .ok ys S2 => .ok (zipD xs ys) S2
      | _ => .stuck
    | _ => .stuck
  | _ => .stuck
theorem vi_zip {f : Envd → M (List D)} {p tpos : Pos} {elts : List Expr} {kk : Nat} (hK : X.K = T.K) (hg : Gl X "zip") (hm : X.mg "zip" = none) (ha : VA T X W [a, b] f) (hs : noStar [a, b] = true) :
    VI T X W (.Tuple elts kk tpos) (.Call (.Name "zip" p) [a, b] [] pos) (fun env => bnd (f env) dZip) := by
  refine (RZ.pi_zipA hg hm ha (star_cons hs) (star_any (noStar_tail hs))).imp fun σ H Q ⟨G, S, env, hE, hH, p⟩ => ?_
  refine ⟨G, S, env, hE, hH, (p.bnd (rel := Reps T)).mono fun G1 S1 ds xs H1 st1 hd1 r1 p1 => ?_⟩
  unfold dZip at p1
  split at p1
  · obtain ⟨x, y, rfl, r2, r3⟩ := reps2 r1
    simp only [Rep] at r2 r3
    obtain ⟨u, vs, rfl, q1, z1⟩ := r2
    obtain ⟨v, ws, rfl, q2, z2⟩ := r3
    exact ⟨u, v, vs, ws, rfl, .inr ⟨hK ▸ sqT_le hd1.ext q1, hK ▸ sqT_le hd1.ext q2, p1.ok hd1 (relI_zipT hK q1 z1 q2 z2)⟩⟩
  · split at p1
    · rename_i e1
      split at p1
      · rename_i e2
        obtain ⟨x, y, rfl, r2, r3⟩ := reps2 r1
        obtain ⟨u, vs, G2, rfl, st2, hd2, q1, z1⟩ := shz_ok hd1 r2 e1
        obtain ⟨v, ws, G3, rfl, st3, hd3, q2, z2⟩ := shz_ok hd2 (r3.le st2.le) e2
        refine ⟨u, v, vs, ws, rfl, .inl ⟨SqL.of (hd2.ext _ _ q1), SqL.of (hd3.ext _ _ q2), ?_⟩⟩
        exact p1 G3 H1 _ (st2.trans st3) hd3 (relI_zip (st3.le.H _ _ q1) (z1.le st3.le) q2 z2)
      · exact p1.elim
    · exact p1.elim
  · exact p1.elim
def enumD (xs : List D) : List D := (xs.zipIdx).map fun p => .tup [.int (p.2 : Int), p.1]
theorem enumD_len {xs : List D} : (enumD xs).length = xs.length := by unfold enumD; simp
theorem enumD_get {xs : List D} {i : Nat} {d : D} (h : xs[i]? = some d) : (enumD xs)[i]? = some (.tup [.int (i : Int), d]) := by
  unfold enumD
  rw [List.getElem?_map, List.getElem?_zipIdx, h]
  simp
theorem relI_enum {K : PySem.W.Frag} {G : Gh} {p : Addr} {xs : List D} {vs : List V} (h1 : G.H p = some (.lst vs)) (r1 : Reps T G xs vs) : relI T G (enumD xs) (Ite K p) :=
  relI_new fun i G1 S1 H1 l hH => by
    have s1 : SqL K H1 p vs := SqL.of (hH.ext _ _ (l.H _ _ h1))
    have l1 := r1.len
    rw [enumD_len]
    refine ⟨fun h => ⟨vs, vs[i]'(by omega), s1, List.getElem?_eq_getElem _⟩, fun h => ⟨vs, s1, by omega⟩, fun x H2 hi y => ?_⟩
    obtain ⟨t, u, rfl, ht, rfl, y1⟩ := y
    obtain ⟨d, e1, k1⟩ := reps_getV r1 (y1 vs s1)
    exact ⟨[.int (i : Int), d], [.int (i : Nat), u], t, enumD_get e1, rfl, ht, rfl, reps_cons (by simp only [Rep]) (reps_cons (k1.le l) reps_nil)⟩
def dEnum (ds : List D) : M (List D) := fun S => match ds with
  | [d] => match shz d S with
    | .ok xs S1 => .ok (enumD xs) S1
    | _ => .stuck
  | _ => .stuck
theorem vi_enum {f : Envd → M (List D)} {p tpos : Pos} {elts : List Expr} {kk : Nat} (hg : Gl X "enumerate") (hm : X.mg "enumerate" = none) (ha : VA T X W [a] f) (hs : noStar [a] = true) :
    VI T X W (.Tuple elts kk tpos) (.Call (.Name "enumerate" p) [a] [] pos) (fun env => bnd (f env) dEnum) := by
  refine (pi_enum hg hm ha (star_cons hs)).imp fun σ H Q ⟨G, S, env, hE, hH, p⟩ => ?_
  refine ⟨G, S, env, hE, hH, (p.bnd (rel := Reps T)).mono fun G1 S1 ds xs H1 st1 hd1 r1 p1 => ?_⟩
  unfold dEnum at p1
  split at p1
  · split at p1
    · rename_i e1
      obtain ⟨x, rfl, r2⟩ := reps1 r1
      obtain ⟨u, vs, G2, rfl, st2, hd2, q1, z1⟩ := shz_ok hd1 r2 e1
      exact ⟨u, vs, rfl, SqL.of (hd2.ext _ _ q1), p1 G2 H1 _ st2 hd2 (relI_enum q1 z1)⟩
    · exact p1.elim
  · exact p1.elim

/-! ### targets: a name, names -/
inductive Tg where
  | nm (i : Nat) | tp (is : List Nat)
  deriving DecidableEq
def Tg.slots : Tg → List Nat
  | .nm i => [i]
  | .tp is => is
def setAll : List Nat → List D → Envd → Envd
  | i :: is, d :: ds, env => setAll is ds (env.set i (some d))
  | _, _, env => env
def setAllV : List Nat → List V → L2.St → L2.St
  | i :: is, d :: ds, env => setAllV is ds (env.set i (some d))
  | _, _, env => env
/-- the items of a tuple or a list, of just this number -/
def unp (n : Nat) (d : D) : M (List D) := fun S => match d with
  | .tup xs => if xs.length = n then .ok xs S else .stuck
  | d => match seqL S d with
    | some xs => if xs.length = n then .ok xs S else .stuck
    | none => .stuck
def Tg.bind (t : Tg) (d : D) (env : Envd) : M Envd := match t with
  | .nm i => ret (env.set i (some d))
  | .tp is => bnd (unp is.length d) fun xs => ret (setAll is xs env)
theorem setAll_rep {G : Gh} : ∀ {is : List Nat} {ds : List D} {vs : List V} {env : Envd} {σ : L2.St}, EnvRep T G env σ → Reps T G ds vs → EnvRep T G (setAll is ds env) (setAllV is vs σ)
  | [], ds, vs, env, σ, h, r => by cases ds <;> cases vs <;> exact h
  | i :: is, [], vs, env, σ, h, r => by
    simp only [Reps] at r; subst r; exact h
  | i :: is, d :: ds, vs, env, σ, h, r => by
    simp only [Reps] at r
    obtain ⟨v, r', rfl, r1, r2⟩ := r
    unfold setAll setAllV
    exact setAll_rep (h.set i r1) r2
theorem wipe_set {σ : L2.St} {x : Option V} {i : Nat} : ∀ {vs : List Nat}, i ∈ vs → wipe (σ.set i x) vs = wipe σ vs
  | [], h => by cases h
  | v :: vs, h => by
    unfold wipe
    by_cases hv : i ∈ vs
    · rw [wipe_set hv]
    · have e : i = v := by
        rcases List.mem_cons.mp h with e | e
        · exact e
        · exact absurd e hv
      subst e
      have : ∀ {us : List Nat}, i ∉ us → wipe (σ.set i x) us = (wipe σ us).set i x := by
        intro us
        induction us with
        | nil => intro _; rfl
        | cons u us ih =>
          intro hu
          unfold wipe
          rw [ih fun z => hu (List.mem_cons_of_mem _ z)]
          exact List.set_comm _ _ fun z => hu (by rw [z]; exact List.mem_cons_self)
      rw [this hv, List.set_set]
theorem wipe_setAll : ∀ {is : List Nat} {ws : List V} {σ : L2.St} {vs : List Nat}, (∀ i ∈ is, i ∈ vs) → wipe (setAllV is ws σ) vs = wipe σ vs
  | [], ws, σ, vs, _ => by cases ws <;> rfl
  | i :: is, [], σ, vs, _ => rfl
  | i :: is, w :: ws, σ, vs, h => by
    unfold setAllV
    rw [wipe_setAll fun j hj => h j (List.mem_cons_of_mem _ hj), wipe_set (h i List.mem_cons_self)]
/-- a target's reading -/
def gT (T : Kit) (t : Tg) : TG := fun v σ H Q => ∃ G S d env, EnvRep T G env σ ∧ Held T G S H ∧ Rep T G d v ∧ ∃ env', t.bind d env S = .ok env' S ∧ ∀ σ', EnvRep T G env' σ' → (∀ vs, (∀ i ∈ t.slots, i ∈ vs) → wipe σ' vs = wipe σ vs) → Q σ' H
abbrev VG (T : Kit) (X : Cx) (tg : Expr) (t : Tg) : Prop := PG X tg (gT T t)
theorem _root_.L2.PG.imp {X : Cx} {tg : Expr} {t t' : TG} (h : PG X tg t) (k : ∀ v σ H Q, t' v σ H Q → t v σ H Q) : PG X tg t' := ⟨fun pins s σ H v u Q I r q => h.run pins s σ H v u Q I r (k _ _ _ _ q)⟩
theorem _root_.L2.PG.or {X : Cx} {tg : Expr} {t t' : TG} (h : PG X tg t) (h' : PG X tg t') : PG X tg (fun v σ H Q => t v σ H Q ∨ t' v σ H Q) := ⟨fun pins s σ H v u Q I r q => q.elim (h.run pins s σ H v u Q I r) (h'.run pins s σ H v u Q I r)⟩
theorem vg_name {i : Nat} {x : Str} (hN : X.N.Nodup) (hi : X.N[i]? = some x) (hx : Loc X.env.scope x) (hf : X.fn x = true ∨ X.env.scope.names.lookup x = some .local) : VG T X (.Name x pos) (.nm i) := by
  refine (pg_name hN hi hx hf).imp fun v σ H Q ⟨G, S, d, env, hE, hH, r, env', e, q⟩ => ?_
  cases e
  exact q _ (hE.set i r) fun vs h => wipe_set (h i (by simp [Tg.slots]))
/-- names in a row -/
inductive NamesAt (X : Cx) : List Expr → List Nat → Prop
  | nil : NamesAt X [] []
  | cons {i : Nat} {x : Str} {p : Pos} {es : List Expr} {is : List Nat} : X.N[i]? = some x → Loc X.env.scope x → (X.fn x = true ∨ X.env.scope.names.lookup x = some .local) → NamesAt X es is → NamesAt X (.Name x p :: es) (i :: is)
def gNames : List Nat → TGs
  | [] => gNil
  | i :: is => gCons (gName i) (gNames is)
theorem pgs_names (hN : X.N.Nodup) : ∀ {es : List Expr} {is : List Nat}, NamesAt X es is → PGs X es (gNames is)
  | _, _, .nil => pgs_nil
  | _, _, .cons h1 h2 h3 r => pgs_cons (pg_name hN h1 h2 h3) (pgs_names hN r)
theorem gNames_of : ∀ {is : List Nat} {vs : List V} {σ : L2.St} {H : Hp} {Q : L2.St → Hp → Prop}, vs.length = is.length → Q (setAllV is vs σ) H → gNames is vs σ H Q
  | [], [], σ, H, Q, _, q => ⟨rfl, q⟩
  | [], v :: vs, σ, H, Q, h, q => by simp at h
  | i :: is, [], σ, H, Q, h, q => by simp at h
  | i :: is, v :: vs, σ, H, Q, h, q => ⟨v, vs, rfl, gNames_of (by simpa using h) q⟩
theorem names_len {es : List Expr} {is : List Nat} (h : NamesAt X es is) : (assignEach es X.env).length = is.length := by
  induction h with
  | nil => rfl
  | cons _ _ _ _ ih =>
    show (assignEach _ X.env).length + 1 = _
    rw [ih]; rfl
theorem names_star {es : List Expr} {is : List Nat} (h : NamesAt X es is) : (assignEach es X.env).findIdx? (·.1) = none := by
  induction h with
  | nil => rfl
  | cons _ _ _ r ih =>
    rw [List.findIdx?_eq_none_iff] at ih ⊢
    intro x hx
    rcases List.mem_cons.mp hx with e | hx
    · rw [e]
    · exact ih x hx
theorem vg_tup {es : List Expr} {k : Nat} {is : List Nat} (hK : X.K = T.K) (hc : X.calm = true) (hN : X.N.Nodup) (h : NamesAt X es is) : VG T X (.Tuple es k pos) (.tp is) := by
  refine ((pg_tup hc (pgs_names hN h) (names_len h) (names_star h)).or (pg_unl hc (pgs_names hN h) (names_len h) (names_star h))).imp fun v σ H Q ⟨G, S, d, env, hE, hH, r, env', e, q⟩ => ?_
  have fin : ∀ {ds : List D} {vs : List V}, Reps T G ds vs → ds.length = is.length → env' = setAll is ds env → gNames is vs σ H Q := fun {ds vs} r hl e => by
    subst e
    exact gNames_of (by rw [← r.len]; exact hl) (q _ (setAll_rep hE r) fun us h => wipe_setAll h)
  unfold Tg.bind at e
  dsimp only at e
  cases e1 : unp is.length d S with
  | stuck => simp only [bnd, e1] at e; cases e
  | exc c fs S1 => simp only [bnd, e1] at e; cases e
  | ok xs S1 =>
    simp only [bnd, e1, ret] at e
    cases e
    unfold unp at e1
    split at e1
    · split at e1
      · rename_i hl
        cases e1
        simp only [Rep] at r
        obtain ⟨a, vs, rfl, q1, z⟩ := r
        exact .inl ⟨a, vs, rfl, hK ▸ sqT_le hH.ext q1, z.len.symm.trans hl, fin z hl rfl⟩
      · cases e1
    · split at e1
      · rename_i xs' h0
        split at e1
        · rename_i hl
          cases e1
          obtain ⟨a, vs, rfl, q1, z⟩ := seqL_ok hH r h0
          exact .inr ⟨a, vs, rfl, SqL.of q1, z.len.symm.trans hl, fin z hl rfl⟩
        · cases e1
      · cases e1
end
end Ev

set_option Elab.async false
set_option linter.all false
set_option maxRecDepth 100000
set_option maxHeartbeats 4000000
/-! EvF: comprehensions, calls of the text's own defs. -/
namespace Ev
open PySem PySem.Spec PyProof.Rows L2

/-- nothing may be raised -/
def nx {α : Type} (m : M α) : M α := fun S => match m S with
  | .ok a S' => .ok a S'
  | _ => .stuck
def Val {α : Type} (r : R α) (k : α → Store → Prop) : Prop := match r with
  | .ok a S => k a S
  | _ => False
theorem Val.nx {α β : Type} {m : M α} {f : α → M β} {S : Store} {k : β → Store → Prop} (h : Val (bnd (nx m) f S) k) : ∃ a S', m S = .ok a S' ∧ Val (f a S') k := by
  unfold bnd Ev.nx at h
  cases e : m S with
  | ok a S' => rw [e] at h; exact ⟨a, S', rfl, h⟩
  | exc c fs S' => rw [e] at h; exact h.elim
  | stuck => rw [e] at h; exact h.elim
theorem Val.bnd {α β : Type} {m : M α} {f : α → M β} {S : Store} {k : β → Store → Prop} (h : Val (bnd m f S) k) : ∃ a S', m S = .ok a S' ∧ Val (f a S') k := by
  unfold Ev.bnd at h
  cases e : m S with
  | ok a S' => rw [e] at h; exact ⟨a, S', rfl, h⟩
  | exc c fs S' => rw [e] at h; exact h.elim
  | stuck => rw [e] at h; exact h.elim
theorem Val.ret {α : Type} {a : α} {S : Store} {k : α → Store → Prop} (h : Val (ret a S) k) : k a S := h
def compL (t : Tg) (test : Envd → M Bool) (elt : Envd → M D) (env : Envd) : List D → M (List D)
  | [] => ret []
  | d :: ds => bnd (t.bind d env) fun env1 => bnd (nx (test env1)) fun b => if b = true then bnd (nx (elt env1)) fun y => bnd (compL t test elt env ds) fun ys => ret (y :: ys) else compL t test elt env ds
def wipeD (env : Envd) : List Nat → Envd
  | [] => env
  | v :: vs => (wipeD env vs).set v none
def sComp (mu : Bool) (it : Envd → M (List D)) (t : Tg) (own : List Nat) (test : Envd → M Bool) (elt : Envd → M D) : Envd → M D := fun env =>
  bnd (it env) fun items => if items.length ≤ sizeLine then bnd (nx (compL t test elt (wipeD env own) items)) (newL mu) else stk
section
variable {T : Kit} {G : Gh} {S : Store} {H : Hp}
theorem wipeD_rep {env : Envd} {σ : L2.St} (h : EnvRep T G env σ) : ∀ vs : List Nat, EnvRep T G (wipeD env vs) (wipe σ vs)
  | [] => h
  | v :: vs => (wipeD_rep h vs).kill2 v none
theorem Held.adopt (h : Held T G S H) {p : Addr} {o : HO} (hp : H p = some o) (hG : G.H p = none) (hm : p ∉ G.m) : Held T (G.put p o) S H := by
  have l : Le G (G.put p o) := Gh.put_le hG
  refine ⟨fun a u e => ?_, h.len, h.nd, fun k c a e1 e2 => ?_⟩
  · have e' : upd G.H p o a = some u := e
    by_cases ha : a = p
    · subst ha
      rw [upd_same] at e'; cases e'; exact hp
    · rw [upd_ne ha] at e'; exact h.ext a u e'
  · have na : a ≠ p := fun z => hm (z ▸ List.mem_of_getElem? e2)
    refine (h.cell k c a e1 e2).le l (fun z => ?_) fun _ => rfl
    show upd G.H p o a = none
    rw [upd_ne na]; exact z
theorem Held.adoptC (h : Held T G S H) {p : Addr} {c : Cell} (hm : p ∉ G.m) (hc : CellRep T (G.push p) p H c) : Held T (G.push p) (S ++ [c]) H := by
  refine ⟨h.ext, ?_, ?_, fun k d a e1 e2 => ?_⟩
  · show (G.m ++ [p]).length = _
    rw [List.length_append, List.length_append, h.len]; rfl
  · refine List.nodup_append.mpr ⟨h.nd, by simp, fun x hx y hy => ?_⟩
    simp at hy
    subst hy
    exact fun z => hm (z ▸ hx)
  · have hl := h.len
    have e2 : (G.m ++ [p])[k]? = some a := e2
    by_cases hk : k < S.length
    · rw [List.getElem?_append_left hk] at e1
      rw [List.getElem?_append_left (by omega)] at e2
      exact (h.cell k d a e1 e2).le Gh.push_le (fun z => z) fun z => rfl
    · rw [List.getElem?_append_right (by omega)] at e1 e2
      have hk2 : k - S.length = 0 := by
        have := (List.getElem?_eq_some_iff.mp e1).1
        simp at this
        omega
      rw [hk2] at e1
      rw [show k - G.m.length = 0 by omega] at e2
      simp at e1 e2
      subst e1; subst e2
      exact hc
theorem Step.side {G0 : Gh} {H0 : Hp} (st : Step G0 H0 G H) {p : Addr} {o : HO} (hp : H0 p = none) : Step G0 H0 G (upd H p o) := ⟨st.le, fun a u e n => by
  obtain ⟨h1, h2, h3⟩ := st.fr a u e n
  exact ⟨by rw [upd_ne (ne_of_none e hp)]; exact h1, h2, h3⟩⟩
theorem newL_adopt {G0 : Gh} {H0 : Hp} {W : XK} {mu : Bool} {ds : List D} {vs : List V} {p : Addr} {Q : VK} (pv : PV T G0 H0 W (newL mu ds S) Q) (st : Step G0 H0 G H) (h0 : H0 p = none) (hH : Held T G S H) (hp : H p = some (.lst vs)) (hG : G.H p = none) (hm : p ∉ G.m)
    (r : Reps T G ds vs) : Q (.ref p) H := by
  unfold newL at pv
  cases mu with
  | true =>
    have hc : CellRep T (G.push p) p H (.lst ds) := by
      simp only [CellRep]
      exact ⟨hG, vs, hp, r.le Gh.push_le⟩
    refine pv (G.push p) H (.ref p) ⟨st.le.trans Gh.push_le, fun a u e n => ?_⟩ (hH.adoptC hm hc) ?_
    · obtain ⟨h1, h2, h3⟩ := st.fr a u e n
      refine ⟨h1, ?_, h3⟩
      show a ∉ G.m ++ [p]
      rw [List.mem_append, List.mem_singleton]
      rintro (z | z)
      · exact h2 z
      · exact ne_of_none e h0 z
    · simp only [Rep]
      refine ⟨p, rfl, ?_⟩
      show (G.m ++ [p])[S.length]? = some p
      rw [← hH.len, List.getElem?_append_right (Nat.le_refl _), Nat.sub_self]; rfl
  | false =>
    have l : Le G (G.put p (.lst vs)) := Gh.put_le hG
    refine pv (G.put p (.lst vs)) H (.ref p) ⟨st.le.trans l, fun a u e n => ?_⟩ (hH.adopt hp hG hm) ?_
    · obtain ⟨h1, h2, h3⟩ := st.fr a u e n
      refine ⟨h1, h2, fun z => ?_⟩
      show upd G.H p _ a = none
      rw [upd_ne (ne_of_none e h0)]
      exact h3 z
    · simp only [Rep]
      exact ⟨p, vs, rfl, upd_same, r.le l⟩
theorem unp_store {n : Nat} {d : D} {xs : List D} {S S' : Store} (e : unp n d S = .ok xs S') : S' = S := by
  unfold unp at e
  split at e
  · split at e <;> cases e; rfl
  · split at e
    · split at e <;> cases e; rfl
    · cases e
theorem bind_store {t : Tg} {d : D} {env env' : Envd} {S S' : Store} (e : t.bind d env S = .ok env' S') : S' = S := by
  cases t with
  | nm i => simp only [Tg.bind, ret] at e; cases e; rfl
  | tp is =>
    simp only [Tg.bind, bnd] at e
    cases h : unp is.length d S with
    | ok xs S1 =>
      rw [h] at e
      cases e
      exact unp_store h
    | exc c fs S1 => rw [h] at e; cases e
    | stuck => rw [h] at e; cases e
end

abbrev WF : WX := fun _ _ _ _ => False
section
variable {T : Kit} {X : Cx} {W : WX} {pos : Pos} {a b : Expr} {tg : Expr} {fa fb : Envd → M D}
/-- a comprehension's tests: none or one -/
def testOf : Option (Envd → M Bool) → Envd → M Bool
  | none => fun _ => ret true
  | some f => f
abbrev VTs (T : Kit) (X : Cx) (W : WX) (es : List Expr) (f : Envd → M Bool) : Prop := PTs X es (tB2 T W f)
theorem _root_.L2.PTs.imp {X : Cx} {e : List Expr} {t t' : TT} (h : PTs X e t) (k : ∀ σ H Q, t' σ H Q → t σ H Q) : PTs X e t' := ⟨fun pins s σ H Q I q => h.run pins s σ H Q I (k _ _ _ q)⟩
theorem vts_nil : VTs T X W [] (fun _ => ret true) := pts_nil.imp fun σ H Q ⟨G, S, env, hE, hH, p⟩ => p.ret hH rfl
theorem vts_one {c : Expr} {f : Envd → M Bool} (h : VT T X W c f) : VTs T X W [c] f := pts_one h
theorem comp_turns {mu : Bool} {t : Tg} {own : List Nat} {test : Envd → M Bool} {elt : Envd → M D} {G0 : Gh} {S0 : Store} {H0 : Hp} {env : Envd} {σ : L2.St} {items : List D} {J : It} {Wx : XK} {Q : VK}
    (hE : EnvRep T G0 env σ) (hH : Held T G0 S0 H0) (hJ : relI T G0 items J) (hz : items.length ≤ sizeLine) (ho : ∀ i ∈ t.slots, i ∈ own)
    (p : Val (compL t test elt (wipeD env own) items S0) fun ys S' => PV T G0 H0 Wx (newL mu ys S') Q) (Dl : Addr) (hD : H0 Dl = none) :
    ∃ Wf : Nat → Nat → Hp → Prop, (∃ m, Wf 0 m (upd H0 Dl (.lst []))) ∧ ∀ i m H, Wf i m H →
      (J.stop i H ∧ Q (.ref Dl) H) ∨ (J.go i H ∧ ∃ Nx : Hp → Prop, (∀ H', Nx H' → ∃ m', m' < m ∧ Wf (i + 1) m' H') ∧ ∀ x H', J.yld i H x H' → gT T t x (wipe σ own) H' fun σ2 H2 => wipe σ2 own = wipe σ own ∧ tB2 T WF test σ2 H2 fun b H3 =>
        if b = true then tV T WF elt σ2 H3 fun y H4 => ∃ acc, H4 Dl = some (.lst acc) ∧ acc.length < sizeLine ∧ Nx (upd H4 Dl (.lst (acc ++ [y]))) else Nx H3) := by
  refine ⟨fun i m H => m = items.length - i ∧ i ≤ items.length ∧ ∃ G S acc vacc, Step G0 H0 G H ∧ Held T G S H ∧ H Dl = some (.lst vacc) ∧ G.H Dl = none ∧ Dl ∉ G.m ∧ Reps T G acc vacc ∧ acc.length ≤ i ∧
    Val (compL t test elt (wipeD env own) (items.drop i) S) fun ys S' => PV T G0 H0 Wx (newL mu (acc ++ ys) S') Q, ⟨items.length, rfl, Nat.zero_le _, ?_⟩, ?_⟩
  · obtain ⟨h1, h2⟩ := hH.beside (p := Dl) (o := .lst []) hD
    exact ⟨G0, S0, [], [], h2, h1, upd_same, hH.fresh hD, hH.notm hD, reps_nil, Nat.le_refl _, p⟩
  rintro i m H ⟨rfl, hi, G, S, acc, vacc, st, hh, hDl, hDg, hDm, hr, hacc, pv⟩
  obtain ⟨jg, js, jy⟩ := hJ i G S H st.le hh
  by_cases hlt : i < items.length
  · refine .inr ⟨jg hlt, _, fun H' q => ⟨items.length - (i + 1), by omega, rfl, hlt, q⟩, fun x H' hy => ?_⟩
    obtain ⟨d, G1, e, st1, hh1, rd⟩ := jy x H' hlt hy
    have hd : items.drop i = d :: items.drop (i + 1) := by
      rw [List.drop_eq_getElem_cons hlt]
      rw [List.getElem?_eq_getElem hlt] at e
      cases e; rfl
    rw [hd] at pv
    unfold compL at pv
    obtain ⟨env1, S1, e1, pv1⟩ := pv.bnd
    have es := bind_store e1
    subst es
    clear pv
    refine ⟨G1, S1, d, wipeD env own, wipeD_rep (hE.le (st.trans st1).le) own, hh1, rd, env1, e1, fun σ' hE' hw => ⟨(hw own ho).trans (by
      have : ∀ (us : List Nat), (∀ v ∈ us, v ∈ own) → wipe (wipe σ us) own = wipe σ own := by
        intro us
        induction us with
        | nil => intro _; rfl
        | cons u us ih =>
          intro hu
          show wipe ((wipe σ us).set u none) own = _
          rw [wipe_set (hu u List.mem_cons_self)]
          exact ih fun v hv => hu v (List.mem_cons_of_mem _ hv)
      exact this own fun v hv => hv), ?_⟩⟩
    obtain ⟨k, S2, e2, pv⟩ := pv1.nx
    refine ⟨G1, S1, env1, hE', hh1, ?_⟩
    rw [e2]
    intro G2 H2 k' st2 hh2 hk
    subst hk
    split
    · rename_i hk
      rw [if_pos hk] at pv
      obtain ⟨y, S3, e3, pv⟩ := pv.nx
      refine ⟨G2, S2, env1, hE'.le st2.le, hh2, ?_⟩
      rw [e3]
      intro G3 H3 v st3 hh3 rv
      have sst := (st1.trans st2).trans st3
      obtain ⟨f1, f2, f3⟩ := sst.fr Dl _ hDl hDm
      obtain ⟨ys, S4, e4, pv⟩ := pv.bnd
      have hlen := hr.len
      refine ⟨vacc, f1, by omega, G3, S3, acc ++ [y], vacc ++ [v], (st.trans sst).side hD, hh3.beside_set (f3 hDg) f2, upd_same, f3 hDg, f2, reps_snoc (hr.le sst.le) rv, by simp; omega, ?_⟩
      rw [e4]
      have pv' := pv.ret
      show PV T G0 H0 Wx (newL mu (acc ++ [y] ++ ys) S4) Q
      rw [List.append_assoc]
      exact pv'
    · rename_i hk
      rw [if_neg hk] at pv
      have sst := st1.trans st2
      obtain ⟨f1, f2, f3⟩ := sst.fr Dl _ hDl hDm
      exact ⟨G2, S2, acc, vacc, st.trans sst, hh2, f1, f3 hDg, f2, hr.le sst.le, by omega, pv⟩
  · have hi' : i = items.length := by omega
    refine .inl ⟨js (by omega), ?_⟩
    rw [hi', List.drop_length] at pv
    have pv' := pv.ret
    rw [List.append_nil] at pv'
    exact newL_adopt pv' st hD hh hDl hDg hDm hr
theorem tLc_of {mu : Bool} {it : Envd → M (List D)} {t : Tg} {own : List (Str × Nat)} {test : Envd → M Bool} {elt : Envd → M D} (ho : ∀ i ∈ t.slots, i ∈ own.map (·.2)) (σ : L2.St) (H : Hp) (Q : VK) (h : tV T W (sComp mu it t (own.map (·.2)) test elt) σ H Q) :
    tLc (tI T W it) (gT T t) (tB2 T WF test) (tV T WF elt) (own.map (·.2)) σ H Q := by
  obtain ⟨G, S, env, hE, hH, p⟩ := h
  refine ⟨G, S, env, hE, hH, (p.bnd (rel := relI T)).mono fun G1 S1 items J H1 st1 hd1 r1 p1 => ?_⟩
  split at p1
  · rename_i hz
    refine fun Dl hD => comp_turns (mu := mu) (Wx := at_ W σ) (hE.le st1.le) hd1 r1 hz ho ?_ Dl hD
    · cases e : compL t test elt (wipeD env (own.map (·.2))) items S1 with
      | ok ys S2 =>
        simp only [bnd, nx, e] at p1
        exact p1
      | exc c fs S2 => simp only [bnd, nx, e] at p1; exact p1.elim
      | stuck => simp only [bnd, nx, e] at p1; exact p1.elim
  · exact p1.elim
theorem ve_comp {mu : Bool} {elt iter : Expr} {ifs : List Expr} {scope : Scope} {own : List (Str × Nat)} {it : Envd → M (List D)} {t : Tg} {test : Envd → M Bool} {fe : Envd → M D} (hc : X.calm = true) (hN : X.N.Nodup) (hi : VI T X W tg iter it) (ok : BlkOk X.N X.env.scope scope own)
    (hg : ∀ (s : Shared) (H : Hp) (C : Addr) (cl : List (Str × Addr)) (fp : List Addr), VG T (X.blk s H scope (compEnvC scope cl C X.env) fp) tg t) (ht : ∀ (s : Shared) (H : Hp) (C : Addr) (cl : List (Str × Addr)) (fp : List Addr), VTs T (X.blk s H scope (compEnvC scope cl C X.env) fp) WF ifs test)
    (he : ∀ (s : Shared) (H : Hp) (C : Addr) (cl : List (Str × Addr)) (fp : List Addr), VE T (X.blk s H scope (compEnvC scope cl C X.env) fp) WF elt fe) (hs : ∀ x, foldedSetIterable iter X.env x = pure x) (ho : ∀ i ∈ t.slots, i ∈ own.map (·.2)) :
    VE T X W (.ListComp elt [⟨tg, iter, ifs, 0⟩] scope pos) (sComp mu it t (own.map (·.2)) test fe) :=
  (pe_lc hc hN hi ok hg ht he hs).imp (tLc_of ho)

/-! ### a def of the text, called -/
def spOf (T : Kit) (sem : List D → M D) : Sp := fun vs H Q E => ∃ G S ds, Held T G S H ∧ Reps T G ds vs ∧ PV T G H E (sem ds S) Q
/-- a new object, by the class's own __init__ -/
def MadeBy (T : Kit) (c : Nat) (sem0 sem : List D → M D) : Prop := ∀ {vs : List V} {H : Hp} {Q : VK} {E : XK}, spOf T sem vs H Q E → ∀ x dx, H x = none → H dx = none → dx ≠ x →
  spOf T sem0 (.ref x :: vs) (upd (upd H dx (.own x)) x (.ins (T.cl c) dx [])) (fun v H2 => v = .non ∧ Q (.ref x) H2) E
/-- a def, a class that stands under a name -/
structure FnAt (X : Cx) (T : Kit) (k : Nat) (x : Str) (sem : List D → M D) : Prop where
  ex : (∃ f fd ps, X.mg x = some (.ref f) ∧ PySem.W.keepIn X.K (.ref f) = true ∧ FnOk X.prog X.w X.K X.mg X.base (L2.CX X.prog X.w) k f fd ps (spOf T sem) ∧ Binds X.K fd ps []) ∨
    (∃ c f fd ps sem0 j, X.mg x = some (.ref (T.cl c)) ∧ Mk X.K (T.cl c) f ∧ FnOk X.prog X.w X.K X.mg X.base (L2.CX X.prog X.w) j f fd ps (spOf T sem0) ∧ Binds X.K fd ps [] ∧ j + 1 ≤ k ∧ MadeBy T c sem0 sem)
theorem made_run {CX : CXT} {k : Nat} {f C : Addr} {fd : FuncData} {ps : List Str} {sp : Sp} {E : L2.St → XK} {pins : List (Addr × Obj)} {σ : L2.St} {H : Hp} {s : Shared} {Q : VK} {us : List Value} {vs : List V}
    (M : Mk X.K C f) (F : FnOk X.prog X.w X.K X.mg X.base CX k f fd ps sp) (hr : Room (k + 1) X.A) (hb : Binds X.K fd ps []) (hx : PassesAt CX X σ (E σ)) (I : Inv X pins σ H s) (r : Vals vs us)
    (h : ∀ x dx, H x = none → H dx = none → dx ≠ x → sp (.ref x :: vs) (upd (upd H dx (.own x)) x (.ins C dx [])) (fun v H2 => v = .non ∧ Q (.ref x) H2) (E σ)) :
    wpAny (model X.prog X.w) X.A (call (.ref C) us) (EP X pins σ Q) X.xe s := by
  have hq := h (s.heap.objs.size + 1) s.heap.objs.size (I.hok.fresh (Nat.le_succ _)) (I.hok.fresh (Nat.le_refl _)) (Nat.ne_of_lt (Nat.lt_succ_self _))
  have J := Inv.made (C := C) I
  have rv : Vals (V.ref (s.heap.objs.size + 1) :: vs) (Value.ref (s.heap.objs.size + 1) :: us) := .cons rfl r
  have hl : (Value.ref (s.heap.objs.size + 1) :: us).length = ps.length := by rw [← rv.length]; exact F.len _ _ _ _ hq
  have b := hb _ (Value.ref (s.heap.objs.size + 1) :: us) J.kIn (by rw [List.append_nil]; exact hl)
  rw [List.append_nil] at b
  have run := F.run _ X.stack _ _ ⟨Value.ref (s.heap.objs.size + 1) :: us, []⟩ (Value.ref (s.heap.objs.size + 1) :: us) _ _ (E σ) (hr.make C us []) (J.env0.make C us []) b rv hq
  refine wpAny_call (make_map (f := f) I.kIn M.makes M.init (beq_iff_eq.mp M.fn) (codeAny_mono run fun r s' hq' => ?_))
  cases r with
  | error e => exact hx pins _ _ e s' J hq'
  | ok fl =>
    cases fl with
    | ret u =>
      obtain ⟨v, H', I3, rv3, ev, q3⟩ := J.after hq'
      subst ev
      exact ⟨rv3, V.ref (s.heap.objs.size + 1), H', I3, rfl, q3⟩
    | next => exact False.elim hq'
    | brk => exact False.elim hq'
    | cont => exact False.elim hq'
theorem ve_call {k : Nat} {x : Str} {p : Pos} {e : Expr} {es : List Expr} {f : Envd → M (List D)} {sem : List D → M D} (F : FnAt X T k x sem) (hr : Room k X.A) (hg : Gl X x) (hx : ∀ σ, PassesAt (L2.CX X.prog X.w) X σ (WE W σ)) (ha : VA T X W (e :: es) f)
    (hd : (x == ("__debug__" : Str)) = false) (hs : noStar (e :: es) = true) : VE T X W (.Call (.Name x p) (e :: es) [] pos) (fun env => bnd (f env) sem) := by
  rcases F.ex with ⟨fa, fd, ps, hm, hk, F, hb⟩ | ⟨c, fa, fd, ps, sem0, j, hm, M, F, hb, hj, md⟩
  · refine (pe_callS F hr hg hm hk hb hx ha hd (star_cons hs) (star_any (noStar_tail hs))).imp fun σ H Q ⟨G, S, env, hE, hH, p⟩ => ?_
    refine ⟨G, S, env, hE, hH, (p.bnd (rel := Reps T)).mono fun G1 S1 ds xs H1 st1 hd1 r1 p1 => ?_⟩
    exact ⟨G1, S1, ds, hd1, r1, p1⟩
  · refine ⟨fun pins s σ H Q I ⟨G, S, env, hE, hH, p⟩ => ?_⟩
    refine wpAny_Call_Name_kw (ld_glob I hg hm ?_ hd)
    refine PySem.W.callWith_K (h₀ := X.base) I.ok.mod.kin M.kp (thn (ha.run pos pins s σ H (fun vs H1 => spOf T sem vs H1 Q (WE W σ)) I ⟨G, S, env, hE, hH, (p.bnd (rel := Reps T)).mono fun G1 S1 ds xs H1 st1 hd1 r1 p1 => ⟨G1, S1, ds, hd1, r1, p1⟩⟩)
      fun us s1 ⟨vs, H1, I1, r, q⟩ => ⟨I1.kIn, made_run M F (hr.mono hj) hb (hx σ) I1 r (md q)⟩) (star_cons hs) (star_any (noStar_tail hs))
/-- called with nothing -/
theorem ve_call0 {k : Nat} {x : Str} {p : Pos} {sem : List D → M D} (F : FnAt X T k x sem) (hr : Room k X.A) (hg : Gl X x) (hx : ∀ σ, PassesAt (L2.CX X.prog X.w) X σ (WE W σ))
    (hd : (x == ("__debug__" : Str)) = false) : VE T X W (.Call (.Name x p) [] [] pos) (fun env => bnd (sNil env) sem) := by
  refine ⟨fun pins s σ H Q I ⟨G, S, env, hE, hH, p⟩ => ?_⟩
  have sp : spOf T sem [] H Q (WE W σ) := ⟨G, S, [], hH, reps_nil, p⟩
  rcases F.ex with ⟨fa, fd, ps, hm, hk, F, hb⟩ | ⟨c, fa, fd, ps, sem0, j, hm, M, F, hb, hj, md⟩
  · refine wpAny_Call_Name_kw (ld_glob I hg hm ?_ hd)
    exact PySem.W.callWith_K0 I.kIn hk (run_fnS (us := []) F hr hb (hx σ) I .nil sp)
  · refine wpAny_Call_Name_kw (ld_glob I hg hm ?_ hd)
    exact PySem.W.callWith_K0 I.kIn M.kp (made_run (us := []) M F (hr.mono hj) hb (hx σ) I .nil (md sp))
end
end Ev

set_option Elab.async false
set_option linter.all false
set_option maxRecDepth 100000
set_option maxHeartbeats 4000000
/-! EvG: statements by data. -/
namespace Ev
open PySem PySem.Spec PyProof.Rows L2

/-- how a statement ends -/
inductive RS where
  | nx (env : Envd) (S : Store) | rt (d : D) (S : Store) | bk (env : Envd) (S : Store) | ct (env : Envd) (S : Store) | exc (c : Nat) (fs : List D) (env : Envd) (S : Store) | stuck
abbrev MS := Envd → Store → RS
def eB {α : Type} (r : R α) (env : Envd) (k : α → Store → RS) : RS := match r with
  | .ok a S => k a S
  | .exc c fs S => .exc c fs env S
  | .stuck => .stuck
def PS' (T : Kit) (G : Gh) (H : Hp) (W : WX) (D' : Ends) (r : RS) : Prop := match r with
  | .nx env S => ∀ G' H' σ', Step G H G' H' → Held T G' S H' → EnvRep T G' env σ' → D'.nx σ' H'
  | .rt d S => ∀ G' H' v, Step G H G' H' → Held T G' S H' → Rep T G' d v → D'.rt v H'
  | .bk env S => ∀ G' H' σ', Step G H G' H' → Held T G' S H' → EnvRep T G' env σ' → D'.bk σ' H'
  | .ct env S => ∀ G' H' σ', Step G H G' H' → Held T G' S H' → EnvRep T G' env σ' → D'.ct σ' H'
  | .exc c fs env S => ∀ G' H' σ' cls dx, Step G H G' H' → Held T G' S H' → EnvRep T G' env σ' → ExcRep T G' c fs cls dx → W cls dx σ' H'
  | .stuck => False
def tS (T : Kit) (W : WX) (f : MS) : TS := fun D' σ H => ∃ G S env, EnvRep T G env σ ∧ Held T G S H ∧ PS' T G H W D' (f env S)
abbrev VS (T : Kit) (X : Cx) (W : WX) (st : Stmt) (f : MS) : Prop := PS X st (tS T W f)
abbrev VSs (T : Kit) (X : Cx) (W : WX) (st : List Stmt) (f : MS) : Prop := PSs X st (tS T W f)
section
variable {T : Kit} {W : WX} {G G1 : Gh} {H H1 : Hp} {D' : Ends} {S : Store} {env : Envd} {σ : L2.St}
theorem PS'.later {r : RS} (st : Step G H G1 H1) (h : PS' T G H W D' r) : PS' T G1 H1 W D' r := by
  cases r with
  | nx env S => exact fun G' H' σ' s => h G' H' σ' (st.trans s)
  | rt d S => exact fun G' H' v s => h G' H' v (st.trans s)
  | bk env S => exact fun G' H' σ' s => h G' H' σ' (st.trans s)
  | ct env S => exact fun G' H' σ' s => h G' H' σ' (st.trans s)
  | exc c fs env S => exact fun G' H' σ' cls dx s => h G' H' σ' cls dx (st.trans s)
  | stuck => exact h
/-- an expression's end, then more -/
theorem PS'.eB {α β : Type} {rel : Gh → α → β → Prop} {r : R α} {k : α → Store → RS} (hE : EnvRep T G env σ) (h : PS' T G H W D' (eB r env k)) : Pst T rel G H (at_ W σ) r fun G' S' a b H' => PS' T G' H' W D' (k a S') := by
  cases r with
  | ok a S' => exact fun G' H' b s hd rr => h.later s
  | exc c fs S' => exact fun G' H' cls dx s hd x => h G' H' σ cls dx s hd (hE.le s.le) x
  | stuck => exact h
theorem PS'.nxt {env : Envd} {S : Store} (h : PS' T G H W D' (.nx env S)) (hH : Held T G S H) (hE : EnvRep T G env σ) : D'.nx σ H := h G H σ .refl hH hE
end

def sPass : MS := fun env S => .nx env S
def sBreak : MS := fun env S => .bk env S
def sCont : MS := fun env S => .ct env S
def sSeq (f g : MS) : MS := fun env S => match f env S with
  | .nx env' S' => g env' S'
  | r => r
def sExpr (f : Envd → M D) : MS := fun env S => eB (f env S) env fun _ S' => .nx env S'
def sRet (f : Envd → M D) : MS := fun env S => eB (f env S) env fun d S' => .rt d S'
def sRetN : MS := fun _ S => .rt .non S
def sIfS (c : Envd → M Bool) (f g : MS) : MS := fun env S => eB (c env S) env fun b S' => if b = true then f env S' else g env S'
def sAsg (t : Tg) (f : Envd → M D) : MS := fun env S => eB (f env S) env fun d S' => eB (t.bind d env S') env fun env' S'' => .nx env' S''
def sTup (is : List Nat) (f : Envd → M (List D)) : MS := fun env S => eB (f env S) env fun ds S' => if ds.length = is.length then .nx (setAll is ds env) S' else .stuck
section
variable {T : Kit} {X : Cx} {W : WX} {pos : Pos} {a b : Expr} {fa fb : Envd → M D}
theorem vs_pass : VS T X W (.Pass pos) sPass := ps_pass.imp fun D' σ H ⟨G, S, env, hE, hH, p⟩ => p.nxt hH hE
theorem vs_break : VS T X W (.Break pos) sBreak := ps_break.imp fun D' σ H ⟨G, S, env, hE, hH, p⟩ => p G H σ .refl hH hE
theorem vs_cont : VS T X W (.Continue pos) sCont := ps_continue.imp fun D' σ H ⟨G, S, env, hE, hH, p⟩ => p G H σ .refl hH hE
theorem vss_nil : VSs T X W [] sPass := pss_nil.imp fun D' σ H ⟨G, S, env, hE, hH, p⟩ => p.nxt hH hE
/-- a statement's reading, then what follows it -/
theorem tS_seq {f g : MS} (D' : Ends) (σ : L2.St) (H : Hp) (h : tS T W (sSeq f g) D' σ H) : tSeq (tS T W f) (tS T W g) D' σ H := by
  obtain ⟨G, S, env, hE, hH, p⟩ := h
  refine ⟨G, S, env, hE, hH, ?_⟩
  unfold sSeq at p
  cases e : f env S with
  | nx env' S' =>
    rw [e] at p
    exact fun G' H' σ' s hd hE' => ⟨G', S', env', hE', hd, p.later s⟩
  | rt d S' => rw [e] at p; exact p
  | bk env' S' => rw [e] at p; exact p
  | ct env' S' => rw [e] at p; exact p
  | exc c fs env' S' => rw [e] at p; exact p
  | stuck => rw [e] at p; exact p
theorem vss_cons {st : Stmt} {rest : List Stmt} {f g : MS} (h1 : VS T X W st f) (h2 : VSs T X W rest g) : VSs T X W (st :: rest) (sSeq f g) := (pss_cons h1 h2).imp tS_seq
theorem vss_one {st : Stmt} {f : MS} (h1 : VS T X W st f) : VSs T X W [st] f := pss_one h1
theorem vs_expr (ha : VE T X W a fa) (hs : swapsWith a none pos.line X.env = pure false) : VS T X W (.Expr a pos) (sExpr fa) := by
  refine (ps_expr ha hs).imp fun D' σ H ⟨G, S, env, hE, hH, p⟩ => ?_
  exact ⟨G, S, env, hE, hH, (p.eB hE (rel := Rep T)).mono fun G1 S1 d v H1 st1 hd1 r1 p1 => p1.nxt hd1 (hE.le st1.le)⟩
theorem vs_ret (ha : VE T X W a fa) : VS T X W (.Return (some a) pos) (sRet fa) := by
  refine (ps_ret ha).imp fun D' σ H ⟨G, S, env, hE, hH, p⟩ => ?_
  exact ⟨G, S, env, hE, hH, (p.eB hE (rel := Rep T)).mono fun G1 S1 d v H1 st1 hd1 r1 p1 => p1 G1 H1 v .refl hd1 r1⟩
theorem vs_retN : VS T X W (.Return none pos) sRetN := by
  refine ps_retN.imp fun D' σ H ⟨G, S, env, hE, hH, p⟩ => ?_
  exact p G H .non .refl hH (by simp only [Rep])
theorem vs_if {c : Expr} {fc : Envd → M Bool} {p q : List Stmt} {f g : MS} (hc : VT T X W c fc) (hp : VSs T X W p f) (hq : VSs T X W q g) : VS T X W (.If c p q pos) (sIfS fc f g) := by
  refine (ps_if hc hp hq).imp fun D' σ H ⟨G, S, env, hE, hH, p⟩ => ?_
  refine ⟨G, S, env, hE, hH, (p.eB hE (rel := fun _ (a b : Bool) => b = a)).mono fun G1 S1 k k' H1 st1 hd1 r1 p1 => ?_⟩
  subst r1
  split
  · rename_i hk
    rw [if_pos hk] at p1
    exact ⟨G1, S1, env, hE.le st1.le, hd1, p1⟩
  · rename_i hk
    rw [if_neg hk] at p1
    exact ⟨G1, S1, env, hE.le st1.le, hd1, p1⟩
/-- from a value to a target -/
theorem gT_of {t : Tg} {G : Gh} {S : Store} {H : Hp} {d : D} {v : V} {env : Envd} {σ : L2.St} {D' : Ends} (hE : EnvRep T G env σ) (hH : Held T G S H) (r : Rep T G d v) (p : PS' T G H W D' (eB (t.bind d env S) env fun env' S' => .nx env' S')) : gT T t v σ H D'.nx := by
  refine ⟨G, S, d, env, hE, hH, r, ?_⟩
  cases e : t.bind d env S with
  | ok env' S' =>
    have es := bind_store e
    subst es
    rw [e] at p
    exact ⟨env', rfl, fun σ' hE' _ => p G H σ' .refl hH hE'⟩
  | exc c fs S' =>
    exfalso
    cases t with
    | nm i => simp only [Tg.bind, ret] at e; cases e
    | tp is =>
      simp only [Tg.bind, bnd] at e
      cases h : unp is.length d S with
      | ok xs S1 => rw [h] at e; cases e
      | exc c fs S1 =>
        unfold unp at h
        split at h
        · split at h <;> cases h
        · split at h
          · split at h <;> cases h
          · cases h
      | stuck => rw [h] at e; cases e
  | stuck => rw [e] at p; exact p.elim
theorem vs_asg {tg : Expr} {t : Tg} (ha : VE T X W a fa) (hg : VG T X tg t) (hs : swapsWithSole [tg] a pos.line X.env = pure false) (hw : swappedStores [tg] a X.env = pure none) (h1 : (assignEach [tg] X.env).map (·.2) = [assign tg X.env]) :
    VS T X W (.Assign [tg] a pos) (sAsg t fa) := by
  refine (ps_asg ha hg hs hw h1).imp fun D' σ H ⟨G, S, env, hE, hH, p⟩ => ?_
  exact ⟨G, S, env, hE, hH, (p.eB hE (rel := Rep T)).mono fun G1 S1 d v H1 st1 hd1 r1 p1 => gT_of (hE.le st1.le) hd1 r1 p1⟩
theorem vs_asgLc {i : Nat} {y : Str} {py spos : Pos} {mu : Bool} {elt iter tg : Expr} {ifs : List Expr} {scope : Scope} {own : List (Str × Nat)} {it : Envd → M (List D)} {t : Tg} {test : Envd → M Bool} {fe : Envd → M D} (hc : X.calm = true) (hN : X.N.Nodup)
    (hy : X.N[i]? = some y) (hyl : X.env.scope.names.lookup y = some .local) (hsw : swapsWith (.ListComp elt [⟨tg, iter, ifs, 0⟩] scope pos) (some (.Name y py)) spos.line X.env = pure true)
    (hi : VI T X W tg iter it) (ok : BlkOk X.N X.env.scope scope own)
    (hg : ∀ (s : Shared) (H : Hp) (C : Addr) (cl : List (Str × Addr)) (fp : List Addr), VG T (X.blk s H scope (compEnvC scope cl C X.env) fp) tg t) (ht : ∀ (s : Shared) (H : Hp) (C : Addr) (cl : List (Str × Addr)) (fp : List Addr), VTs T (X.blk s H scope (compEnvC scope cl C X.env) fp) WF ifs test)
    (he : ∀ (s : Shared) (H : Hp) (C : Addr) (cl : List (Str × Addr)) (fp : List Addr), VE T (X.blk s H scope (compEnvC scope cl C X.env) fp) WF elt fe) (hs : ∀ x, foldedSetIterable iter X.env x = pure x) (ho : ∀ i ∈ t.slots, i ∈ own.map (·.2)) :
    VS T X W (.Assign [.Name y py] (.ListComp elt [⟨tg, iter, ifs, 0⟩] scope pos) spos) (sAsg (.nm i) (sComp mu it t (own.map (·.2)) test fe)) := by
  refine (ps_setLc hc hN hy hyl hsw hi ok hg ht he hs).imp fun D' σ H ⟨G, S, env, hE, hH, p⟩ => ?_
  refine tLc_of ho σ H _ ⟨G, S, env, hE, hH, (p.eB hE (rel := Rep T)).mono fun G1 S1 d v H1 st1 hd1 r1 p1 => ?_⟩
  exact p1.nxt hd1 ((hE.le st1.le).set i r1)
/-! two or three names from as many expressions -/
theorem vs_par2 {i j : Nat} {x y : Str} {f : Envd → M (List D)} {px py pt : Pos} {kt k2 pt2} (hc : X.calm = true) (hN : X.N.Nodup) (hi : X.N[i]? = some x) (hj : X.N[j]? = some y) (hij : i ≠ j)
    (hx : X.env.scope.names.lookup x = some .local) (hy : X.env.scope.names.lookup y = some .local) (ha : VA T X W [a, b] f)
    (hw : swappedStores [.Tuple [.Name x px, .Name y py] kt pt] (.Tuple [a, b] k2 pt2) X.env = pure (some [x, y])) : VS T X W (.Assign [.Tuple [.Name x px, .Name y py] kt pt] (.Tuple [a, b] k2 pt2) pos) (sTup [i, j] f) := by
  refine (ps_par hc hN hi hj hij hx hy ha hw rfl).imp fun D' σ H ⟨G, S, env, hE, hH, p⟩ => ?_
  refine ⟨G, S, env, hE, hH, (p.eB hE (rel := Reps T)).mono fun G1 S1 ds vs H1 st1 hd1 r1 p1 => ?_⟩
  split at p1
  · rename_i hl
    have hv : vs.length = 2 := by rw [← r1.len]; exact hl
    match vs, hv with
    | [v, w], _ => exact ⟨v, w, rfl, p1 G1 H1 _ .refl hd1 (setAll_rep (is := [i, j]) (hE.le st1.le) r1)⟩
  · exact p1.elim
theorem vs_par3 {i j l : Nat} {x y z : Str} {c : Expr} {f : Envd → M (List D)} {px py pz pt : Pos} {kt k2 pt2} (hc : X.calm = true) (hN : X.N.Nodup) (hi : X.N[i]? = some x) (hj : X.N[j]? = some y) (hl : X.N[l]? = some z) (hij : i ≠ j) (hil : i ≠ l) (hjl : j ≠ l)
    (hx : X.env.scope.names.lookup x = some .local) (hy : X.env.scope.names.lookup y = some .local) (hz : X.env.scope.names.lookup z = some .local) (ha : VA T X W [a, b, c] f)
    (hw : swappedStores [.Tuple [.Name x px, .Name y py, .Name z pz] kt pt] (.Tuple [a, b, c] k2 pt2) X.env = pure (some [x, y, z])) :
    VS T X W (.Assign [.Tuple [.Name x px, .Name y py, .Name z pz] kt pt] (.Tuple [a, b, c] k2 pt2) pos) (sTup [i, j, l] f) := by
  refine (ps_par3 hc hN hi hj hl hij hil hjl hx hy hz ha hw rfl).imp fun D' σ H ⟨G, S, env, hE, hH, p⟩ => ?_
  refine ⟨G, S, env, hE, hH, (p.eB hE (rel := Reps T)).mono fun G1 S1 ds vs H1 st1 hd1 r1 p1 => ?_⟩
  split at p1
  · rename_i hl
    have hv : vs.length = 3 := by rw [← r1.len]; exact hl
    match vs, hv with
    | [u, v, w], _ => exact ⟨u, v, w, rfl, p1 G1 H1 _ .refl hd1 (setAll_rep (is := [i, j, l]) (hE.le st1.le) r1)⟩
  · exact p1.elim
/-- any number of names, by a tuple -/
theorem vs_tup {es vs : List Expr} {is : List Nat} {f : Envd → M (List D)} {kt k2 : Nat} {pt pt2 : Pos} (hK : X.K = T.K) (hc : X.calm = true) (hN : X.N.Nodup) (hn : NamesAt X es is) (ha : VA T X W vs f)
    (hw : swappedStores [.Tuple es kt pt] (.Tuple vs k2 pt2) X.env = pure none) (hsz : is.length ≤ sizeLine) : VS T X W (.Assign [.Tuple es kt pt] (.Tuple vs k2 pt2) pos) (sTup is f) := by
  refine (vs_asg (ve_tup ha) (vg_tup hK hc hN hn) rfl hw rfl).imp fun D' σ H ⟨G, S, env, hE, hH, p⟩ => ⟨G, S, env, hE, hH, ?_⟩
  unfold sTup at p
  unfold sAsg
  cases e : f env S with
  | ok ds S1 =>
    rw [e] at p
    simp only [eB] at p
    split at p
    · rename_i hl
      simp only [bnd, e, if_pos (show ds.length ≤ sizeLine by omega), ret, eB, Tg.bind, unp, if_pos hl]
      exact p
    · exact p.elim
  | exc c fs S1 =>
    rw [e] at p
    simp only [bnd, e, eB]
    exact p
  | stuck =>
    rw [e] at p
    exact p.elim

/-! ### loops -/
def forL (t : Tg) (kill : List Nat) (body : MS) : List D → MS
  | [], env, S => .nx (wipeD env kill) S
  | d :: ds, env, S => eB (t.bind d (wipeD env kill) S) env fun env1 S1 => match body env1 S1 with
    | .nx env2 S2 => forL t kill body ds env2 S2
    | .ct env2 S2 => forL t kill body ds env2 S2
    | .bk env2 S2 => .nx (wipeD env2 kill) S2
    | r => r
def sFor (t : Tg) (kill : List Nat) (it : Envd → M (List D)) (body : MS) : MS := fun env S => eB (it env S) env fun items S1 => forL t kill body items env S1
theorem kill_rep {G : Gh} {env : Envd} {σ : L2.St} (h : EnvRep T G env σ) : ∀ vs : List Nat, EnvRep T G (wipeD env vs) σ
  | [] => h
  | v :: vs => (kill_rep h vs).kill v
theorem vs_for {tg iter : Expr} {body : List Stmt} {it : Envd → M (List D)} {t : Tg} {kill : List Nat} {fb : MS} (hp : PassesOwn (model X.prog X.w) X.A X.env X.xe) (hc : X.calm = true) (hi : VI T X W tg iter it) (hg : VG T X tg t) (hb : VSs T X W body fb)
    (hs : ∀ x, foldedSetIterable iter X.env x = pure x) : VS T X W (.For tg iter body [] pos) (sFor t kill it fb) := by
  refine (ps_for hp hc hi hg hb hs).imp fun D' σ H ⟨G, S, env, hE, hH, p⟩ => ?_
  refine ⟨G, S, env, hE, hH, (p.eB hE (rel := relI T)).mono fun G0 S0 items J H0 st0 hd0 hJ p0 => ?_⟩
  refine ⟨fun i m σ H => m = items.length - i ∧ i ≤ items.length ∧ ∃ G S env, Le G0 G ∧ EnvRep T G env σ ∧ Held T G S H ∧ PS' T G H W D' (forL t kill fb (items.drop i) env S), ⟨items.length, rfl, Nat.zero_le _, G0, S0, env, .refl, hE.le st0.le, hd0, p0⟩, ?_⟩
  rintro i m σ H ⟨rfl, hi, G, S, env, lg, hE, hH, p⟩
  obtain ⟨jg, js, jy⟩ := hJ i G S H lg hH
  by_cases hlt : i < items.length
  · refine .inr ⟨jg hlt, _, fun σ' H' q => ⟨items.length - (i + 1), by omega, rfl, hlt, q⟩, fun x H' hy => ?_⟩
    obtain ⟨d, G1, e, st1, hh1, rd⟩ := jy x H' hlt hy
    have hd : items.drop i = d :: items.drop (i + 1) := by
      rw [List.drop_eq_getElem_cons hlt]
      rw [List.getElem?_eq_getElem hlt] at e
      cases e; rfl
    rw [hd] at p
    unfold forL at p
    have hE1 := kill_rep (hE.le st1.le) kill
    refine ⟨G1, S, d, wipeD env kill, hE1, hh1, rd, ?_⟩
    cases e1 : t.bind d (wipeD env kill) S with
    | stuck => rw [e1] at p; exact p.elim
    | exc c fs S1 =>
      exfalso
      cases t with
      | nm i => simp only [Tg.bind, ret] at e1; cases e1
      | tp is =>
        simp only [Tg.bind, bnd] at e1
        cases h : unp is.length d S with
        | ok xs S1 => rw [h] at e1; cases e1
        | exc c fs S1 =>
          unfold unp at h
          split at h
          · split at h <;> cases h
          · split at h
            · split at h <;> cases h
            · cases h
        | stuck => rw [h] at e1; cases e1
    | ok env1 S1 =>
      have es := bind_store e1
      subst es
      rw [e1] at p
      simp only [eB] at p
      refine ⟨env1, rfl, fun σ' hE' _ => ⟨G1, S1, env1, hE', hh1, ?_⟩⟩
      cases e2 : fb env1 S1 with
      | nx env2 S2 =>
        rw [e2] at p
        exact fun G2 H2 σ2 st2 hh2 hE2 => ⟨G2, S2, env2, (lg.trans st1.le).trans st2.le, hE2, hh2, p.later (st1.trans st2)⟩
      | ct env2 S2 =>
        rw [e2] at p
        exact fun G2 H2 σ2 st2 hh2 hE2 => ⟨G2, S2, env2, (lg.trans st1.le).trans st2.le, hE2, hh2, p.later (st1.trans st2)⟩
      | bk env2 S2 =>
        rw [e2] at p
        exact fun G2 H2 σ2 st2 hh2 hE2 => p G2 H2 σ2 (st1.trans st2) hh2 (kill_rep hE2 kill)
      | rt d S2 =>
        rw [e2] at p
        exact fun G2 H2 v st2 hh2 rv => p G2 H2 v (st1.trans st2) hh2 rv
      | exc c fs env2 S2 =>
        rw [e2] at p
        exact fun G2 H2 σ2 cls dx st2 hh2 hE2 x => p G2 H2 σ2 cls dx (st1.trans st2) hh2 hE2 x
      | stuck => rw [e2] at p; exact p.elim
  · have hi' : i = items.length := by omega
    refine .inl ⟨js (by omega), ?_⟩
    rw [hi', List.drop_length] at p
    exact p G H σ .refl hH (kill_rep hE kill)
def whileL (kill : List Nat) (c : Envd → M Bool) (body : MS) : Nat → MS
  | 0, _, _ => .stuck
  | n + 1, env, S => eB (c (wipeD env kill) S) env fun b S1 => if b = true then match body (wipeD env kill) S1 with
      | .nx env2 S2 => whileL kill c body n env2 S2
      | .ct env2 S2 => whileL kill c body n env2 S2
      | .bk env2 S2 => .nx (wipeD env2 kill) S2
      | r => r
    else .nx (wipeD env kill) S1
theorem vs_while {c : Expr} {body : List Stmt} {kill : List Nat} {n : Nat} {fc : Envd → M Bool} {fb : MS} (hp : PassesOwn (model X.prog X.w) X.A X.env X.xe) (hc : VT T X W c fc) (hb : VSs T X W body fb) : VS T X W (.While c body [] pos) (whileL kill fc fb n) := by
  refine (ps_while hp hc hb).imp fun D' σ H ⟨G, S, env, hE, hH, p⟩ => ?_
  refine ⟨fun m σ H => ∃ G S env, EnvRep T G env σ ∧ Held T G S H ∧ PS' T G H W D' (whileL kill fc fb m env S), ⟨n, G, S, env, hE, hH, p⟩, ?_⟩
  rintro m σ H ⟨G, S, env, hE, hH, p⟩
  cases m with
  | zero => exact p.elim
  | succ m =>
    unfold whileL at p
    have hE1 := kill_rep hE kill
    refine ⟨G, S, wipeD env kill, hE1, hH, (p.eB hE (rel := fun _ (a b : Bool) => b = a)).mono fun G1 S1 k k' H1 st1 hd1 r1 p1 => ?_⟩
    subst r1
    split
    · rename_i hk
      rw [if_pos hk] at p1
      refine ⟨_, fun σ' H' q => ⟨m, Nat.lt_succ_self _, q⟩, G1, S1, wipeD env kill, hE1.le st1.le, hd1, ?_⟩
      cases e2 : fb (wipeD env kill) S1 with
      | nx env2 S2 =>
        rw [e2] at p1
        exact fun G2 H2 σ2 st2 hh2 hE2 => ⟨G2, S2, env2, hE2, hh2, p1.later st2⟩
      | ct env2 S2 =>
        rw [e2] at p1
        exact fun G2 H2 σ2 st2 hh2 hE2 => ⟨G2, S2, env2, hE2, hh2, p1.later st2⟩
      | bk env2 S2 =>
        rw [e2] at p1
        exact fun G2 H2 σ2 st2 hh2 hE2 => p1 G2 H2 σ2 st2 hh2 (kill_rep hE2 kill)
      | rt d S2 =>
        rw [e2] at p1
        exact p1
      | exc c fs env2 S2 =>
        rw [e2] at p1
        exact p1
      | stuck => rw [e2] at p1; exact p1.elim
    · rename_i hk
      rw [if_neg hk] at p1
      exact p1 G1 H1 σ .refl hd1 (hE1.le st1.le)
end
end Ev

set_option Elab.async false
set_option linter.all false
set_option maxRecDepth 100000
set_option maxHeartbeats 4000000
/-! EvH: methods of lists, texts, ints; stores to a list's places. -/
namespace Ev
open PySem PySem.Spec PyProof.Rows L2

section
variable {T : Kit} {G : Gh} {S : Store} {H : Hp}
/-- a list that may change -/
theorem cell_lst {k : Nat} {x : V} {xs : List D} (hH : Held T G S H) (r : Rep T G (.ref k) x) (e : S[k]? = some (.lst xs)) : ∃ a vs, x = .ref a ∧ G.m[k]? = some a ∧ G.H a = none ∧ H a = some (.lst vs) ∧ Reps T G xs vs := by
  simp only [Rep] at r
  obtain ⟨a, rfl, q⟩ := r
  have c := hH.cell k _ a e q
  simp only [CellRep] at c
  obtain ⟨c0, vs, c1, c2⟩ := c
  exact ⟨a, vs, rfl, q, c0, c1, c2⟩
theorem put_lst {W : XK} {k : Nat} {a : Addr} {xs ys : List D} {vs : List V} {d : D} {v : V} {Q : VK} (hH : Held T G S H) (e : S[k]? = some (.lst xs)) (hm : G.m[k]? = some a) (h0 : G.H a = none) (r : Reps T G ys vs) (rd : Rep T G d v)
    (p : PV T G H W (.ok d (S.set k (.lst ys))) Q) : Q v (upd H a (.lst vs)) := by
  obtain ⟨h1, h2⟩ := hH.write (o := .lst vs) (c' := .lst ys) e hm h0 (by simp only [CellRep]; exact ⟨h0, vs, upd_same, r⟩)
  exact p G _ v h2 h1 rd
end
def chkL (d : D) : M Unit := fun S => match seqL S d with
  | some _ => .ok () S
  | none => .stuck
def chkS (d : D) : M Unit := fun S => match d with
  | .str _ => .ok () S
  | _ => .stuck
def sBM (chk : D → M Unit) (fo : Envd → M D) (fa : Envd → M (List D)) (g : D → List D → M D) : Envd → M D := fun env => bnd (fo env) fun d => bnd (chk d) fun _ => bnd (fa env) fun ds => g d ds
section
variable {T : Kit} {X : Cx} {W : WX} {pos apos : Pos} {o e a b : Expr} {es : List Expr} {fo fa' fb : Envd → M D} {fa : Envd → M (List D)}
abbrev MtOk (T : Kit) (g : D → List D → M D) (r : V → List V → Hp → VK → Prop) : Prop := ∀ (W : XK) (G : Gh) (S : Store) (H : Hp) (d : D) (x : V) (ds : List D) (xs : List V) (Q : VK), Held T G S H → Rep T G d x → Reps T G ds xs → PV T G H W (g d ds S) Q → r x xs H Q
/-- the receiver of a method's call is no super() -/
def plainO : Expr → Bool
  | .Call (.Name _ _) [] [] _ => false
  | _ => true
theorem base_of {m : Str} (h : plainO o = true) : attributeBase o m X.env (eval o X.env) = eval o X.env := by
  unfold attributeBase
  split
  · simp only [plainO] at h; cases h
  · rfl
theorem star_all {es : List Expr} {env : Env} (h : noStar es = true) : (backTo pos (starEach es env)).all (fun x => !x.1) = true := by
  induction es with
  | nil => rfl
  | cons e es ih =>
    rw [star_cons h]
    have := ih (noStar_tail h)
    unfold backTo at this ⊢
    rw [List.map_cons, List.all_cons, this]; rfl
theorem few_of {es : List Expr} (h : noStar es = true) (hl : es.length < 20) : ((backTo pos (starEach es X.env)).all (fun x => !x.1) && (backToKw pos (keywordEach [] X.env)).all (fun x => x.1.isSome)
      && decide (es.length + ([] : List Keyword).length + (if ([] : List Keyword).isEmpty then 0 else 1) < 30)) = true := by
  rw [star_all h]
  simp only [Bool.true_and, Bool.and_eq_true, decide_eq_true_eq]
  refine ⟨rfl, ?_⟩
  simp
  omega
theorem ve_bm {T0 : String} {name : Str} {id : String} {chk : D → M Unit} {g : D → List D → M D} {r : V → List V → Hp → VK → Prop} (pa : PlainAttrs T0) (slot : Slot T0 name id) (hty : typeOf (.builtin id) = pure (.type "method_descriptor")) (hm : MtR X id r)
    (hc : ∀ (W : XK) (G : Gh) (S : Store) (H : Hp) (d : D) (x : V) {α β : Type} (rel : Gh → α → β → Prop) (k : Unit → M α) (Q : Gh → Store → α → β → Hp → Prop), Held T G S H → Rep T G d x → Pst T rel G H W (bnd (chk d) k S) Q → tyV X.K T0 x H ∧ Pst T rel G H W (k () S) Q)
    (hr : MtOk T g r) (ho : VE T X W o fo) (ha : VA T X W (e :: es) fa) (hb : plainO o = true) (hs : noStar (e :: es) = true) (hl : (e :: es).length < 20) (hline : (apos.endLine == pos.line) = true) :
    VE T X W (.Call (.Attribute o name apos) (e :: es) [] pos) (sBM chk fo fa g) := by
  refine (pe_bm pa slot hty hm ho ha (base_of hb) (few_of hs hl) hline (star_cons hs) (star_any (noStar_tail hs))).imp fun σ H Q ⟨G, S, env, hE, hH, p⟩ => ?_
  refine ⟨G, S, env, hE, hH, (p.bnd (rel := Rep T)).mono fun G1 S1 d x H1 st1 hd1 r1 p1 => ?_⟩
  obtain ⟨h1, p2⟩ := hc _ _ _ _ _ _ _ _ _ hd1 r1 p1
  refine ⟨h1, G1, S1, env, hE.le st1.le, hd1, (p2.bnd (rel := Reps T)).mono fun G2 S2 ds xs H2 st2 hd2 r2 p3 => ?_⟩
  exact hr _ _ _ _ _ _ _ _ _ hd2 (r1.le st2.le) r2 p3
theorem ve_bm0 {T0 : String} {name : Str} {id : String} {chk : D → M Unit} {g : D → List D → M D} {r : V → List V → Hp → VK → Prop} (pa : PlainAttrs T0) (slot : Slot T0 name id) (hty : typeOf (.builtin id) = pure (.type "method_descriptor")) (hm : MtR X id r)
    (hc : ∀ (W : XK) (G : Gh) (S : Store) (H : Hp) (d : D) (x : V) {α β : Type} (rel : Gh → α → β → Prop) (k : Unit → M α) (Q : Gh → Store → α → β → Hp → Prop), Held T G S H → Rep T G d x → Pst T rel G H W (bnd (chk d) k S) Q → tyV X.K T0 x H ∧ Pst T rel G H W (k () S) Q)
    (hr : MtOk T g r) (ho : VE T X W o fo) (hb : plainO o = true) (hline : (apos.endLine == pos.line) = true) :
    VE T X W (.Call (.Attribute o name apos) [] [] pos) (sBM chk fo sNil g) := by
  refine (pe_bm0 pa slot hty hm ho (base_of hb) hline).imp fun σ H Q ⟨G, S, env, hE, hH, p⟩ => ?_
  refine ⟨G, S, env, hE, hH, (p.bnd (rel := Rep T)).mono fun G1 S1 d x H1 st1 hd1 r1 p1 => ?_⟩
  obtain ⟨h1, p2⟩ := hc _ _ _ _ _ _ _ _ _ hd1 r1 p1
  refine ⟨h1, ?_⟩
  exact hr _ _ _ _ _ _ _ _ _ hd1 r1 reps_nil p2
theorem chkL_ok (hK : X.K = T.K) (W : XK) (G : Gh) (S : Store) (H : Hp) (d : D) (x : V) {α β : Type} (rel : Gh → α → β → Prop) (k : Unit → M α) (Q : Gh → Store → α → β → Hp → Prop) (hH : Held T G S H) (r : Rep T G d x) (p : Pst T rel G H W (bnd (chkL d) k S) Q) :
    tyV X.K "list" x H ∧ Pst T rel G H W (k () S) Q := by
  unfold bnd chkL at p
  cases e : seqL S d with
  | none => simp only [e] at p; exact p.elim
  | some xs =>
    simp only [e] at p
    obtain ⟨a, vs, rfl, q, _⟩ := seqL_ok hH r e
    exact ⟨.inl ⟨rfl, vs, SqL.of q⟩, p⟩
theorem chkS_ok (W : XK) (G : Gh) (S : Store) (H : Hp) (d : D) (x : V) {α β : Type} (rel : Gh → α → β → Prop) (k : Unit → M α) (Q : Gh → Store → α → β → Hp → Prop) (hH : Held T G S H) (r : Rep T G d x) (p : Pst T rel G H W (bnd (chkS d) k S) Q) :
    tyV X.K "str" x H ∧ Pst T rel G H W (k () S) Q := by
  unfold bnd chkS at p
  cases d <;> simp only at p <;> try exact p.elim
  simp only [Rep] at r
  subst r
  exact ⟨rfl, p⟩

/-! append, extend, insert, pop, index -/
def dAppend (d : D) (ds : List D) : M D := fun S => match d, ds with
  | .ref k, [e] => match S[k]? with
    | some (.lst xs) => if xs.length < sizeLine then .ok .non (S.set k (.lst (xs ++ [e]))) else .stuck
    | _ => .stuck
  | _, _ => .stuck
theorem mtOk_append : MtOk T dAppend rAppend := fun W G S H d x ds xs Q hH r1 r2 p => by
  unfold dAppend at p
  split at p
  · split at p
    · rename_i zs h
      split at p
      · rename_i hz
        obtain ⟨y, rfl, r3⟩ := reps1 r2
        obtain ⟨a, vs, rfl, q1, q2, q3, q4⟩ := cell_lst hH r1 h
        exact ⟨a, vs, y, rfl, rfl, q3, by rw [← q4.len]; exact hz, put_lst hH h q1 q2 (reps_snoc q4 r3) (by simp only [Rep]) p⟩
      · exact p.elim
    · exact p.elim
  · exact p.elim
def dExtend (d : D) (ds : List D) : M D := fun S => match d, ds with
  | .ref k, [e] => match S[k]?, seqL S e with
    | some (.lst xs), some ys => if xs.length + ys.length ≤ sizeLine then .ok .non (S.set k (.lst (xs ++ ys))) else .stuck
    | _, _ => .stuck
  | _, _ => .stuck
theorem mtOk_extend : MtOk T dExtend rExtend := fun W G S H d x ds xs Q hH r1 r2 p => by
  unfold dExtend at p
  split at p
  · split at p
    · rename_i zs ys h h2
      split at p
      · rename_i hz
        obtain ⟨y, rfl, r3⟩ := reps1 r2
        obtain ⟨a, vs, rfl, q1, q2, q3, q4⟩ := cell_lst hH r1 h
        obtain ⟨b, ws, rfl, k1, k2⟩ := seqL_ok hH r3 h2
        exact ⟨a, b, vs, ws, rfl, rfl, q3, k1, by rw [← q4.len, ← k2.len]; exact hz, put_lst hH h q1 q2 (reps_app q4 k2) (by simp only [Rep]) p⟩
      · exact p.elim
    · exact p.elim
  · exact p.elim
def dInsert (d : D) (ds : List D) : M D := fun S => match d, ds with
  | .ref k, [.int i, e] => match S[k]? with
    | some (.lst xs) => if xs.length < sizeLine ∧ 0 ≤ i ∧ i < 2 ^ 63 then .ok .non (S.set k (.lst (xs.take i.toNat ++ [e] ++ xs.drop i.toNat))) else .stuck
    | _ => .stuck
  | _, _ => .stuck
def rInsert : V → List V → Hp → VK → Prop := fun x vs H Q => ∃ (l : Addr) (xs : List V) (i : Int) (y : V), x = .ref l ∧ vs = [.int i, y] ∧ H l = some (.lst xs) ∧ xs.length < sizeLine ∧ 0 ≤ i ∧ i < 2 ^ 63 ∧ Q .non (upd H l (.lst (xs.take i.toNat ++ [y] ++ xs.drop i.toNat)))
theorem mtOk_insert : MtOk T dInsert rInsert := fun W G S H d x ds xs Q hH r1 r2 p => by
  unfold dInsert at p
  split at p
  · split at p
    · rename_i zs h
      split at p
      · rename_i hz
        obtain ⟨y, z, rfl, r3, r4⟩ := reps2 r2
        simp only [Rep] at r3
        subst r3
        obtain ⟨a, vs, rfl, q1, q2, q3, q4⟩ := cell_lst hH r1 h
        exact ⟨a, vs, _, z, rfl, rfl, q3, by rw [← q4.len]; exact hz.1, hz.2.1, hz.2.2, put_lst hH h q1 q2 (reps_app (reps_snoc (reps_take _ q4) r4) (reps_drop _ q4)) (by simp only [Rep]) p⟩
      · exact p.elim
    · exact p.elim
  · exact p.elim
def dPop (d : D) (ds : List D) : M D := fun S => match d, ds with
  | .ref k, [] => match S[k]? with
    | some (.lst xs) => match xs[xs.length - 1]? with
      | some y => .ok y (S.set k (.lst xs.dropLast))
      | none => .stuck
    | _ => .stuck
  | _, _ => .stuck
theorem reps_dropLast {G : Gh} {ds : List D} {vs : List V} (h : Reps T G ds vs) : Reps T G ds.dropLast vs.dropLast := by
  rw [List.dropLast_eq_take, List.dropLast_eq_take, h.len]
  exact reps_take _ h
theorem mtOk_pop : MtOk T dPop rPop := fun W G S H d x ds xs Q hH r1 r2 p => by
  unfold dPop at p
  split at p
  · split at p
    · rename_i zs h
      split at p
      · rename_i y hy
        simp only [Reps] at r2
        subst r2
        obtain ⟨a, vs, rfl, q1, q2, q3, q4⟩ := cell_lst hH r1 h
        obtain ⟨v, hv, rv⟩ := reps_get q4 hy
        rw [q4.len] at hv
        exact ⟨a, vs, v, rfl, rfl, q3, hv, put_lst hH h q1 q2 (reps_dropLast q4) rv p⟩
      · exact p.elim
    · exact p.elim
  · exact p.elim
def dPopAt (d : D) (ds : List D) : M D := fun S => match d, ds with
  | .ref k, [.int i] => match S[k]? with
    | some (.lst xs) => match ixN xs.length i with
      | some j => match xs[j]? with
        | some y => if -(2 ^ 63) ≤ i ∧ i < 2 ^ 63 then .ok y (S.set k (.lst (xs.eraseIdx j))) else .stuck
        | none => .stuck
      | none => .stuck
    | _ => .stuck
  | _, _ => .stuck
theorem mtOk_popAt : MtOk T dPopAt rPopAt := fun W G S H d x ds xs Q hH r1 r2 p => by
  unfold dPopAt at p
  split at p
  · split at p
    · rename_i zs h
      split at p
      · rename_i j hj
        split at p
        · rename_i y hy
          split at p
          · rename_i hz
            obtain ⟨z, rfl, r3⟩ := reps1 r2
            simp only [Rep] at r3
            subst r3
            obtain ⟨a, vs, rfl, q1, q2, q3, q4⟩ := cell_lst hH r1 h
            obtain ⟨v, hv, rv⟩ := reps_get q4 hy
            exact ⟨a, vs, _, j, v, rfl, rfl, q3, hz.1, hz.2, by rw [← q4.len]; exact (ixN_seq hj).1, hv, put_lst hH h q1 q2 (reps_erase _ q4) rv p⟩
          · exact p.elim
        · exact p.elim
      · exact p.elim
    · exact p.elim
  · exact p.elim
/-- the first place of an equal one -/
def fstEq (p : PyData) : List PyData → Nat → Option Nat
  | [], _ => none
  | q :: qs, i => if PyData.eqv q p = true then some i else fstEq p qs (i + 1)
theorem fstEq_ok {p : PyData} : ∀ {qs : List PyData} {i j : Nat}, fstEq p qs i = some j → ∃ n z, j = i + n ∧ qs[n]? = some z ∧ PyData.eqv z p = true ∧ ∀ m z', m < n → qs[m]? = some z' → PyData.eqv z' p = false
  | [], i, j, h => by simp [fstEq] at h
  | q :: qs, i, j, h => by
    unfold fstEq at h
    split at h
    · rename_i hq
      cases h
      exact ⟨0, q, rfl, rfl, hq, fun m z' hm => absurd hm (Nat.not_lt_zero _)⟩
    · rename_i hq
      obtain ⟨n, z, e1, e2, e3, e4⟩ := fstEq_ok h
      refine ⟨n + 1, z, by omega, by simpa using e2, e3, fun m z' hm hz => ?_⟩
      cases m with
      | zero => simp at hz; subst hz; simpa using hq
      | succ m => exact e4 m z' (by omega) (by simpa using hz)
def dIndex (d : D) (ds : List D) : M D := fun S => match ds with
  | [e] => match toP S 12 d, toP S 12 e with
    | some (.list ps), some p => if SeqAt.shaped (.list ps) = true ∧ SeqAt.shaped p = true then match fstEq p ps 0 with
        | some j => .ok (.int (j : Int)) S
        | none => .stuck
      else .stuck
    | _, _ => .stuck
  | _ => .stuck
theorem mtOk_index (hK : X.K = T.K) : MtOk T dIndex (rIndexD X.K) := fun W G S H d x ds xs Q hH r1 r2 p => by
  unfold dIndex at p
  split at p
  · split at p
    · rename_i ps q h1 h2
      split at p
      · rename_i hs
        split at p
        · rename_i j hj
          obtain ⟨y, rfl, r3⟩ := reps1 r2
          obtain ⟨n, z, e1, e2, e3, e4⟩ := fstEq_ok hj
          have dp := toP_ok hK hH _ r1 h1
          have en : j = n := by omega
          subst en
          obtain ⟨a, rfl⟩ : ∃ a, x = .ref a := by cases dp; exact ⟨_, rfl⟩
          exact ⟨a, y, q, ps, j, z, rfl, rfl, dp, toP_ok hK hH _ r3 h2, hs.1, hs.2, e2, e3, e4, p.ok hH (by simp only [Rep])⟩
        · exact p.elim
      · exact p.elim
    · exact p.elim
  · exact p.elim

/-! texts -/
def dSplit (mu : Bool) (d : D) (ds : List D) : M D := fun S => match d, ds with
  | .str a, [.str b] => if (b.length == 0) = false ∧ a.length + 2 ≤ sizeLine then newL mu ((Txt.split a b).map .str) S else .stuck
  | _, _ => .stuck
theorem strs_reps {G : Gh} : ∀ {xs : List Str}, Reps T G (xs.map D.str) (xs.map V.str)
  | [] => reps_nil
  | x :: xs => reps_cons (by simp only [Rep]) strs_reps
theorem mtOk_split {mu : Bool} : MtOk T (dSplit mu) (fun x xs H Q => ∃ a b, x = .str a ∧ xs = [.str b] ∧ (b.length == 0) = false ∧ a.length + 2 ≤ sizeLine ∧ rNewStrs (Txt.split a b) H Q) := fun W G S H d x ds xs Q hH r1 r2 p => by
  unfold dSplit at p
  split at p
  · split at p
    · rename_i hz
      obtain ⟨y, rfl, r3⟩ := reps1 r2
      simp only [Rep] at r1 r3
      subst r1; subst r3
      exact ⟨_, _, rfl, rfl, hz.1, hz.2, newL_ok hH strs_reps p⟩
    · exact p.elim
  · exact p.elim
def dJoin (d : D) (ds : List D) : M D := fun S => match d, ds with
  | .str a, [e] => match (seqL S e).bind strsOf with
    | some ys => if (ys.map (·.length)).sum + ys.length * a.length ≤ 16777216 then .ok (.str (Txt.join a ys)) S else .stuck
    | none => .stuck
  | _, _ => .stuck
theorem mtOk_join : MtOk T dJoin (fun x xs H Q => ∃ a p, ∃ ys : List Str, x = .str a ∧ xs = [.ref p] ∧ (SqL X.K H p (ys.map V.str) ∨ SqT X.K H p (ys.map V.str)) ∧ (ys.map (·.length)).sum + ys.length * a.length ≤ 16777216 ∧ Q (.str (Txt.join a ys)) H) := fun W G S H d x ds xs Q hH r1 r2 p => by
  unfold dJoin at p
  split at p
  · split at p
    · rename_i ys h
      split at p
      · rename_i hz
        obtain ⟨y, rfl, r3⟩ := reps1 r2
        obtain ⟨zs, h1, h2⟩ := Option.bind_eq_some_iff.mp h
        obtain ⟨b, ws, rfl, k1, k2⟩ := seqL_ok hH r3 h1
        rw [strsOf_ok k2 h2] at k1
        simp only [Rep] at r1
        subst r1
        exact ⟨_, b, ys, rfl, rfl, .inl (SqL.of k1), hz, p.ok hH (by simp only [Rep])⟩
      · exact p.elim
    · exact p.elim
  · exact p.elim
def dStarts (d : D) (ds : List D) : M D := fun S => match d, ds with
  | .str a, [.str b] => .ok (.bl (Txt.startswith a b)) S
  | _, _ => .stuck
theorem mtOk_starts : MtOk T dStarts (fun x xs H Q => ∃ a b, x = .str a ∧ xs = [.str b] ∧ Q (.bl (Txt.startswith a b)) H) := fun W G S H d x ds xs Q hH r1 r2 p => by
  unfold dStarts at p
  split at p
  · obtain ⟨y, rfl, r3⟩ := reps1 r2
    simp only [Rep] at r1 r3
    subst r1; subst r3
    exact ⟨_, _, rfl, rfl, p.ok hH (by simp only [Rep])⟩
  · exact p.elim
/-- a method that is called by its name -/
inductive MK where
  | append | extend | insert | popAt | index | split | join | starts
  deriving DecidableEq
def MK.name : MK → Str
  | .append => "append" | .extend => "extend" | .insert => "insert" | .popAt => "pop" | .index => "index" | .split => "split" | .join => "join" | .starts => "startswith"
def MK.sem (mu : Bool) : MK → D → List D → M D
  | .append => dAppend | .extend => dExtend | .insert => dInsert | .popAt => dPopAt | .index => dIndex | .split => dSplit mu | .join => dJoin | .starts => dStarts
def MK.chk : MK → D → M Unit
  | .append => chkL | .extend => chkL | .insert => chkL | .popAt => chkL | .index => chkL | .split => chkS | .join => chkS | .starts => chkS
theorem ve_mk {k : MK} {mu : Bool} (hK : X.K = T.K) (hu : X.A.units + 65 < cLine) (ho : VE T X W o fo) (ha : VA T X W (e :: es) fa) (hb : plainO o = true) (hs : noStar (e :: es) = true) (hl : (e :: es).length < 20) (hline : (apos.endLine == pos.line) = true) :
    VE T X W (.Call (.Attribute o k.name apos) (e :: es) [] pos) (sBM k.chk fo fa (k.sem mu)) := by
  cases k
  · exact ve_bm PySem.F.plainAttrs_list PySem.F.slot_list_append PySem.F.type_list_append mt_append (chkL_ok hK) mtOk_append ho ha hb hs hl hline
  · exact ve_bm PySem.F.plainAttrs_list PySem.F.slot_list_extend PySem.F.type_list_extend mt_extend (chkL_ok hK) mtOk_extend ho ha hb hs hl hline
  · exact ve_bm PySem.F.plainAttrs_list PySem.F.slot_list_insert PySem.F.type_list_insert mt_insert (chkL_ok hK) mtOk_insert ho ha hb hs hl hline
  · exact ve_bm PySem.F.plainAttrs_list PySem.F.slot_list_pop PySem.F.type_list_pop mt_popAt (chkL_ok hK) mtOk_popAt ho ha hb hs hl hline
  · exact ve_bm PySem.F.plainAttrs_list PySem.F.slot_list_index PySem.F.type_list_index (mt_indexD hu) (chkL_ok hK) (mtOk_index hK) ho ha hb hs hl hline
  · exact ve_bm PySem.F.plainAttrs_str PySem.F.slot_str_split PySem.F.type_str_split mt_split chkS_ok mtOk_split ho ha hb hs hl hline
  · exact ve_bm PySem.F.plainAttrs_str PySem.F.slot_str_join PySem.F.type_str_join mt_join chkS_ok mtOk_join ho ha hb hs hl hline
  · exact ve_bm PySem.F.plainAttrs_str PySem.F.slot_str_startswith PySem.F.type_str_startswith mt_startswith chkS_ok mtOk_starts ho ha hb hs hl hline
theorem ve_pop (hK : X.K = T.K) (ho : VE T X W o fo) (hb : plainO o = true) (hline : (apos.endLine == pos.line) = true) : VE T X W (.Call (.Attribute o "pop" apos) [] [] pos) (sBM chkL fo sNil dPop) :=
  ve_bm0 PySem.F.plainAttrs_list PySem.F.slot_list_pop PySem.F.type_list_pop mt_pop (chkL_ok hK) mtOk_pop ho hb hline
def dBits (d : D) : M D := fun S => match d with
  | .int i => .ok (.int (Builtin.Int.intBits i)) S
  | _ => .stuck
theorem ve_bits (ho : VE T X W o fo) (hb : plainO o = true) (hline : (apos.endLine == pos.line) = true) : VE T X W (.Call (.Attribute o "bit_length" apos) [] [] pos) (fun env => bnd (fo env) dBits) := by
  refine (pe_bits ho (base_of hb) hline).imp fun σ H Q ⟨G, S, env, hE, hH, p⟩ => ?_
  refine ⟨G, S, env, hE, hH, (p.bnd (rel := Rep T)).mono fun G1 S1 d x H1 st1 hd1 r1 p1 => ?_⟩
  unfold dBits at p1
  split at p1
  · simp only [Rep] at r1
    subst r1
    exact ⟨_, rfl, p1.ok hd1 (by simp only [Rep])⟩
  · exact p1.elim

/-! ### xs[i] = e -/
def dSet (d i e : D) : M Unit := fun S => match d, i with
  | .ref k, .int j => match S[k]? with
    | some (.lst xs) => match ixN xs.length j with
      | some n => .ok () (S.set k (.lst (xs.set n e)))
      | none => .stuck
    | _ => .stuck
  | _, _ => .stuck
def sSet (fo fi fe : Envd → M D) : MS := fun env S => eB (fe env S) env fun e S1 => eB (fo env S1) env fun d S2 => eB (fi env S2) env fun i S3 => eB (dSet d i e S3) env fun _ S4 => .nx env S4
def noSlice : Expr → Bool
  | .Slice _ _ _ _ => false
  | _ => true
theorem vs_set {i : Expr} {fi fe : Envd → M D} {p' : Pos} (hsl : noSlice i = true) (ho : VE T X W o fo) (hi : VE T X W i fi) (he : VE T X W e fe) (hs : swapsWithSole [.Subscript o i p'] e pos.line X.env = pure false) (hw : swappedStores [.Subscript o i p'] e X.env = pure none)
    (h1 : (assignEach [.Subscript o i p'] X.env).map (·.2) = [assign (.Subscript o i p') X.env]) : VS T X W (.Assign [.Subscript o i p'] e pos) (sSet fo fi fe) := by
  refine (ps_asg he (pg_sub ho hi set_list (by intro v; cases i <;> first | rfl | (simp only [noSlice] at hsl; cases hsl))) hs hw h1).imp fun D' σ H ⟨G, S, env, hE, hH, p⟩ => ?_
  refine ⟨G, S, env, hE, hH, (p.eB hE (rel := Rep T)).mono fun G1 S1 e y H1 st1 hd1 r1 p1 => ?_⟩
  refine ⟨G1, S1, env, hE.le st1.le, hd1, (p1.eB (hE.le st1.le) (rel := Rep T)).mono fun G2 S2 d x H2 st2 hd2 r2 p2 => ?_⟩
  refine ⟨G2, S2, env, hE.le (st1.trans st2).le, hd2, (p2.eB (hE.le (st1.trans st2).le) (rel := Rep T)).mono fun G3 S3 i z H3 st3 hd3 r3 p3 => ?_⟩
  have hE3 := hE.le ((st1.trans st2).trans st3).le
  have r1' := r1.le (st2.trans st3).le
  have r2' := r2.le st3.le
  cases d <;> cases i <;> simp only [dSet, eB] at p3 <;> try exact p3.elim
  rename_i k j
  cases e1 : S3[k]? with
  | none => simp only [e1] at p3; exact p3.elim
  | some c =>
    cases c <;> simp only [e1] at p3 <;> try exact p3.elim
    rename_i xs
    cases e2 : ixN xs.length j with
    | none => simp only [e2] at p3; exact p3.elim
    | some n =>
      simp only [e2] at p3
      obtain ⟨a, vs, rfl, q1, q2, q3, q4⟩ := cell_lst hd3 r2' e1
      simp only [Rep] at r3
      subst r3
      obtain ⟨h1, h2⟩ := hd3.write (o := .lst (vs.set n y)) (c' := .lst (xs.set n e)) e1 q1 q2 (by simp only [CellRep]; exact ⟨q2, _, upd_same, reps_set n q4 r1'⟩)
      exact ⟨a, vs, j, n, rfl, rfl, q3, by rw [← q4.len]; exact e2, p3 G3 _ σ h2 h1 hE3⟩
end
end Ev

set_option Elab.async false
set_option linter.all false
set_option maxRecDepth 100000
set_option maxHeartbeats 4000000
/-! EvI: isinstance with built-in types; small facts of the text's forms. -/
namespace Ev
open PySem PySem.Spec PyProof.Rows L2

/-! ### isinstance -/
def tyD (S : Store) : D → Option String
  | .non => some "NoneType"
  | .bl _ => some "bool"
  | .int _ => some "int"
  | .str _ => some "str"
  | .scr _ => some "list"
  | .lst _ => some "list"
  | .tup _ => some "tuple"
  | .dct _ _ => some "dict"
  | .ref k => match S[k]? with
    | some (.lst _) => some "list"
    | some (.frz _) => some "list"
    | some (.dct _ _) => some "dict"
    | _ => none
  | .obj _ _ => none
  | .exn _ _ => none
def isB (a b : String) : Bool := a == b || (a == "bool" && b == "int")
/-- the types that are asked for -/
inductive TK where
  | int | bool | str | list | tuple
  deriving DecidableEq
def TK.name : TK → String
  | .int => "int" | .bool => "bool" | .str => "str" | .list => "list" | .tuple => "tuple"
def TK.nm : TK → Str
  | .int => "int" | .bool => "bool" | .str => "str" | .list => "list" | .tuple => "tuple"
theorem TK.boot (k : TK) : bootBuiltins k.nm = some (.type k.name) := by
  cases k
  · exact PyProof.Rows.boot_int
  · exact PyProof.Rows.boot_bool
  · exact PyProof.Rows.boot_str
  · exact PyProof.Rows.boot_list
  · exact PyProof.Rows.boot_tuple
theorem kit_isB (K : PySem.W.Frag) (k : TK) {t : String} (h : t = "NoneType" ∨ t = "bool" ∨ t = "int" ∨ t = "str" ∨ t = "list" ∨ t = "tuple" ∨ t = "dict") : PySem.W.kitOne K (.type t) (.type k.name) = some (isB t k.name) := by
  rcases h with rfl | rfl | rfl | rfl | rfl | rfl | rfl <;> cases k <;> exact kit_ty (by decide +kernel)
section
variable {T : Kit} {G : Gh} {S : Store} {H : Hp}
theorem tyD_ok {K : PySem.W.Frag} (hK : K = T.K) (hH : Held T G S H) {d : D} {x : V} {t : String} (r : Rep T G d x) (e : tyD S d = some t) : TyX K H x (.type t) ∧ (t = "NoneType" ∨ t = "bool" ∨ t = "int" ∨ t = "str" ∨ t = "list" ∨ t = "tuple" ∨ t = "dict") := by
  subst hK
  cases d with
  | non => simp only [tyD] at e; cases e; simp only [Rep] at r; subst r; exact ⟨.base .non, by simp⟩
  | bl b => simp only [tyD] at e; cases e; simp only [Rep] at r; subst r; exact ⟨.base (.bl b), by simp⟩
  | int b => simp only [tyD] at e; cases e; simp only [Rep] at r; subst r; exact ⟨.base (.int b), by simp⟩
  | str b => simp only [tyD] at e; cases e; simp only [Rep] at r; subst r; exact ⟨.base (.str b), by simp⟩
  | scr xs =>
    simp only [tyD] at e; cases e; simp only [Rep] at r
    obtain ⟨a, rfl, q⟩ := r
    refine ⟨?_, by simp⟩
    rcases sqL_le hH.ext q with (q | ⟨o, q⟩) | ⟨its, hv, o, hk, hc, _⟩
    · exact .base (.lst q)
    · exact .base (.frz q)
    · exact .kList hk hc
  | lst xs =>
    simp only [tyD] at e; cases e; simp only [Rep] at r
    obtain ⟨a, vs, rfl, q, _⟩ := r
    exact ⟨.base (.lst (hH.ext _ _ q)), by simp⟩
  | tup xs =>
    simp only [tyD] at e; cases e; simp only [Rep] at r
    obtain ⟨a, vs, rfl, q, _⟩ := r
    refine ⟨?_, by simp⟩
    rcases sqT_le hH.ext q with (q | ⟨o, q⟩) | ⟨its, hv, o, hk, hc, _⟩
    · exact .base (.tup q)
    · exact .fTuple q
    · exact .kTuple hk hc
  | dct ks vs =>
    simp only [tyD] at e; cases e; simp only [Rep] at r
    obtain ⟨a, vs, rfl, q, _⟩ := r
    exact ⟨.base (.dK (hH.ext _ _ q)), by simp⟩
  | obj c fs => simp only [tyD] at e; cases e
  | exn c fs => simp only [tyD] at e; cases e
  | ref k =>
    simp only [tyD] at e
    simp only [Rep] at r
    obtain ⟨a, rfl, q⟩ := r
    split at e <;> try cases e
    · rename_i h
      have c := hH.cell k _ a h q
      simp only [CellRep] at c
      obtain ⟨_, vs, c1, _⟩ := c
      exact ⟨.base (.lst c1), by simp⟩
    · rename_i h
      have c := hH.cell k _ a h q
      simp only [CellRep] at c
      obtain ⟨vs, c1, _⟩ := c
      exact ⟨.base (.lst (hH.ext _ _ c1)), by simp⟩
    · rename_i h
      have c := hH.cell k _ a h q
      simp only [CellRep] at c
      obtain ⟨_, vs, c1, _⟩ := c
      exact ⟨.base (.dK c1), by simp⟩
end
def dIsi (ks : List TK) (d : D) : M D := fun S => match tyD S d with
  | some t => .ok (.bl (ks.any fun k => isB t k.name)) S
  | none => .stuck
theorem kit_any (K : PySem.W.Frag) {t : String} (h : t = "NoneType" ∨ t = "bool" ∨ t = "int" ∨ t = "str" ∨ t = "list" ∨ t = "tuple" ∨ t = "dict") : ∀ ks : List TK, PySem.W.kitAny K (.type t) (ks.map fun (k : TK) => Value.type k.name) = some (ks.any fun k => isB t k.name)
  | [] => rfl
  | k :: ks => by
    show (match PySem.W.kitOne K (.type t) (.type k.name) with | some true => some true | some false => PySem.W.kitAny K (.type t) (ks.map fun (k : TK) => Value.type k.name) | none => none) = _
    rw [kit_isB K k h]
    cases hb : isB t k.name with
    | true => simp [hb]
    | false => simp [hb, kit_any K h ks]
section
variable {T : Kit} {X : Cx} {W : WX} {pos p p2 : Pos} {a : Expr} {fa : Envd → M D}
theorem pe_tk (k : TK) (hg : Gl X k.nm) (hm : X.mg k.nm = none) : PE X (.Name k.nm p) (tC (.ty k.name)) := pe_bltn hg hm k.boot rfl (by cases k <;> decide) (by cases k <;> decide)
theorem ve_isi {k : TK} (hK : X.K = T.K) (hg : Gl X "isinstance") (hm : X.mg "isinstance" = none) (hg2 : Gl X k.nm) (hm2 : X.mg k.nm = none) (ha : VE T X W a fa) (hs : noStar [a] = true) :
    VE T X W (.Call (.Name "isinstance" p) [a, .Name k.nm p2] [] pos) (fun env => bnd (fa env) (dIsi [k])) := by
  refine (pe_callB call_isi hg hm PyProof.Rows.boot_isinstance (pa_cons ha (pa_cons (pe_tk k hg2 hm2) pa_nil) (by cases a <;> first | rfl | (simp only [noStar] at hs; cases hs))) (by decide) (by decide) (by cases a <;> first | rfl | (simp only [noStar] at hs; cases hs)) rfl).imp fun σ H Q ⟨G, S, env, hE, hH, p⟩ => ?_
  refine ⟨G, S, env, hE, hH, (p.bnd (rel := Rep T)).mono fun G1 S1 d x H1 st1 hd1 r1 p1 => ?_⟩
  unfold dIsi at p1
  split at p1
  · rename_i t ht
    obtain ⟨h1, h2⟩ := tyD_ok hK hd1 r1 ht
    exact ⟨x, .ty k.name, _, _, _, rfl, .ty _, h1, kit_isB _ k h2, p1.ok hd1 (by simp [Rep])⟩
  · exact p1.elim
theorem ve_isi2 {k l : TK} {p3 p4 : Pos} {j : Nat} (hK : X.K = T.K) (hg : Gl X "isinstance") (hm : X.mg "isinstance" = none) (hg2 : Gl X k.nm) (hm2 : X.mg k.nm = none) (hg3 : Gl X l.nm) (hm3 : X.mg l.nm = none) (ha : VE T X W a fa) (hs : noStar [a] = true) :
    VE T X W (.Call (.Name "isinstance" p) [a, .Tuple [.Name k.nm p2, .Name l.nm p3] j p4] [] pos) (fun env => bnd (fa env) (dIsi [k, l])) := by
  refine (pe_callB call_isiT hg hm PyProof.Rows.boot_isinstance (pa_cons ha (pa_cons (pe_tup (pa_cons (pe_tk k hg2 hm2) (pa_cons (pe_tk l hg3 hm3) pa_nil))) pa_nil) (by cases a <;> first | rfl | (simp only [noStar] at hs; cases hs))) (by decide) (by decide) (by cases a <;> first | rfl | (simp only [noStar] at hs; cases hs)) rfl).imp fun σ H Q ⟨G, S, env, hE, hH, p⟩ => ?_
  refine ⟨G, S, env, hE, hH, (p.bnd (rel := Rep T)).mono fun G1 S1 d x H1 st1 hd1 r1 p1 => ?_⟩
  refine ⟨by show 2 ≤ sizeLine; decide, fun tp hp => ?_⟩
  unfold dIsi at p1
  split at p1
  · rename_i t ht
    obtain ⟨n1, n2⟩ := hd1.beside (p := tp) (o := .tup [.ty k.name, .ty l.name]) hp
    obtain ⟨h1, h2⟩ := tyD_ok hK n1 r1 ht
    exact ⟨x, tp, [.ty k.name, .ty l.name], _, [.type k.name, .type l.name], _, rfl, upd_same, .cons (.ty _) (.cons (.ty _) .nil), h1, kit_any _ h2 [k, l], p1 G1 _ _ n2 n1 (by simp only [Rep])⟩
  · exact p1.elim
end
end Ev

set_option Elab.async false
set_option linter.all false
set_option maxRecDepth 100000
set_option maxHeartbeats 4000000
/-! EvIa: arguments by name alone; starred items of a display. -/
namespace Ev
open PySem PySem.Spec PyProof.Rows L2

/-! ### f(a = .., b = ..) -/
/-- the values by name, in the parameters' order -/
def byPerm {α : Type} (perm : List Nat) (xs : List α) : List α := perm.filterMap fun i => xs[i]?
theorem vals_perm {vs : List V} {us : List Value} (h : Vals vs us) : ∀ perm : List Nat, Vals (byPerm perm vs) (byPerm perm us)
  | [] => .nil
  | i :: is => by
    unfold byPerm
    rw [List.filterMap_cons, List.filterMap_cons]
    cases e : vs[i]? with
    | none =>
      have e2 : us[i]? = none := by
        rw [List.getElem?_eq_none_iff] at e ⊢
        rw [← h.length]; exact e
      rw [e2]
      exact vals_perm h is
    | some v =>
      obtain ⟨u, hu, r⟩ := h.get e
      rw [hu]
      exact .cons r (vals_perm h is)
theorem reps_perm {T : Kit} {G : Gh} {ds : List D} {vs : List V} (h : Reps T G ds vs) : ∀ perm : List Nat, Reps T G (byPerm perm ds) (byPerm perm vs)
  | [] => reps_nil
  | i :: is => by
    unfold byPerm
    rw [List.filterMap_cons, List.filterMap_cons]
    cases e : ds[i]? with
    | none =>
      have e2 : vs[i]? = none := by
        rw [List.getElem?_eq_none_iff] at e ⊢
        rw [← h.len]; exact e
      rw [e2]
      exact reps_perm h is
    | some d =>
      obtain ⟨v, hv, r⟩ := reps_get h e
      rw [hv]
      exact reps_cons r (reps_perm h is)
/-- how a call by names alone binds -/
structure KOnly (K : PySem.W.Frag) (fd : FuncData) (ps ks : List Str) (perm : List Nat) : Prop where
  to : ∀ (s : Shared) (ws : List Value), K.In s.heap → ws.length = ks.length → BindsTo s fd ⟨[], ks.zip ws⟩ (ps.zip (byPerm perm ws))
/-- a def that is called by names alone -/
structure FnKAt (X : Cx) (T : Kit) (k : Nat) (x : Str) (ks : List Str) (sem : List D → M D) : Prop where
  ex : ∃ f fd ps perm sem0, X.mg x = some (.ref f) ∧ PySem.W.keepIn X.K (.ref f) = true ∧ FnOk X.prog X.w X.K X.mg X.base (L2.CX X.prog X.w) k f fd ps (spOf T sem0) ∧ KOnly X.K fd ps ks perm ∧ sem = fun ds => sem0 (byPerm perm ds)
section
variable {T : Kit} {X : Cx} {W : WX} {pos : Pos} {a b : Expr} {fa fb : Envd → M D}
/-- the values of the keywords -/
abbrev VK' (T : Kit) (X : Cx) (W : WX) (ks : List Keyword) (f : Envd → M (List D)) : Prop := PK X ks (tAs T W f)
theorem _root_.L2.PK.imp {X : Cx} {e : List Keyword} {t t' : TA} (h : PK X e t) (k : ∀ σ H Q, t' σ H Q → t σ H Q) : PK X e t' := ⟨fun w pins s σ H Q I q => h.run w pins s σ H Q I (k _ _ _ q)⟩
theorem vk_nil : VK' T X W [] sNil := pk_nil.imp fun σ H Q ⟨G, S, env, hE, hH, p⟩ => p.ret hH reps_nil
theorem vk_cons {nm : Option Str} {kp : Pos} {ks : List Keyword} {g : Envd → M (List D)} (ha : VE T X W a fa) (hr : VK' T X W ks g) : VK' T X W (⟨nm, a, kp⟩ :: ks) (sCons fa g) := by
  refine (pk_cons ha hr).imp fun σ H Q ⟨G, S, env, hE, hH, p⟩ => ?_
  refine ⟨G, S, env, hE, hH, (p.bnd (rel := Rep T)).mono fun G1 S1 d x H1 st1 hd1 r1 p1 => ?_⟩
  refine ⟨G1, S1, env, hE.le st1.le, hd1, (p1.bnd (rel := Reps T)).mono fun G2 S2 ds vs H2 st2 hd2 r2 p2 => ?_⟩
  exact p2.ret hd2 (reps_cons (r1.le st2.le) r2)
def kwNames : List Keyword → List Str
  | [] => []
  | ⟨some x, _, _⟩ :: ks => x :: kwNames ks
  | ⟨none, _, _⟩ :: ks => kwNames ks
def kwAll : List Keyword → Bool
  | [] => true
  | ⟨some _, _, _⟩ :: ks => kwAll ks
  | ⟨none, _, _⟩ :: _ => false
theorem kw_all {ks : List Keyword} {env : Env} (h : kwAll ks = true) : ((backToKw pos (keywordEach ks env)).all (·.1.isSome)) = true := by
  induction ks with
  | nil => rfl
  | cons k ks ih =>
    obtain ⟨nm, e, p⟩ := k
    cases nm with
    | none => simp only [kwAll] at h; cases h
    | some x => exact ih h
theorem kw_any {ks : List Keyword} {env : Env} (h : kwAll ks = true) : ((backToKw pos (keywordEach ks env)).any (·.1.isNone)) = false := by
  induction ks with
  | nil => rfl
  | cons k ks ih =>
    obtain ⟨nm, e, p⟩ := k
    cases nm with
    | none => simp only [kwAll] at h; cases h
    | some x => exact ih h
theorem kw_names {ks : List Keyword} {env : Env} (h : kwAll ks = true) : (backToKw pos (keywordEach ks env)).filterMap (·.1) = kwNames ks := by
  induction ks with
  | nil => rfl
  | cons k ks ih =>
    obtain ⟨nm, e, p⟩ := k
    cases nm with
    | none => simp only [kwAll] at h; cases h
    | some x => exact congrArg (x :: ·) (ih h)
theorem reps_lenV {G : Gh} {ds : List D} {vs : List V} {us : List Value} (r : Reps T G ds vs) (v : Vals vs us) : us.length = ds.length := by rw [r.len, v.length]
theorem ve_callK0 {k : Nat} {x : Str} {p : Pos} {kws : List Keyword} {f : Envd → M (List D)} {sem : List D → M D} (F : FnKAt X T k x (kwNames kws) sem) (hr : Room k X.A) (hg : Gl X x) (hx : ∀ σ, PassesAt (L2.CX X.prog X.w) X σ (WE W σ)) (hk : VK' T X W kws f)
    (hd : (x == ("__debug__" : Str)) = false) (hall : kwAll kws = true) (hn : kws ≠ []) : VE T X W (.Call (.Name x p) [] kws pos) (fun env => bnd (f env) fun ds => if ds.length = (kwNames kws).length then sem ds else stk) := by
  obtain ⟨fa, fd, ps, perm, sem0, hm, hkeep, F1, hb, rfl⟩ := F.ex
  refine ⟨fun pins s σ H Q I q => ?_⟩
  obtain ⟨G, S, env, hE, hH, pp⟩ := q
  refine wpAny_Call_Name_kw (ld_glob I hg hm ?_ hd)
  refine PySem.W.callWith_KW0 (h₀ := X.base) I.ok.mod.kin hkeep (kw_all hall) ?_ (by rw [kw_any hall]; rfl)
  refine thn (hk.run pos pins s σ H (fun zs H2 => ∃ G2 S2 ds, Held T G2 S2 H2 ∧ Reps T G2 ds zs ∧ ds.length = (kwNames kws).length ∧ PV T G2 H2 (at_ W σ) (sem0 (byPerm perm ds) S2) Q) I ⟨G, S, env, hE, hH, (pp.bnd (rel := Reps T)).mono fun G1 S1 ds xs H1 st1 hd1 r1 p1 => ?_⟩)
    fun ws s2 ⟨zs, H2, I2, rz, G2, S2, ds, hd2, r2, hl, p2⟩ => ⟨I2.kIn, ?_⟩
  · split at p1
    · rename_i hl
      exact ⟨G1, S1, ds, hd1, r1, hl, p1⟩
    · exact p1.elim
  · rw [kw_names hall]
    have sp : spOf T sem0 (byPerm perm zs) H2 Q (WE W σ) := ⟨G2, S2, byPerm perm ds, hd2, reps_perm r2 perm, p2⟩
    have rv := vals_perm rz perm
    have hln : (byPerm perm ws).length = ps.length := by rw [← rv.length]; exact F1.len _ _ _ _ sp
    refine wpAny_call (codeAny_mono (F1.run X.A X.stack s2 H2 ⟨[], (kwNames kws).zip ws⟩ (byPerm perm ws) (byPerm perm zs) Q (WE W σ) hr I2.env0 (hb.to s2 ws I2.kIn (by rw [reps_lenV r2 rz]; exact hl)) rv sp) fun r s' hq => ?_)
    cases r with
    | error e => exact hx σ pins H2 s2 e s' I2 hq
    | ok fl =>
      cases fl with
      | ret u => exact I2.after hq
      | next => exact False.elim hq
      | brk => exact False.elim hq
      | cont => exact False.elim hq

/-! ### [*xs, y] -/
def sStar (f : Envd → M D) (g : Envd → M (List D)) : Envd → M (List D) := fun env => bnd (f env) fun d => bnd (fun S => match seqT d with | some xs => .ok xs S | none => match seqL S d with | some xs => .ok xs S | none => .stuck) fun xs => bnd (g env) fun ds => ret (xs ++ ds)
theorem va_star {es : List Expr} {p : Pos} {g : Envd → M (List D)} (hK : X.K = T.K) (ha : VE T X W a fa) (hr : VA T X W es g) : VA T X W (.Starred a p :: es) (sStar fa g) := by
  refine (StX.pa_star ha hr).imp fun σ H Q ⟨G, S, env, hE, hH, pp⟩ => ?_
  refine ⟨G, S, env, hE, hH, (pp.bnd (rel := Rep T)).mono fun G1 S1 d x H1 st1 hd1 r1 p1 => ?_⟩
  cases e1 : seqT d with
  | some xs =>
    simp only [bnd, e1] at p1
    obtain ⟨ad, vs, rfl, q1, z1⟩ := seqT_ok hK.symm hd1 r1 e1
    refine ⟨ad, vs, rfl, .inl q1, G1, S1, env, hE.le st1.le, hd1, ?_⟩
    exact (Pst.bnd (rel := Reps T) (rel2 := Reps T) (m := g env) (f := fun ds => ret (xs ++ ds)) p1).mono fun G2 S2 ds ws H2 st2 hd2 r2 p2 => p2.ret hd2 (reps_app (z1.le st2.le) r2)
  | none =>
    cases e2 : seqL S1 d with
    | none => simp only [bnd, e1, e2] at p1; exact p1.elim
    | some xs =>
      simp only [bnd, e1, e2] at p1
      obtain ⟨ad, vs, rfl, q1, z1⟩ := seqL_ok hd1 r1 e2
      refine ⟨ad, vs, rfl, .inr (SqL.of q1), G1, S1, env, hE.le st1.le, hd1, ?_⟩
      exact (Pst.bnd (rel := Reps T) (rel2 := Reps T) (m := g env) (f := fun ds => ret (xs ++ ds)) p1).mono fun G2 S2 ds ws H2 st2 hd2 r2 p2 => p2.ret hd2 (reps_app (z1.le st2.le) r2)
end
end Ev

set_option Elab.async false
set_option linter.all false
set_option maxRecDepth 100000
set_option maxHeartbeats 4000000
/-! EvIb: objects of the text's own classes: fields, properties, methods, stores to fields. -/
namespace Ev
open PySem PySem.Spec PyProof.Rows L2

def slotOf (x : Str) : List Str → Option Nat
  | [] => none
  | y :: ys => if x = y then some 0 else (slotOf x ys).map (· + 1)
theorem slotOf_ok {x : Str} : ∀ {N : List Str} {i : Nat}, slotOf x N = some i → N[i]? = some x
  | [], i, h => by cases h
  | y :: ys, i, h => by
    unfold slotOf at h
    split at h
    · rename_i e; cases h; rw [e]; rfl
    · obtain ⟨j, e, rfl⟩ := Option.map_eq_some_iff.mp h
      simpa using slotOf_ok e
theorem zip_look {x : Str} : ∀ {ps : List Str} {vs : List V} {i : Nat} {v : V}, slotOf x ps = some i → vs[i]? = some v → (ps.zip vs).lookup x = some v
  | [], vs, i, v, h, _ => by cases h
  | p :: ps, [], i, v, h, e => by simp at e
  | p :: ps, w :: vs, i, v, h, e => by
    unfold slotOf at h
    rw [List.zip_cons_cons, List.lookup_cons]
    split at h
    · rename_i hx
      cases h
      subst hx
      simp at e ⊢
      exact e
    · rename_i hx
      obtain ⟨j, hj, rfl⟩ := Option.map_eq_some_iff.mp h
      rw [show (x == p) = false from by simpa using hx]
      exact zip_look hj (by simpa using e)
theorem zip_none {x : Str} : ∀ {ps : List Str} {vs : List V}, slotOf x ps = none → (ps.zip vs).lookup x = none
  | [], vs, h => by cases vs <;> rfl
  | p :: ps, [], h => rfl
  | p :: ps, w :: vs, h => by
    unfold slotOf at h
    rw [List.zip_cons_cons, List.lookup_cons]
    split at h
    · cases h
    · rename_i hx
      rw [show (x == p) = false from by simpa using hx]
      exact zip_none (Option.map_eq_none_iff.mp h)
/-- a further field -/
theorem zip_put {x : Str} {v : V} : ∀ {ps : List Str} {vs : List V} {i : Nat}, slotOf x ps = some i → vs.length = i → putF x v (ps.zip vs) = ps.zip (vs ++ [v])
  | [], vs, i, h, _ => by cases h
  | p :: ps, [], i, h, e => by
    unfold slotOf at h
    split at h
    · rename_i hx; subst hx; simp [putF]
    · obtain ⟨j, hj, rfl⟩ := Option.map_eq_some_iff.mp h
      simp at e
  | p :: ps, w :: vs, i, h, e => by
    unfold slotOf at h
    split at h
    · cases h; simp at e
    · rename_i hx
      obtain ⟨j, hj, rfl⟩ := Option.map_eq_some_iff.mp h
      rw [List.zip_cons_cons, List.cons_append, List.zip_cons_cons]
      unfold putF
      rw [if_neg (fun z => hx z.symm), zip_put hj (by simpa using e)]
/-- a field written again -/
theorem zip_set {x : Str} {v : V} : ∀ {ps : List Str} {vs : List V} {i : Nat}, slotOf x ps = some i → i < vs.length → putF x v (ps.zip vs) = ps.zip (vs.set i v)
  | [], vs, i, h, _ => by cases h
  | p :: ps, [], i, h, e => by simp at e
  | p :: ps, w :: vs, i, h, e => by
    unfold slotOf at h
    split at h
    · rename_i hx; cases h; subst hx; simp [putF]
    · rename_i hx
      obtain ⟨j, hj, rfl⟩ := Option.map_eq_some_iff.mp h
      rw [List.zip_cons_cons, List.set_cons_succ, List.zip_cons_cons]
      unfold putF
      rw [if_neg (fun z => hx z.symm), zip_set hj (by simpa using e)]

/-- an object's class, its fields -/
def insOf (S : Store) : D → Option (Nat × List D)
  | .obj c fs => some (c, fs)
  | .ref k => match S[k]? with
    | some (.ins c fs) => some (c, fs)
    | some (.fro c fs) => some (c, fs)
    | _ => none
  | _ => none
section
variable {T : Kit} {G : Gh} {S : Store} {H : Hp}
theorem insOf_ok (hH : Held T G S H) {d : D} {x : V} {c : Nat} {fs : List D} (r : Rep T G d x) (e : insOf S d = some (c, fs)) : ∃ a dx vs, x = .ref a ∧ H a = some (.ins (T.cl c) dx ((T.fn c).zip vs)) ∧ vs.length ≤ (T.fn c).length ∧ Reps T G fs vs := by
  cases d <;> simp only [insOf] at e <;> try cases e
  · simp only [Rep] at r
    obtain ⟨a, dx, vs, rfl, q, l, z⟩ := r
    exact ⟨a, dx, vs, rfl, hH.ext _ _ q, l, z⟩
  · rename_i k
    simp only [Rep] at r
    obtain ⟨a, rfl, q⟩ := r
    split at e <;> try cases e
    · rename_i h
      have cc := hH.cell k _ a h q
      simp only [CellRep] at cc
      obtain ⟨_, dx, vs, c1, c2, c3⟩ := cc
      exact ⟨a, dx, vs, rfl, c1, c2, c3⟩
    · rename_i h
      have cc := hH.cell k _ a h q
      simp only [CellRep] at cc
      obtain ⟨dx, vs, c1, c2, c3⟩ := cc
      exact ⟨a, dx, vs, rfl, hH.ext _ _ c1, c2, c3⟩
end
def dFld (c i : Nat) (d : D) : M D := fun S => match insOf S d with
  | some (c', fs) => if c' = c then match fs[i]? with
      | some v => .ok v S
      | none => .stuck
    else .stuck
  | none => .stuck
def isI (c : Nat) (d : D) : M Unit := fun S => match insOf S d with
  | some (c', _) => if c' = c then .ok () S else .stuck
  | none => .stuck
/-- a field under its name -/
structure FldAt (K : PySem.W.Frag) (T : Kit) (x : Str) (c i : Nat) : Prop where
  cls : Cls K (T.cl c)
  no : NoAttr K (T.cl c) x
  ix : slotOf x (T.fn c) = some i
/-- a property -/
structure PrpAt (X : Cx) (T : Kit) (k : Nat) (x : Str) (c : Nat) (sem : List D → M D) : Prop where
  cls : Cls X.K (T.cl c)
  ex : ∃ p g fd ps, PropOf X.K (T.cl c) x p g ∧ FnOk X.prog X.w X.K X.mg X.base (L2.CX X.prog X.w) k g fd ps (spOf T sem) ∧ Binds X.K fd ps []
/-- a method -/
structure MthAt (X : Cx) (T : Kit) (k : Nat) (x : Str) (c : Nat) (sem : List D → M D) : Prop where
  cls : Cls X.K (T.cl c)
  ix : slotOf x (T.fn c) = none
  ex : ∃ f fd ps, Meth X.K (T.cl c) x f ∧ FnOk X.prog X.w X.K X.mg X.base (L2.CX X.prog X.w) k f fd ps (spOf T sem) ∧ Binds X.K fd ps []
theorem nx_pv {T : Kit} {G : Gh} {H : Hp} {S : Store} {W W' : XK} {m : M D} {Q : VK} (p : PV T G H W (nx m S) Q) : PV T G H W' (nx m S) Q := by
  unfold Ev.nx at p ⊢
  cases e : m S with
  | ok a S' => rw [e] at p; exact p
  | exc c fs S' => rw [e] at p; exact p.elim
  | stuck => rw [e] at p; exact p.elim
def dPrp (c : Nat) (sem : List D → M D) (d : D) : M D := bnd (isI c d) fun _ => nx (sem [d])
def sMth (c : Nat) (sem : List D → M D) (fo : Envd → M D) (fa : Envd → M (List D)) : Envd → M D := fun env => bnd (fo env) fun d => bnd (isI c d) fun _ => bnd (fa env) fun ds => sem (d :: ds)
section
variable {T : Kit} {X : Cx} {W : WX} {pos apos : Pos} {o e a b : Expr} {es : List Expr} {fo fe : Envd → M D} {fa : Envd → M (List D)}
theorem isI_pst {α β : Type} {rel : Gh → α → β → Prop} {G : Gh} {S : Store} {H : Hp} {Wx : XK} {c : Nat} {d : D} {x : V} {k : Unit → M α} {Q : Gh → Store → α → β → Hp → Prop} (hH : Held T G S H) (r : Rep T G d x) (p : Pst T rel G H Wx (bnd (isI c d) k S) Q) :
    (∃ a dx vs, x = .ref a ∧ H a = some (.ins (T.cl c) dx ((T.fn c).zip vs))) ∧ Pst T rel G H Wx (k () S) Q := by
  unfold bnd isI at p
  cases e : insOf S d with
  | none => simp only [e] at p; exact p.elim
  | some q =>
    obtain ⟨c', fs⟩ := q
    simp only [e] at p
    by_cases hc : c' = c
    · subst hc
      simp only [if_true] at p
      obtain ⟨a, dx, vs, h1, h2, _⟩ := insOf_ok hH r e
      exact ⟨⟨a, dx, vs, h1, h2⟩, p⟩
    · simp only [if_neg hc] at p; exact p.elim
theorem ve_fld {x : Str} {c i : Nat} (F : FldAt X.K T x c i) (ho : VE T X W o fo) (hb : plainO o = true) : VE T X W (.Attribute o x pos) (fun env => bnd (fo env) (dFld c i)) := by
  refine (pe_fld ho (base_of hb)).imp fun σ H Q ⟨G, S, env, hE, hH, p⟩ => ?_
  refine ⟨G, S, env, hE, hH, (p.bnd (rel := Rep T)).mono fun G1 S1 d x H1 st1 hd1 r1 p1 => ?_⟩
  unfold dFld at p1
  cases e : insOf S1 d with
  | none => simp only [e] at p1; exact p1.elim
  | some q =>
    obtain ⟨c', fs⟩ := q
    simp only [e] at p1
    by_cases hc : c' = c
    · subst hc
      simp only [if_true] at p1
      obtain ⟨a, dx, vs, h1, h2, h3, h4⟩ := insOf_ok hd1 r1 e
      cases e2 : fs[i]? with
      | none => simp only [e2] at p1; exact p1.elim
      | some v =>
        simp only [e2] at p1
        obtain ⟨w, k1, k2⟩ := reps_get h4 e2
        exact ⟨a, _, dx, _, w, h1, h2, F.cls, F.no, zip_look F.ix k1, p1.ok hd1 k2⟩
    · simp only [if_neg hc] at p1; exact p1.elim
theorem pass_no {E : XK} (h : ∀ c d H, ¬ E c d H) : Passes (L2.CX X.prog X.w) X.nox E := fun pins σ H s e s' I z => by
  obtain ⟨_, _, _, _, _, _, _, _, _, _, _, _, w⟩ := z
  exact (h _ _ _ w).elim
theorem ve_prp {k : Nat} {x : Str} {c : Nat} {sem : List D → M D} (F : PrpAt X T k x c sem) (hr : Room (k + 1) X.A) (ho : VE T X W o fo) (hb : plainO o = true) : VE T X W (.Attribute o x pos) (fun env => bnd (fo env) (dPrp c sem)) := by
  obtain ⟨p, g, fd, ps, h1, h2, h3⟩ := F.ex
  refine (pe_prop (dvs := []) (E := fun _ _ _ => False) ho F.cls h1 h2 hr h3 .nil (pass_no fun _ _ _ z => z) (base_of hb)).imp fun σ H Q ⟨G, S, env, hE, hH, p⟩ => ?_
  refine ⟨G, S, env, hE, hH, (p.bnd (rel := Rep T)).mono fun G1 S1 d x H1 st1 hd1 r1 p1 => ?_⟩
  obtain ⟨⟨a, dx, vs, q1, q2⟩, p2⟩ := isI_pst hd1 r1 p1
  refine ⟨a, dx, _, q1, q2, G1, S1, [d], hd1, reps_cons (q1 ▸ r1) reps_nil, ?_⟩
  have p3 := nx_pv (W' := fun _ _ _ => False) p2
  unfold Ev.nx at p3
  cases e : sem [d] S1 with
  | ok a S' => rw [e] at p3; exact p3
  | exc c fs S' => rw [e] at p3; exact p3.elim
  | stuck => rw [e] at p3; exact p3.elim
theorem eval_mcall {m : Str} {args : List Expr} (hb : plainO o = true) (hf : ((backTo pos (starEach args X.env)).all (fun x => !x.1) && (backToKw pos (keywordEach [] X.env)).all (fun x => x.1.isSome)
      && decide (args.length + ([] : List Keyword).length + (if ([] : List Keyword).isEmpty then 0 else 1) < 30)) = true) (hline : (apos.endLine == pos.line) = true) :
    eval (.Call (.Attribute o m apos) args [] pos) X.env = (do
      let ov ← eval o X.env
      standAt apos.atName
      let (f, first) ← holding [ov] (getMethod ov m (do return (← importBound o X.env).getD true))
      callWith pos f first (backTo pos (starEach args X.env)) (backToKw pos (keywordEach [] X.env))) := by
  have hform : methodCallForm (args.length + ([] : List Keyword).length) (backTo pos (starEach args X.env)) (backToKw pos (keywordEach [] X.env)) = true := hf
  have hpos : methodCallPos true o X.env apos pos = pure pos := by unfold methodCallPos; simp [hline]
  refine mcall_of (base_of hb) fun ov => ?_
  unfold methodCall calleeOf
  rw [hform, hpos]
  simp only [if_true, pure_bind]
theorem ve_mth {k : Nat} {x : Str} {c : Nat} {sem : List D → M D} (F : MthAt X T k x c sem) (hr : Room k X.A) (hx : ∀ σ, PassesAt (L2.CX X.prog X.w) X σ (WE W σ)) (ho : VE T X W o fo) (ha : VA T X W (e :: es) fa) (hb : plainO o = true) (hs : noStar (e :: es) = true) (hl : (e :: es).length < 20) (hline : (apos.endLine == pos.line) = true) :
    VE T X W (.Call (.Attribute o x apos) (e :: es) [] pos) (sMth c sem fo fa) := by
  obtain ⟨f, fd, ps, h1, h2, h3⟩ := F.ex
  refine ⟨fun pins s σ H Q I h => ?_⟩
  obtain ⟨G, S, env, hE, hH, p⟩ := h
  refine PySem.W.methodCall_KW (thn (ho.run pins s σ H (fun v H1 => ∃ a dx vs, v = .ref a ∧ H1 a = some (.ins (T.cl c) dx ((T.fn c).zip vs)) ∧ tAs T W fa σ H1 fun ws H2 => spOf T sem (v :: ws) H2 Q (WE W σ)) I ⟨G, S, env, hE, hH, (p.bnd (rel := Rep T)).mono fun G1 S1 d v H1 st1 hd1 r1 p1 => ?_⟩)
    fun u s1 ⟨v, H1, I1, rx, a, dx, vs, ex, ea, q⟩ => ?_) (eval_mcall hb (few_of hs hl) hline)
  · obtain ⟨⟨a, dx, vs, q1, q2⟩, p2⟩ := isI_pst hd1 r1 p1
    refine ⟨a, dx, vs, q1, q2, G1, S1, env, hE.le st1.le, hd1, (p2.bnd (rel := Reps T)).mono fun G2 S2 ds ws H2 st2 hd2 r2 p3 => ?_⟩
    exact ⟨G2, S2, d :: ds, hd2, reps_cons (r1.le st2.le) r2, p3⟩
  · subst ex
    obtain rfl : u = Value.ref a := rx
    refine getmeth_ok I1 ea F.cls h1 (zip_none F.ix) ?_
    refine PySem.W.callWith_K (first := [.ref a]) (h₀ := X.base) I.ok.mod.kin h1.kp (thn (ha.run pos pins s1 σ H1 _ I1 q) fun us s2 ⟨ws, H2, I2, r, q2⟩ => ⟨I2.kIn, ?_⟩) (star_cons hs) (star_any (noStar_tail hs))
    exact run_fnS (us := .ref a :: us) (vs := .ref a :: ws) h2 hr h3 (hx σ) I2 (.cons rfl r) q2
theorem ve_mth0 {k : Nat} {x : Str} {c : Nat} {sem : List D → M D} (F : MthAt X T k x c sem) (hr : Room k X.A) (hx : ∀ σ, PassesAt (L2.CX X.prog X.w) X σ (WE W σ)) (ho : VE T X W o fo) (hb : plainO o = true) (hline : (apos.endLine == pos.line) = true) :
    VE T X W (.Call (.Attribute o x apos) [] [] pos) (sMth c sem fo sNil) := by
  obtain ⟨f, fd, ps, h1, h2, h3⟩ := F.ex
  refine ⟨fun pins s σ H Q I h => ?_⟩
  obtain ⟨G, S, env, hE, hH, p⟩ := h
  refine PySem.W.methodCall_KW (thn (ho.run pins s σ H (fun v H1 => ∃ a dx vs, v = .ref a ∧ H1 a = some (.ins (T.cl c) dx ((T.fn c).zip vs)) ∧ spOf T sem [v] H1 Q (WE W σ)) I ⟨G, S, env, hE, hH, (p.bnd (rel := Rep T)).mono fun G1 S1 d v H1 st1 hd1 r1 p1 => ?_⟩)
    fun u s1 ⟨v, H1, I1, rx, a, dx, vs, ex, ea, q⟩ => ?_) (eval_mcall hb rfl hline)
  · obtain ⟨⟨a, dx, vs, q1, q2⟩, p2⟩ := isI_pst hd1 r1 p1
    exact ⟨a, dx, vs, q1, q2, G1, S1, [d], hd1, reps_cons r1 reps_nil, p2⟩
  · subst ex
    obtain rfl : u = Value.ref a := rx
    refine getmeth_ok I1 ea F.cls h1 (zip_none F.ix) ?_
    exact PySem.W.callWith_K0 (first := [.ref a]) I1.kIn h1.kp (run_fnS (us := [.ref a]) (vs := [.ref a]) h2 hr h3 (hx σ) I1 (.cons rfl .nil) q)

/-! ### o.x = e -/
def dPut (c i : Nat) (d v : D) : M Unit := fun S => match d with
  | .ref k => match S[k]? with
    | some (.ins c' fs) => if c' = c ∧ fs.length < 1000 then (if i < fs.length then .ok () (S.set k (.ins c (fs.set i v))) else if i = fs.length then .ok () (S.set k (.ins c (fs ++ [v]))) else .stuck) else .stuck
    | _ => .stuck
  | _ => .stuck
def sPut (c i : Nat) (fo fe : Envd → M D) : MS := fun env S => eB (fe env S) env fun v S1 => eB (fo env S1) env fun d S2 => eB (dPut c i d v S2) env fun _ S3 => .nx env S3
theorem sw_att {x : Str} {py : Pos} {v : Expr} {env : Env} : swappedStores [.Attribute o x py] v env = pure none := by cases v <;> rfl
theorem vs_put {x : Str} {c i : Nat} {p' : Pos} (F : FldAt X.K T x c i) (ho : VE T X W o fo) (he : VE T X W e fe) (hs : swapsWith e (some (.Attribute o x p')) pos.line X.env = pure false) : VS T X W (.Assign [.Attribute o x p'] e pos) (sPut c i fo fe) := by
  refine (ps_fld ho he hs).imp fun D' σ H ⟨G, S, env, hE, hH, p⟩ => ?_
  refine ⟨G, S, env, hE, hH, (p.eB hE (rel := Rep T)).mono fun G1 S1 v y H1 st1 hd1 r1 p1 => ?_⟩
  refine ⟨G1, S1, env, hE.le st1.le, hd1, (p1.eB (hE.le st1.le) (rel := Rep T)).mono fun G2 S2 d z H2 st2 hd2 r2 p2 => ?_⟩
  have hE2 := hE.le (st1.trans st2).le
  have r1' := r1.le st2.le
  cases d <;> simp only [dPut, eB] at p2 <;> try exact p2.elim
  rename_i k
  cases e1 : S2[k]? with
  | none => simp only [e1] at p2; exact p2.elim
  | some cc =>
    cases cc <;> simp only [e1] at p2 <;> try exact p2.elim
    rename_i c' fs
    by_cases hc : c' = c ∧ fs.length < 1000
    · obtain ⟨hc, hl⟩ := hc
      subst hc
      simp only [hl, and_self, if_true] at p2
      simp only [Rep] at r2
      obtain ⟨a, rfl, q⟩ := r2
      have cr := hd2.cell k _ a e1 q
      simp only [CellRep] at cr
      obtain ⟨c0, dx, vs, c1, c2, c3⟩ := cr
      have hlen := c3.len
      have hfl : ((T.fn c').zip vs).length < 1000 := by rw [List.length_zip]; omega
      have hix : i < (T.fn c').length := (List.getElem?_eq_some_iff.mp (slotOf_ok F.ix)).1
      refine ⟨a, T.cl c', dx, _, rfl, c1, F.cls, F.no, hfl, ?_⟩
      by_cases hi : i < fs.length
      · simp only [if_pos hi] at p2
        rw [zip_set F.ix (by omega)]
        obtain ⟨h1, h2⟩ := hd2.write (o := .ins (T.cl c') dx ((T.fn c').zip (vs.set i y))) (c' := .ins c' (fs.set i v)) e1 q c0 (by
          simp only [CellRep]
          exact ⟨c0, dx, _, upd_same, by rw [List.length_set]; exact c2, reps_set i c3 r1'⟩)
        exact p2 G2 _ σ h2 h1 hE2
      · by_cases hi2 : i = fs.length
        · simp only [if_neg hi, if_pos hi2] at p2
          rw [zip_put F.ix (by omega)]
          obtain ⟨h1, h2⟩ := hd2.write (o := .ins (T.cl c') dx ((T.fn c').zip (vs ++ [y]))) (c' := .ins c' (fs ++ [v])) e1 q c0 (by
            simp only [CellRep]
            exact ⟨c0, dx, _, upd_same, by rw [List.length_append]; simp; omega, reps_snoc c3 r1'⟩)
          exact p2 G2 _ σ h2 h1 hE2
        · simp only [if_neg hi, if_neg hi2] at p2; exact p2.elim
    · simp only [if_neg hc] at p2; exact p2.elim
end
end Ev

set_option Elab.async false
set_option linter.all false
set_option maxRecDepth 100000
set_option maxHeartbeats 4000000
/-! EvIc: exceptions: what an except suite knows of the one it holds; classes whose __init__ keeps fields. -/
namespace Ev
open PySem PySem.Spec PyProof.Rows L2

/-! ### data that know of no handled exception -/
mutual
def nxD : D → Bool
  | .exn _ _ => false
  | .lst xs => nxDs xs
  | .tup xs => nxDs xs
  | .dct _ vs => nxDs vs
  | .obj _ fs => nxDs fs
  | .non => true
  | .bl _ => true
  | .int _ => true
  | .str _ => true
  | .scr _ => true
  | .ref _ => true
def nxDs : List D → Bool
  | [] => true
  | d :: ds => nxD d && nxDs ds
end
def nxC : Cell → Bool
  | .lst xs => nxDs xs
  | .frz xs => nxDs xs
  | .dct _ xs => nxDs xs
  | .ins _ xs => nxDs xs
  | .fro _ xs => nxDs xs
def nxO : Option D → Bool
  | some d => nxD d
  | none => true
def nxE (env : Envd) : Bool := env.all nxO
def nxS (S : Store) : Bool := S.all nxC
/-- the suite's kit -/
abbrev Kit.at (T : Kit) (a : Addr) (cls : Value) (d : Option Addr) : Kit := { T with x := some (a, cls, d) }
section
variable {T : Kit} {G : Gh} {S : Store} {H : Hp} {a : Addr} {cls : Value} {dx : Option Addr}
mutual
theorem rep_x (h0 : T.x = none) : ∀ {d : D} {v : V}, Rep T G d v → Rep (T.at a cls dx) G d v
  | .non, v, h => by simpa only [Rep] using h
  | .bl b, v, h => by simpa only [Rep] using h
  | .int i, v, h => by simpa only [Rep] using h
  | .str s, v, h => by simpa only [Rep] using h
  | .scr xs, v, h => by simpa only [Rep] using h
  | .lst ds, v, h => by
    simp only [Rep] at h ⊢
    obtain ⟨a, vs, e, q, r⟩ := h
    exact ⟨a, vs, e, q, reps_x h0 r⟩
  | .tup ds, v, h => by
    simp only [Rep] at h ⊢
    obtain ⟨a, vs, e, q, r⟩ := h
    exact ⟨a, vs, e, q, reps_x h0 r⟩
  | .dct ks ds, v, h => by
    simp only [Rep] at h ⊢
    obtain ⟨a, vs, e, q, z, r⟩ := h
    exact ⟨a, vs, e, q, z, reps_x h0 r⟩
  | .obj c ds, v, h => by
    simp only [Rep] at h ⊢
    obtain ⟨a, dx, vs, e, q, z, r⟩ := h
    exact ⟨a, dx, vs, e, q, z, reps_x h0 r⟩
  | .ref k, v, h => by simpa only [Rep] using h
  | .exn c ds, v, h => by
    simp only [Rep] at h
    obtain ⟨a', c', d', e, _⟩ := h
    rw [h0] at e; cases e
theorem reps_x (h0 : T.x = none) : ∀ {ds : List D} {vs : List V}, Reps T G ds vs → Reps (T.at a cls dx) G ds vs
  | [], vs, h => by simpa only [Reps] using h
  | d :: ds, vs, h => by
    simp only [Reps] at h ⊢
    obtain ⟨v, r, e, q, z⟩ := h
    exact ⟨v, r, e, rep_x h0 q, reps_x h0 z⟩
end
mutual
theorem rep_un : ∀ {d : D} {v : V}, nxD d = true → Rep (T.at a cls dx) G d v → Rep T G d v
  | .non, v, _, h => by simpa only [Rep] using h
  | .bl b, v, _, h => by simpa only [Rep] using h
  | .int i, v, _, h => by simpa only [Rep] using h
  | .str s, v, _, h => by simpa only [Rep] using h
  | .scr xs, v, _, h => by simpa only [Rep] using h
  | .lst ds, v, n, h => by
    simp only [Rep, nxD] at h n ⊢
    obtain ⟨a, vs, e, q, r⟩ := h
    exact ⟨a, vs, e, q, reps_un n r⟩
  | .tup ds, v, n, h => by
    simp only [Rep, nxD] at h n ⊢
    obtain ⟨a, vs, e, q, r⟩ := h
    exact ⟨a, vs, e, q, reps_un n r⟩
  | .dct ks ds, v, n, h => by
    simp only [Rep, nxD] at h n ⊢
    obtain ⟨a, vs, e, q, z, r⟩ := h
    exact ⟨a, vs, e, q, z, reps_un n r⟩
  | .obj c ds, v, n, h => by
    simp only [Rep, nxD] at h n ⊢
    obtain ⟨a, dx, vs, e, q, z, r⟩ := h
    exact ⟨a, dx, vs, e, q, z, reps_un n r⟩
  | .ref k, v, _, h => by simpa only [Rep] using h
  | .exn c ds, v, n, h => by simp only [nxD] at n; cases n
theorem reps_un : ∀ {ds : List D} {vs : List V}, nxDs ds = true → Reps (T.at a cls dx) G ds vs → Reps T G ds vs
  | [], vs, _, h => by simpa only [Reps] using h
  | d :: ds, vs, n, h => by
    simp only [nxDs, Bool.and_eq_true] at n
    simp only [Reps] at h ⊢
    obtain ⟨v, r, e, q, z⟩ := h
    exact ⟨v, r, e, rep_un n.1 q, reps_un n.2 z⟩
end
theorem cellRep_x (h0 : T.x = none) {p : Addr} {c : Cell} (h : CellRep T G p H c) : CellRep (T.at a cls dx) G p H c := by
  cases c <;> simp only [CellRep] at h ⊢
  · obtain ⟨z, vs, e, r⟩ := h; exact ⟨z, vs, e, reps_x h0 r⟩
  · obtain ⟨vs, e, r⟩ := h; exact ⟨vs, e, reps_x h0 r⟩
  · obtain ⟨z, vs, e, y, r⟩ := h; exact ⟨z, vs, e, y, reps_x h0 r⟩
  · obtain ⟨z, dx, vs, e, y, r⟩ := h; exact ⟨z, dx, vs, e, y, reps_x h0 r⟩
  · obtain ⟨dx, vs, e, y, r⟩ := h; exact ⟨dx, vs, e, y, reps_x h0 r⟩
theorem cellRep_un {p : Addr} {c : Cell} (n : nxC c = true) (h : CellRep (T.at a cls dx) G p H c) : CellRep T G p H c := by
  cases c <;> simp only [CellRep, nxC] at h n ⊢
  · obtain ⟨z, vs, e, r⟩ := h; exact ⟨z, vs, e, reps_un n r⟩
  · obtain ⟨vs, e, r⟩ := h; exact ⟨vs, e, reps_un n r⟩
  · obtain ⟨z, vs, e, y, r⟩ := h; exact ⟨z, vs, e, y, reps_un n r⟩
  · obtain ⟨z, dx, vs, e, y, r⟩ := h; exact ⟨z, dx, vs, e, y, reps_un n r⟩
  · obtain ⟨dx, vs, e, y, r⟩ := h; exact ⟨dx, vs, e, y, reps_un n r⟩
theorem held_x (h0 : T.x = none) (h : Held T G S H) : Held (T.at a cls dx) G S H := ⟨h.ext, h.len, h.nd, fun k c p e1 e2 => cellRep_x h0 (h.cell k c p e1 e2)⟩
theorem held_un (n : nxS S = true) (h : Held (T.at a cls dx) G S H) : Held T G S H := ⟨h.ext, h.len, h.nd, fun k c p e1 e2 => cellRep_un (List.all_eq_true.mp n c (List.mem_of_getElem? e1)) (h.cell k c p e1 e2)⟩
theorem envRep_x (h0 : T.x = none) {env : Envd} {σ : L2.St} (h : EnvRep T G env σ) : EnvRep (T.at a cls dx) G env σ := ⟨h.len, fun i d e => by
  obtain ⟨v, h1, h2⟩ := h.get i d e
  exact ⟨v, h1, rep_x h0 h2⟩⟩
theorem envRep_un {env : Envd} {σ : L2.St} (n : nxE env = true) (h : EnvRep (T.at a cls dx) G env σ) : EnvRep T G env σ := ⟨h.len, fun i d e => by
  obtain ⟨v, h1, h2⟩ := h.get i d e
  exact ⟨v, h1, rep_un (show nxO (some d) = true from List.all_eq_true.mp n _ (List.mem_of_getElem? e)) h2⟩⟩
end

/-! ### isinstance of it, its fields -/
/-- class c lies under class ch: 0 is the base of all -/
def subX (c ch : Nat) : Bool := c == ch || ch == 0
def dIsX (xcs : List Nat) (ch : Nat) (d : D) : M D := fun S => match d with
  | .exn c _ => if c ∈ xcs then .ok (.bl (subX c ch)) S else .stuck
  | _ => .stuck
def dXf (c i : Nat) (d : D) : M D := fun S => match d with
  | .exn c' fs => if c' = c then match fs[i]? with
      | some v => .ok v S
      | none => .stuck
    else .stuck
  | _ => .stuck
/-- an exception's class, as a suite sees it -/
structure XcOk (K : PySem.W.Frag) (T : Kit) (c : Nat) : Prop where
  isE : L2.ExcC K (T.cl c)
  xf : XfC K (T.cl c)
  no : ∀ f ∈ T.fn c, PySem.W.findIn K (.ref (T.cl c)) f = some none
section
open PySem.W
variable {prog : Program} {w : World} {A : PySem.Around} {E : Value → Shared → Prop} {s : Shared} {K : Frag} {x D : Addr} {ox : Obj} {od : Option Obj}
theorem findObj_dataO {C : Addr} {name : Str} {a g : Value} (hc : (clsIn K C).isSome = true) (ha : findIn K (.ref C) name = some (some a)) (hg : specialIn K a "__get__" = some (some g)) (ht : takesIn K a = some true) : findObj K C od name = some (.bind g a) := by
  obtain ⟨cd, hc⟩ := Option.isSome_iff_exists.mp hc
  unfold findObj
  rw [hc, Option.bind_some, ha, Option.bind_some]
  simp [hg, ht]
theorem kin_classO {Q : Option Value → Shared → Prop} (hga : findIn K (.ref D) "__getattribute__" = some (some (.builtin "BaseException.__getattribute__"))) (hgt : findIn K (.ref D) "__getattr__" = some none) (hsub : subIn K (.ref D) (.type "BaseException") = some true)
    (hdct : hasDictIn K D = true) (ha : findIn K (.ref D) "__class__" = some (some (.builtin "object.__class__")))
    (hn : specialIn K (.builtin "object.__class__") "__get__" = some (some (.builtin "getset_descriptor.__get__"))) (htk : takesIn K (.builtin "object.__class__") = some true) (hm : mroIn K D (.type "object") = some true)
    (X : K.In s.heap) (I : InstAt s.heap x ox D od) (h : Q (some (.ref D)) { s with toks := s.toks + 1 }) : wpAny (model prog w) A (getAttr? (.ref x) "__class__") Q E s := by
  have hf : findObj K D od "__class__" = some (.bind (.builtin "getset_descriptor.__get__") (.builtin "object.__class__")) := findObj_dataO (by obtain ⟨cd, hc, _⟩ := any_some hdct; rw [hc]; rfl) ha hn htk
  obtain ⟨hp, g, d, t, os⟩ := s
  have L0 := I.type (M := model prog w)
  have L1 := looks_findIn (M := model prog w) X hga
  have L2 := looks_findIn (M := model prog w) X hgt
  have L3 := looks_find (M := model prog w) X I hf
  have sub : Looks (model prog w) hp (isInstance (.ref x) (.type "BaseException")) true := L0.andThen (looks_subIn X hsub)
  have hx0 : (false && onTheHeap (Value.builtin "BaseException.__getattribute__")) = false := rfl
  have hx2 : (Value.builtin "BaseException.__getattribute__" == Value.builtin "object.__getattribute__") = false := by decide +kernel
  have hx1 : (onTheHeap (Value.ref D) && Value.builtin "BaseException.__getattribute__" == Value.builtin "object.__getattribute__") = false := by rw [hx2]; rfl
  unfold getAttr? getAttrBy? getAttrBy
  refine wpAny_bind (wpAny_mkText (wpAny_bind (wpAny_attempt (wpAny_holding (wpAny_bind (L0.at (wpAny_bind (L1.at ?_))))))))
  show wpAny _ _ (if (onTheHeap (Value.ref D) && Value.builtin "BaseException.__getattribute__" == Value.builtin "object.__getattribute__") = true then _ else _) _ _ _
  rw [hx1, if_neg Bool.false_ne_true]
  unfold getAttrByItsOwn hookBefore
  refine wpAny_bind ?_
  rw [if_pos (show onTheHeap (Value.ref D) = true from rfl)]
  refine L2.at ?_
  refine wpAny_bind (wpAny_attempt (wpAny_holding ?_))
  unfold callGetattribute
  rw [hx0, if_neg Bool.false_ne_true]
  unfold boundAndCalled
  rw [PySem.F.excAttr_ValueError.ga.bind (.ref x)]
  refine wpAny_bind (wpAny_pure ?_)
  show wpAny _ _ (call (.builtin "BaseException.__getattribute__") [.ref x, .str "__class__" t]) _ _ _
  refine wpAny_call (codeAny_call_builtin PySem.F.excAttr_ValueError.ga.plain PySem.F.entry_bexc_ga ?_)
  refine @check_slot (model prog w) _ _ ⟨hp, g, d, t + 1, os⟩ "BaseException.__getattribute__" "BaseException" "__getattribute__" (.ref x) [.str "__class__" t] [] _ (by decide +kernel) (by decide +kernel) sub (PySem.F.args_bexc_ga (.ref x) (.str "__class__" t)) ?_
  unfold Builtin.«object.__getattribute__»
  refine wpAny_bind (wpAny_of_eq (a := ((Value.ref x : Value), [Value.str "__class__" t])) (by first | rfl | (simp only [slotArgs]; rfl)) ?_)
  refine wpAny_bind (wpAny_pure (wpAny_bind (L0.at (wpAny_bind (L3.at ?_)))))
  show wpAny _ _ (holding [Value.builtin "object.__class__"] (call (.builtin "getset_descriptor.__get__") [.builtin "object.__class__", .ref x, .ref D]) >>= PySem.ret) _ _ _
  refine wpAny_bind (wpAny_holding (wpAny_call (class_get (s := ⟨hp, g, d, t + 1, os⟩) (ox := ox) (od := od) X I hm ?_)))
  refine wpAny_pure ?_
  show wpAny _ _ (handedOut (.ref D)) _ _ _
  rw [handedOut_of (v := .ref D) rfl]
  first
    | exact wpAny_pure (wpAny_pure h)
    | exact wpAny_pure h
    | exact wpAny_pure (wpAny_bind (wpAny_pure (wpAny_pure h)))
theorem kitx_excO (hga : findIn K (.ref D) "__getattribute__" = some (some (.builtin "BaseException.__getattribute__"))) (hgt : findIn K (.ref D) "__getattr__" = some none) (hsub : subIn K (.ref D) (.type "BaseException") = some true) (hdct : hasDictIn K D = true) (ha : findIn K (.ref D) "__class__" = some (some (.builtin "object.__class__")))
    (hn : specialIn K (.builtin "object.__class__") "__get__" = some (some (.builtin "getset_descriptor.__get__"))) (htk : takesIn K (.builtin "object.__class__") = some true) (hm : mroIn K D (.type "object") = some true) :
    KitX K (.ref x) (.ref D) (fun h => ∃ od, InstAt h x ox D od) where
  ty := fun _ _ _ ⟨od, I⟩ => I.type
  it := fun _ _ X _ => by
    obtain ⟨cdD, hcD, _⟩ := any_some hdct
    unfold clsIn at hcD
    split at hcD
    · rename_i c' d' cd' sl' ho
      intro A' Q' E' s' k q
      unfold isType loadHead
      exact wpAny_bind (wpAny_loadPart (k _ _ (X _ _ ho)) (wpAny_pure q))
    · cases hcD
  ne := fun h tp dd its n sl X htp => by
    obtain ⟨cdD, hcD, _⟩ := any_some hdct
    refine Bool.eq_false_iff.mpr fun q => ?_
    have e : D = tp := Value.ref.inj (beq_iff_eq.mp q)
    subst e
    unfold clsIn at hcD
    split at hcD
    · rename_i c' d' cd' sl' ho
      have z := (X _ _ ho).symm.trans htp
      cases z
    · cases hcD
  ca := fun X ⟨od, I⟩ k => kin_classO hga hgt hsub hdct ha hn htk hm X I k
end
/-- isinstance(e, c), e the exception that the suite holds, its dict standing -/
theorem call_isX {X : Cx} {a D : Addr} {oe : Obj} {d : Option Addr} {pn : List (Addr × Obj)} (C : L2.ExcC X.K D) (hz : Zc (.ref D) d oe) (hf : ∃ vs, oe.data = .fields vs) : CallR (X.suite a ((a, oe) :: pn)) (.builtin "isinstance")
    (fun xs H Q => ∃ (c : V) (cv : Value) (b : Bool), xs = [.ref a, c] ∧ (∀ u, RelV c u → u = cv) ∧ PySem.W.kitOne X.K (.ref D) cv = some b ∧ (d = none ∨ ∃ dd fs, d = some dd ∧ H dd = some (.xd fs)) ∧ Q (.bl b) H) := by
  intro pins s σ H xs us Q I r h
  obtain ⟨c, cv, b, rfl, hcv, e, hdd, q⟩ := h
  cases r with
  | cons rx rr =>
    cases rr with
    | cons rt rr =>
      cases rr
      cases rx
      have ec := hcv _ rt
      subst ec
      obtain ⟨hget, _⟩ := I.pin (a, oe) (List.mem_append.mpr (.inl List.mem_cons_self))
      obtain ⟨vs, hv⟩ := hf
      have J : ∃ od, PySem.W.InstAt s.heap a oe D od := by
        obtain ⟨oc, od, oda, osl⟩ := oe
        obtain ⟨h1, h2⟩ := hz
        dsimp only at h1 h2 hv
        subst h1 h2 hv
        rcases hdd with rfl | ⟨dd, fs, rfl, hdd⟩
        · exact ⟨none, hget, rfl, rfl, trivial⟩
        · have hx : ObjOk X.prog X.w H s.heap dd (.xd fs) := I.hok dd _ hdd
          obtain ⟨mA, hns, hr⟩ := hx
          obtain ⟨od, ho, hl⟩ := lookIn_ns hns
          exact ⟨some od, hget, rfl, rfl, ho⟩
      exact PySem.W.kia_one (H := fun h => ∃ od, PySem.W.InstAt h a oe D od) (kitx_excO C.hg C.hk C.hs C.hd C.ha C.hn C.ht C.hm) I.kIn J e (fun z => nomatch z) fun tk => ⟨.bl b, H, I.kept (t' := tk) fun _ _ z => z, rfl, q⟩
section
variable {T : Kit} {X : Cx} {W : WX} {pos : Pos} {e : Expr} {fe : Envd → M D}
theorem exn_rep {G : Gh} {S : Store} {H : Hp} {c : Nat} {ds : List D} {v : V} {a : Addr} {cls : Value} {dx : Option Addr} (hH : Held (T.at a cls dx) G S H) (r : Rep (T.at a cls dx) G (.exn c ds) v) :
    v = .ref a ∧ cls = .ref (T.cl c) ∧ ((ds = [] ∧ dx = none) ∨ (∃ d vs, dx = some d ∧ H d = some (.xd ((T.fn c).zip vs)) ∧ vs.length = (T.fn c).length ∧ Reps (T.at a cls dx) G ds vs)) := by
  simp only [Rep] at r
  obtain ⟨a', cls', dx', e1, rfl, e2, h⟩ := r
  cases e1
  refine ⟨rfl, e2, ?_⟩
  rcases h with h | ⟨_, d, vs, k1, k2, k3, k4⟩
  · exact .inl h
  · exact .inr ⟨d, vs, k1, hH.ext _ _ k2, k3, k4⟩
theorem ve_isx {a : Addr} {oe : Obj} {cls : Value} {dx : Option Addr} {pn : List (Addr × Obj)} {xcs : List Nat} {ch : Nat} {x : Str} {p q : Pos} (hx : ∀ c ∈ xcs, XcOk X.K T c) (hk : ∀ c ∈ xcs, PySem.W.kitOne X.K (.ref (T.cl c)) (.ref (T.cl ch)) = some (subX c ch))
    (hz : Zc cls dx oe) (hf : ∃ vs, oe.data = .fields vs) (hg : Gl X "isinstance") (hm : X.mg "isinstance" = none) (gx : Gl X x) (mx : X.mg x = some (.ref (T.cl ch))) (nd : (x == ("__debug__" : Str)) = false)
    (he : VE (T.at a cls dx) (X.suite a ((a, oe) :: pn)) W e fe) (hs : noStar [e] = true) : VE (T.at a cls dx) (X.suite a ((a, oe) :: pn)) W (.Call (.Name "isinstance" p) [e, .Name x q] [] pos) (fun env => bnd (fe env) (dIsX xcs ch)) := by
  by_cases hc : ∃ c ∈ xcs, cls = .ref (T.cl c)
  · obtain ⟨c, hc, rfl⟩ := hc
    refine (pe_callB (X := X.suite a ((a, oe) :: pn)) (call_isX (hx c hc).isE hz hf) hg hm PyProof.Rows.boot_isinstance (pa_cons he (pa_cons (pe_glob (v := .ref (T.cl ch)) (X := X.suite a ((a, oe) :: pn)) gx mx rfl nd) pa_nil) (by cases e <;> first | rfl | (simp only [noStar] at hs; cases hs))) (by decide) (by decide) (by cases e <;> first | rfl | (simp only [noStar] at hs; cases hs)) rfl).imp fun σ H Q ⟨G, S, env, hE, hH, p⟩ => ?_
    refine ⟨G, S, env, hE, hH, (p.bnd (rel := Rep (T.at a (.ref (T.cl c)) dx))).mono fun G1 S1 d y H1 st1 hd1 r1 p1 => ?_⟩
    unfold dIsX at p1
    split at p1
    · rename_i c' fs
      split at p1
      · rename_i hc'
        obtain ⟨rfl, e2, e3⟩ := exn_rep hd1 r1
        have e4 : (Value.ref (T.cl c)) = .ref (T.cl c') := e2
        refine ⟨.ref (T.cl ch), .ref (T.cl ch), subX c' ch, rfl, fun u r => r, by rw [e4]; exact hk c' hc', ?_, p1.ok hd1 (by simp only [Rep])⟩
        rcases e3 with ⟨_, h⟩ | ⟨dd, vs, h1, h2, _⟩
        · exact .inl h
        · exact .inr ⟨dd, _, h1, h2⟩
      · exact p1.elim
    · exact p1.elim
  · refine (pe_callB (X := X.suite a ((a, oe) :: pn)) (r := fun xs H Q => False) (fun pins s σ H xs us Q I r h => h.elim) hg hm PyProof.Rows.boot_isinstance (pa_cons he (pa_cons (pe_glob (v := .ref (T.cl ch)) (X := X.suite a ((a, oe) :: pn)) gx mx rfl nd) pa_nil) (by cases e <;> first | rfl | (simp only [noStar] at hs; cases hs))) (by decide) (by decide) (by cases e <;> first | rfl | (simp only [noStar] at hs; cases hs)) rfl).imp fun σ H Q ⟨G, S, env, hE, hH, p⟩ => ?_
    refine ⟨G, S, env, hE, hH, (p.bnd (rel := Rep (T.at a cls dx))).mono fun G1 S1 d y H1 st1 hd1 r1 p1 => ?_⟩
    unfold dIsX at p1
    split at p1
    · rename_i c' fs
      split at p1
      · rename_i hc'
        obtain ⟨_, e2, _⟩ := exn_rep hd1 r1
        exact hc ⟨c', hc', e2⟩
      · exact p1.elim
    · exact p1.elim
theorem ve_xf {a : Addr} {oe : Obj} {cls : Value} {dx : Option Addr} {pn : List (Addr × Obj)} {c i : Nat} {n : Str} (hx : XcOk X.K T c) (hi : slotOf n (T.fn c) = some i) (hz : Zc cls dx oe) (hf : ∃ vs, oe.data = .fields vs)
    (he : VE (T.at a cls dx) (X.suite a ((a, oe) :: pn)) W e fe) (hb : plainO e = true) : VE (T.at a cls dx) (X.suite a ((a, oe) :: pn)) W (.Attribute e n pos) (fun env => bnd (fe env) (dXf c i)) := by
  refine (pe_xf hx.xf (hx.no n (List.mem_of_getElem? (slotOf_ok hi))) hz hf he (base_of (X := X.suite a ((a, oe) :: pn)) hb)).imp fun σ H Q ⟨G, S, env, hE, hH, p⟩ => ?_
  refine ⟨G, S, env, hE, hH, (p.bnd (rel := Rep (T.at a cls dx))).mono fun G1 S1 d y H1 st1 hd1 r1 p1 => ?_⟩
  unfold dXf at p1
  split at p1
  · rename_i c' fs
    split at p1
    · rename_i hc'
      subst hc'
      obtain ⟨rfl, e2, e3⟩ := exn_rep hd1 r1
      split at p1
      · rename_i v hv
        rcases e3 with ⟨h, _⟩ | ⟨dd, vs, h1, h2, h3, h4⟩
        · rw [h] at hv; simp at hv
        · obtain ⟨w, k1, k2⟩ := reps_get h4 hv
          exact ⟨rfl, e2, dd, _, w, h1, h2, zip_look hi k1, p1.ok hd1 k2⟩
      · exact p1.elim
    · exact p1.elim
  · exact p1.elim
end

/-! ### classes whose __init__ keeps its arguments -/
/-- the promise of such an __init__ -/
def spX (T : Kit) (c : Nat) : Sp := fun vs H Q _ => ∃ a ws, vs = .ref a :: ws ∧ ws.length = (T.fn c).length ∧ H a = some (exo a (T.cl c) none) ∧
  ∀ d, H d = none → d ≠ a → Q .non (upd (upd H d (exd d ((T.fn c).zip ws.reverse))) a (exo a (T.cl c) (some d)))
/-- EvenError.__init__ read off the class at C0 -/
structure EInit (K : PySem.W.Frag) (C0 : Addr) : Prop where
  rd : PySem.W.readsIn K C0 (.type "type") = true
  ga : PySem.W.specialIn K (.ref C0) "__getattribute__" = some (some (.builtin "type.__getattribute__"))
  at_ : PySem.W.findCls K (.ref C0) (.type "type") "__init__" = some (.val (.builtin "ValueError.__init__"))
theorem pe_einit {X : Cx} {B : Str} {C0 : Addr} {e : Expr} {es : List Expr} {ta : TA} {p1 p2 pos : Pos} {pl : Sem Bool} (hg : Gl X B) (hm : X.mg B = some (.ref C0)) (hd : (B == ("__debug__" : Str)) = false) (V : EInit X.K C0) (ha : PA X (e :: es) ta)
    (hc : eval (.Call (.Attribute (.Name B p1) "__init__" p2) (e :: es) [] pos) X.env = (do
      let ov ← eval (.Name B p1) X.env
      standAt p2.atName
      let (f, first) ← holding [ov] (getMethod ov "__init__" pl)
      callWith pos f first (backTo pos (starEach (e :: es) X.env)) (backToKw pos (keywordEach [] X.env))))
    (he : starEach (e :: es) X.env = (false, eval e X.env) :: starEach es X.env) (hpl : (backTo pos (starEach es X.env)).any (·.1) = false) :
    PE X (.Call (.Attribute (.Name B p1) "__init__" p2) (e :: es) [] pos) (tVeI X.K ta) := by
  refine ⟨fun pins s σ H Q I h => ?_⟩
  refine PySem.W.methodCall_KW (ld_glob I hg hm ?_ hd) hc
  refine PySem.W.method_cls I.kIn V.ga ?_
  refine PySem.W.cls_value I.kIn V.rd V.at_ rfl ?_
  show wpAny _ _ (callWith pos (Value.builtin "ValueError.__init__") [] (backTo pos (starEach (e :: es) X.env)) []) _ _ _
  refine PyProof.Rows.callWith_method1 (thn (ha.run pos pins _ σ H _ (I.tok _) h) fun us s1 ⟨vs, H1, I1, r1, a, C, ws, ev, hl, T, ea, q⟩ => ?_) he hpl
  subst ev
  cases r1 with
  | @cons _ u0 _ ur ra rw' =>
    obtain rfl : u0 = Value.ref a := ra
    have hlen : ur.length ≤ sizeLine := by
      rw [← Paired.length rw', sizeLine_eq]
      omega
    exact oinit_ok T I1 ea hlen fun s' J => ⟨.non, H1, J, rfl, q⟩
/-- def __init__(self, f): B.__init__(self, '..'); self.f = f -/
def xinit1 (sf f : Str) : List Stmt → Option Str
  | [.Expr (.Call (.Attribute (.Name B _) m ap) [.Name s0 _, .Constant (.str _) _ _] [] cp) _, .Assign [.Attribute (.Name s1 _) f1 _] (.Name g1 _) _] =>
    if (ap.endLine == cp.line) = true ∧ m = ("__init__" : Str) ∧ s0 = sf ∧ s1 = sf ∧ f1 = f ∧ g1 = f then some B else none
  | _ => none
/-- .. two fields -/
def xinit2 (sf f g : Str) : List Stmt → Option Str
  | [.Expr (.Call (.Attribute (.Name B _) m ap) [.Name s0 _, .Constant (.str _) _ _] [] cp) _, .Assign [.Attribute (.Name s1 _) f1 _] (.Name g1 _) _, .Assign [.Attribute (.Name s2 _) f2 _] (.Name g2 _) _] =>
    if (ap.endLine == cp.line) = true ∧ m = ("__init__" : Str) ∧ s0 = sf ∧ s1 = sf ∧ f1 = f ∧ g1 = f ∧ s2 = sf ∧ f2 = g ∧ g2 = g then some B else none
  | _ => none
def okN (sc : Scope) (x : Str) : Bool := !(x == ("__debug__" : Str)) && !(x == ("__classdict__" : Str)) && (match sc.names.lookup x with
  | some .local => true
  | _ => false)
theorem okN_ok {sc : Scope} {x : Str} (h : okN sc x = true) : (x == ("__debug__" : Str)) = false ∧ (x == ("__classdict__" : Str)) = false ∧ Vis sc x := by
  unfold okN at h
  simp only [Bool.and_eq_true, Bool.not_eq_true'] at h
  refine ⟨h.1.1, h.1.2, ?_⟩
  obtain ⟨_, h⟩ := h
  unfold Vis
  split at h <;> simp_all
section
variable {P : Program} {w : World} {K : PySem.W.Frag} {mg : Str → Option Value} {base : Heap} {T : Kit} {k : Nat}
theorem upd_sw {H : Hp} {a d : Addr} {o u : HO} (h : d ≠ a) : upd (upd H a o) d u = upd (upd H d u) a o := by
  funext b
  by_cases h1 : b = a
  · subst h1
    rw [upd_ne (Ne.symm h), upd_same, upd_same]
  · by_cases h2 : b = d
    · subst h2
      rw [upd_same, upd_ne h1, upd_same]
    · rw [upd_ne h2, upd_ne h1, upd_ne h1, upd_ne h2]
theorem upd_tw {H : Hp} {a : Addr} {o u : HO} : upd (upd H a o) a u = upd H a u := by
  funext b
  by_cases h1 : b = a
  · subst h1
    rw [upd_same, upd_same]
  · rw [upd_ne h1, upd_ne h1, upd_ne h1]
theorem xinit1_ok {x qual sf f1 B : Str} {st : Stmt} {f C0 : Addr} {c : Nat} {fd : FuncData} (F : FunD K x qual (defArgs st) (defBody st) (defScope st) [] [] f fd) (Sc : FnScope [sf, f1] [sf, f1] (defScope st)) (hb : xinit1 sf f1 (defBody st) = some B)
    (hN : (okN (defScope st) sf && okN (defScope st) f1) = true) (gB : (defScope st).names.lookup B = some .globalImplicit) (dB : (B == ("__debug__" : Str)) = false) (mB : mg B = some (.ref C0)) (V : EInit K C0)
    (X : OexC K (T.cl c)) (no : PySem.W.findIn K (.ref (T.cl c)) f1 = some none) (hf : T.fn c = [f1]) : FnOk P w K mg base (L2.CX P w) (k + 1) f fd [sf, f1] (spX T c) := by
  rw [Bool.and_eq_true] at hN
  obtain ⟨s1, s2, s3⟩ := okN_ok hN.1
  obtain ⟨t1, t2, t3⟩ := okN_ok hN.2
  refine F.ok Sc (fun vs H Q E h => ?_) (fun cdv Ar outer s H vs Q E hr h => ?_)
  · obtain ⟨a, ws, rfl, h, _⟩ := h
    rw [hf] at h
    simp [h]
  · obtain ⟨a, ws, rfl, hl, ha, q⟩ := h
    rw [hf] at hl q
    obtain ⟨v, rfl⟩ : ∃ v, ws = [v] := by
      match ws, hl with
      | [v], _ => exact ⟨v, rfl⟩
    unfold xinit1 at hb
    split at hb
    · rename_i B' p1 m p2 s0 p3 msg j p4 p5 p6 s1' p7 f1' p8 g1' p9 p10 heq
      split at hb
      · rename_i e
        cases hb
        obtain ⟨hln, rfl, rfl, rfl, rfl, rfl⟩ := e
        rw [heq]
        refine ⟨_, pss_cons (ps_expr (pe_einit (C0 := C0) gB mB dB V (pa_cons (pe_var (i := 0) rfl s3 s1 s2) (pa_cons pe_str pa_nil)) (eval_mcall rfl rfl hln) rfl rfl) rfl)
          (pss_one (ps_ost (pe_var (i := 0) rfl s3 s1 s2) (pe_var (i := 1) rfl t3 t1 t2))), ?_⟩
        refine ⟨_, rfl, a, T.cl c, _, rfl, by simp, X, ha, ?_⟩
        refine ⟨v, rfl, _, rfl, a, T.cl c, rfl, X, no, .inl ⟨ha, fun dx hdx ne => ?_⟩⟩
        have q' := q dx hdx ne
        simpa using q'
      · cases hb
    · cases hb
theorem xinit2_ok {x qual sf f1 f2 B : Str} {st : Stmt} {f C0 : Addr} {c : Nat} {fd : FuncData} (F : FunD K x qual (defArgs st) (defBody st) (defScope st) [] [] f fd) (Sc : FnScope [sf, f1, f2] [sf, f1, f2] (defScope st)) (hb : xinit2 sf f1 f2 (defBody st) = some B)
    (hN : (okN (defScope st) sf && (okN (defScope st) f1 && okN (defScope st) f2)) = true) (gB : (defScope st).names.lookup B = some .globalImplicit) (dB : (B == ("__debug__" : Str)) = false) (mB : mg B = some (.ref C0)) (V : EInit K C0)
    (X : OexC K (T.cl c)) (no : PySem.W.findIn K (.ref (T.cl c)) f1 = some none) (no2 : PySem.W.findIn K (.ref (T.cl c)) f2 = some none) (hf : T.fn c = [f2, f1]) : FnOk P w K mg base (L2.CX P w) (k + 1) f fd [sf, f1, f2] (spX T c) := by
  rw [Bool.and_eq_true, Bool.and_eq_true] at hN
  obtain ⟨s1, s2, s3⟩ := okN_ok hN.1
  obtain ⟨t1, t2, t3⟩ := okN_ok hN.2.1
  obtain ⟨u1, u2, u3⟩ := okN_ok hN.2.2
  refine F.ok Sc (fun vs H Q E h => ?_) (fun cdv Ar outer s H vs Q E hr h => ?_)
  · obtain ⟨a, ws, rfl, h, _⟩ := h
    rw [hf] at h
    simp [h]
  · obtain ⟨a, ws, rfl, hl, ha, q⟩ := h
    rw [hf] at hl q
    obtain ⟨v, v2, rfl⟩ : ∃ v v2, ws = [v, v2] := by
      match ws, hl with
      | [v, v2], _ => exact ⟨v, v2, rfl⟩
    unfold xinit2 at hb
    split at hb
    · rename_i B' p1 m p2 s0 p3 msg j p4 p5 p6 s1' p7 f1' p8 g1' p9 p10 s2' p11 f2' p12 g2' p13 p14 heq
      split at hb
      · rename_i e
        cases hb
        obtain ⟨hln, rfl, rfl, rfl, rfl, rfl, rfl, rfl, rfl⟩ := e
        rw [heq]
        refine ⟨_, pss_cons (ps_expr (pe_einit (C0 := C0) gB mB dB V (pa_cons (pe_var (i := 0) rfl s3 s1 s2) (pa_cons pe_str pa_nil)) (eval_mcall rfl rfl hln) rfl rfl) rfl)
          (pss_cons (ps_ost (pe_var (i := 0) rfl s3 s1 s2) (pe_var (i := 1) rfl t3 t1 t2)) (pss_one (ps_ost (pe_var (i := 0) rfl s3 s1 s2) (pe_var (i := 2) rfl u3 u1 u2)))), ?_⟩
        refine ⟨_, rfl, a, T.cl c, _, rfl, by simp, X, ha, ?_⟩
        refine ⟨v, rfl, _, rfl, a, T.cl c, rfl, X, no, .inl ⟨ha, fun dx hdx ne => ?_⟩⟩
        refine ⟨v2, rfl, _, rfl, a, T.cl c, rfl, X, no2, .inr ⟨dx, _, upd_same, (upd_ne ne).trans upd_same, by simp, ?_⟩⟩
        have q' := q dx hdx ne
        rw [upd_sw ne.symm, upd_tw, ← upd_sw ne.symm]
        simpa using q'
      · cases hb
    · cases hb
end
/-- raise C(e, ..), its arguments in the fields, the last one first -/
def sRaiseF (c ar : Nat) (fa : Envd → M (List D)) : MS := fun env S => eB (fa env S) env fun ds S1 => if ds.length = ar ∧ 0 < ar ∧ ar ≤ 900 then .exc c ds.reverse env S1 else .stuck
/-- what is known of a class with fields that is raised -/
structure XMade (P : Program) (w : World) (K : PySem.W.Frag) (mg : Str → Option Value) (base : Heap) (T : Kit) (k : Nat) (x : Str) (c ar : Nat) : Prop where
  g : mg x = some (.ref (T.cl c))
  db : (x == ("__debug__" : Str)) = false
  len : (T.fn c).length = ar
  cx : OexC K (T.cl c)
  ex : ∃ fI fd ps j, j + 1 ≤ k ∧ PySem.W.findIn K (.ref (T.cl c)) "__init__" = some (some (.ref fI)) ∧ PySem.W.typeIn K (.ref fI) = some (.type "function") ∧ FnOk P w K mg base (L2.CX P w) j fI fd ps (spX T c) ∧ Binds K fd ps []
theorem vs_raisex {T : Kit} {X : Cx} {W : WX} {x : Str} {c ar k : Nat} {e : Expr} {es : List Expr} {fa : Envd → M (List D)} {p p3 pos : Pos} (hc : X.calm = true) (tk : Takes X W) (M : XMade X.prog X.w X.K X.mg X.base T k x c ar) (hr : Room k X.A) (hg : Gl X x)
    (ha : VA T X W (e :: es) fa) (hs : noStar (e :: es) = true) : VS T X W (.Raise (some (.Call (.Name x p) (e :: es) [] p3)) none pos) (sRaiseF c ar fa) := by
  obtain ⟨fI, fd, ps, j, hj, iC, tI, F1, hb⟩ := M.ex
  refine (ps_raise hc tk (pmk_oex (p := p) (pos := p3) M.cx iC tI F1 (hr.mono hj) hb (.nil) (fun pins σ H s e s' I z => (by
    obtain ⟨_, _, _, _, _, _, _, _, _, _, _, _, w⟩ := z
    exact w.elim)) hg M.g ha M.db (star_cons hs) (star_any (noStar_tail hs)))).imp fun D' σ H ⟨G, S, env, hE, hH, p⟩ => ?_
  refine ⟨G, S, env, hE, hH, (p.eB hE (rel := Reps T)).mono fun G1 S1 ds vs H1 st1 hd1 r1 p1 => ?_⟩
  have hl := r1.len
  have hm := M.len
  split at p1
  · rename_i h
    obtain ⟨h1, h2, h3⟩ := h
    refine ⟨by omega, fun a ha => ?_⟩
    refine ⟨a, vs ++ [], rfl, by simp; omega, upd_same, fun d hd ne => ⟨rfl, d, (T.fn c).zip vs.reverse, upd_same, ?_, ?_, ?_⟩⟩
    · rw [upd_ne ne, upd_same, List.append_nil]
    · rwa [upd_ne ne] at hd
    · rw [upd_ne ne] at hd
      rw [List.append_nil]
      have e : upd (del (upd (upd (upd H1 a (exo a (T.cl c) none)) d (exd d ((T.fn c).zip vs.reverse))) a (exo a (T.cl c) (some d))) a) d (.xd ((T.fn c).zip vs.reverse)) = upd H1 d (.xd ((T.fn c).zip vs.reverse)) := by
        funext b
        by_cases h1 : b = d
        · subst h1; rw [upd_same, upd_same]
        · rw [upd_ne h1, upd_ne h1]
          by_cases h2 : b = a
          · subst h2; rw [del_same, ha]
          · rw [del_ne h2, upd_ne h2, upd_ne h1, upd_ne h2]
      rw [e]
      obtain ⟨n1, n2⟩ := hd1.new (p := d) (o := .xd ((T.fn c).zip vs.reverse)) hd
      refine p1 _ _ σ _ _ n2 n1 (hE.le (st1.trans n2).le) ⟨rfl, .inr ⟨?_, d, vs.reverse, rfl, upd_same, by simp; omega, (reps_rev r1).le n2.le⟩⟩
      intro z
      rw [List.reverse_eq_nil_iff] at z
      rw [z] at h1
      have : 0 = ar := h1
      omega
  · exact p1.elim
end Ev

set_option Elab.async false
set_option linter.all false
set_option maxRecDepth 100000
set_option maxHeartbeats 4000000
/-! EvId: == and != of instances of own classes, by their own __eq__. -/
namespace Ev
open PySem PySem.Spec PyProof.Rows L2

structure EqAt (X : Cx) (T : Kit) (k : Nat) (c : Nat) (sem : List D → M D) : Prop where
  eq : ∃ f fd ps, PySem.W.findIn X.K (.ref (T.cl c)) "__eq__" = some (some (.ref f)) ∧ PySem.W.isFn X.K (.ref f) = true ∧ FnOk X.prog X.w X.K X.mg X.base (L2.CX X.prog X.w) k f fd ps (spOf T sem) ∧ Binds X.K fd ps []
  ne : PySem.W.findIn X.K (.ref (T.cl c)) "__ne__" = some (some (.builtin "object.__ne__"))
  ob : PySem.W.mroIn X.K (T.cl c) (.type "object") = some true
section
open PySem.W
variable {prog : Program} {w : World} {A : PySem.Around} {E : Value → Shared → Prop} {s : Shared} {K : Frag} {x C f L : Addr} {h₀ : Heap} {m : Str → Option Value} {ox : Obj} {od : Option Obj} {b tb : Value}
theorem ifBound_ne {M : Model} {args : List Value} {Q : Option Value → Shared → Prop} (X : K.In s.heap) (I : InstAt s.heap x ox C od) (hs : findIn K (.ref C) "__ne__" = some (some (.builtin "object.__ne__")))
    (h : wpAny M A (call (.builtin "object.__ne__") (.ref x :: args)) (fun v => Q (some v)) E s) : wpAny M A (callSpecialIfBound? (.ref x) "__ne__" args) Q E s := by
  simp only [callSpecialIfBound?, bindSpecialIfBound?]
  refine wpAny_holding (wpAny_bind (wpAny_bind (wpAny_bind (I.type.here ((looks_findIn X hs).here ?_)))))
  refine wpAny_bind (wpAny_askSetting (wpAny_ite ?_))
  have fin : wpAny M A (call (.builtin "object.__ne__") ([.ref x] ++ args) >>= fun v => pure (some v)) Q E s := wpAny_bind (wpAny_mono h (fun v s' h' => wpAny_pure h') fun _ _ h' => h')
  have bd : bindSpecial (.builtin "object.__ne__") (.ref x) = pure (.builtin "object.__ne__", [.ref x]) := PySem.F.cmp_object.ne.bind _
  split
  · rw [bd]; exact wpAny_bind (wpAny_pure (wpAny_pure fin))
  · rw [bd]; exact wpAny_tryCatch (wpAny_bind (wpAny_pure (wpAny_pure fin)))
theorem ne_K {Q : Value → Shared → Prop} (hu : A.units + 1 < cLine) (F : Fr h₀ L s.heap m) (X₀ : K.In h₀) (I : InstAt s.heap x ox C od) (hb : Looks (model prog w) s.heap (typeOf b) (.ref C)) 
    (hob : mroIn K C (.type "object") = some true) (hne : findIn K (.ref C) "__ne__" = some (some (.builtin "object.__ne__")))
    (hs : findIn K (.ref C) "__eq__" = some (some (.ref f))) (hf : isFn K (.ref f) = true) 
    (h : wpAny (model prog w) A.in1 (call (.ref f) [.ref x, b]) (fun v s' => ∃ r, v = .bool r ∧ Q (.bool (!r)) s') E s) : wpAny (model prog w) A (richCompare .NotEq (.ref x) b) Q E s := by
  have X := X₀.keeps F.keep
  have one : wpAny (model prog w) A (tryCompare (.ref x) "__ne__" b) (fun r s' => ∃ v, r = some v ∧ Q v s') E s := by
    unfold tryCompare
    refine wpAny_bind (ifBound_ne X I hne (wpAny_call (codeAny_call_builtin PySem.F.cmp_object.ne.plain PySem.F.cmpEntry_ne
      (check_slot PySem.F.cmpKind_ne PySem.F.cmpSplit_ne (I.type.andThen (looks_mroIn X hob)) (PySem.F.cmpArgs_ne _ _) ?_))))
    unfold Builtin.«object.__ne__»
    repeat (first
    | with_reducible refine wpAny_cRoomFor (by first | exact hu | omega) ?_
    | (refine wpAny_bind (m := callSpecialIfBound? (.ref x) (Str.ofString "__eq__") [b])
        (ifBound_K X I hs hf (wpAny_mono h (fun v s' hr => by
          obtain ⟨r, rfl, hq⟩ := hr
          repeat (first | exact ⟨_, rfl, hq⟩ | exact wpAny_pure ⟨_, rfl, hq⟩ | exact wpAny_truthy_bool ⟨_, rfl, hq⟩ | (refine wpAny_bind (m := truthy (.bool _)) (wpAny_truthy_bool ?_)) | wp_step)) fun _ _ e => e)))
    | wp_step)
  unfold richCompare
  simp only [oneThing_ref]
  refine wpAny_holding (wpAny_bind (wpAny_cRoomFor (by omega) ?_))
  refine wpAny_bind (I.type.here (wpAny_bind (hb.here ?_)))
  rw [show (Value.ref C != Value.ref C) = false from by simp]
  simp only [Bool.false_eq_true, if_false]
  refine wpAny_bind (wpAny_pure ?_)
  simp only [Bool.false_eq_true, if_false]
  refine wpAny_bind (wpAny_mono one (fun r s' z => ?_) fun _ _ e => e)
  obtain ⟨v, rfl, hq⟩ := z
  exact wpAny_pure hq
end
/-- both are instances of one class that has its own == -/
def rOwn (X : Cx) (T : Kit) (neg : Bool) : R2 := fun x y H Q => ∃ (c k : Nat) (sem : List D → M D) (a b : Addr) (dx dy : Addr) (fs gs : List (Str × V)), EqAt X T k c sem ∧ Room (k + 1) X.A ∧ x = .ref a ∧ y = .ref b ∧ H a = some (.ins (T.cl c) dx fs) ∧ H b = some (.ins (T.cl c) dy gs) ∧
  spOf T sem [.ref a, .ref b] H (fun v H' => ∃ r, v = .bl r ∧ Q (.bl (if neg then !r else r)) H') (fun _ _ _ => False)
section
variable {X : Cx} {T : Kit}
theorem own_run {A : PySem.Around} {pins : List (Addr × Obj)} {σ : L2.St} {H : Hp} {s : Shared} {k : Nat} {f a b : Addr} {fd : FuncData} {ps : List Str} {sp : Sp} {Q : VK} (I : Inv X pins σ H s) (hr : Room k A) (fr : A.frames = X.A.frames)
    (F : FnOk X.prog X.w X.K X.mg X.base (L2.CX X.prog X.w) k f fd ps sp) (hb : Binds X.K fd ps []) (h : sp [.ref a, .ref b] H (fun v H' => ∃ r, v = .bl r ∧ Q (.bl r) H') (fun _ _ _ => False)) :
    wpAny (model X.prog X.w) A (call (.ref f) [.ref a, .ref b]) (fun v s' => ∃ r, v = .bool r ∧ ∃ H', Inv X pins σ H' s' ∧ Q (.bl r) H') X.xe s := by
  have e0 : Env0 X.prog X.w X.K X.mg X.base A X.stack s H := by
    have e := I.env0
    exact ⟨by rw [fr]; exact e.frames, e.mod, e.bs, e.bsz, e.funs, e.frf, e.hok, e.bare⟩
  have hl := F.len _ _ _ _ h
  have r2 : Vals [V.ref a, V.ref b] [Value.ref a, Value.ref b] := .cons rfl (.cons rfl .nil)
  refine wpAny_call (codeAny_mono (F.run A X.stack s H ⟨[.ref a, .ref b], []⟩ [.ref a, .ref b] [.ref a, .ref b] _ _ hr e0 (by
    have := hb s [.ref a, .ref b] I.kIn (by simpa using hl)
    simpa using this) r2 h) fun r s' hq => ?_)
  cases r with
  | error e =>
    obtain ⟨_, _, _, _, _, _, _, _, _, _, _, _, w⟩ := hq
    exact w.elim
  | ok fl =>
    cases fl with
    | ret w =>
      obtain ⟨z, H', I', rz, r, ez, ex⟩ := I.after hq
      subst ez
      obtain rfl : w = Value.bool r := rz
      exact ⟨r, rfl, H', I', ex⟩
    | next => exact False.elim hq
    | brk => exact False.elim hq
    | cont => exact False.elim hq
theorem op_ownEq : OpR X (compareOp .Eq) (rOwn X T false) := by
  intro pins s σ H x y v u Q I rx ry hq
  obtain ⟨c, k, sem, a, b, dx, dy, fs, gs, F, hr, rfl, rfl, ha, hb, sp⟩ := hq
  obtain rfl : v = Value.ref a := rx
  obtain rfl : u = Value.ref b := ry
  obtain ⟨f, fd, ps, h1, h2, h3, h4⟩ := F.eq
  obtain ⟨mA, J, _⟩ := ins_get I.hok ha
  obtain ⟨mB, J', _⟩ := ins_get I.hok hb
  obtain ⟨od, J, _⟩ := J.look
  obtain ⟨od', J', _⟩ := J'.look
  obtain ⟨m, hF⟩ := I.fr
  show wpAny (model X.prog X.w) X.A (richCompare .Eq (.ref a) (.ref b)) (EP X pins σ Q) X.xe s
  refine PySem.W.cmp_K (op := .Eq) (tb := .ref (T.cl c)) (by have := hr.un; omega) hF I.ok.mod.kin J J'.type (by simp [PySem.W.notFirst]) h1 h2 ?_
  refine wpAny_mono (own_run I (hr.mono (Nat.le_succ _)) rfl h3 h4 sp) (fun v s' z => ?_) fun _ _ z => z
  obtain ⟨r, rfl, H', I', q⟩ := z
  exact ⟨.bl r, H', I', rfl, q⟩
theorem op_ownNe : OpR X (compareOp .NotEq) (rOwn X T true) := by
  intro pins s σ H x y v u Q I rx ry hq
  obtain ⟨c, k, sem, a, b, dx, dy, fs, gs, F, hr, rfl, rfl, ha, hb, sp⟩ := hq
  obtain rfl : v = Value.ref a := rx
  obtain rfl : u = Value.ref b := ry
  obtain ⟨f, fd, ps, h1, h2, h3, h4⟩ := F.eq
  obtain ⟨mA, J, _⟩ := ins_get I.hok ha
  obtain ⟨mB, J', _⟩ := ins_get I.hok hb
  obtain ⟨od, J, _⟩ := J.look
  obtain ⟨od', J', _⟩ := J'.look
  obtain ⟨m, hF⟩ := I.fr
  show wpAny (model X.prog X.w) X.A (richCompare .NotEq (.ref a) (.ref b)) (EP X pins σ Q) X.xe s
  refine ne_K (by have := hr.un; omega) hF I.ok.mod.kin J J'.type F.ob F.ne h1 h2 ?_
  refine wpAny_mono (own_run I hr.in1 rfl h3 h4 (Q := fun v H' => ∃ r, v = .bl r ∧ Q (.bl (!r)) H') ?_) (fun v s' z => ?_) fun _ _ z => z
  · obtain ⟨G, S, ds, g1, g2, p⟩ := sp
    refine ⟨G, S, ds, g1, g2, p.mono fun G1 S1 d v H1 st1 hd1 r1 p1 => ?_⟩
    obtain ⟨r, e, q⟩ := p1
    exact ⟨r, e, r, rfl, q⟩
  · obtain ⟨r, rfl, H', I', r', e, q⟩ := z
    cases e
    exact ⟨r, rfl, .bl (!r), H', I', rfl, q⟩
end
/-- == of what may be an instance -/
def dEqO (eqs : List (Nat × (List D → M D))) (neg : Bool) (d e : D) : M D := fun S => match insOf S d, insOf S e with
  | some (c, _), some (c', _) => if c = c' then match eqs.lookup c with
      | some f => bnd (bnd (nx (f [d, e])) asB) (fun r => ret (.bl (if neg then !r else r))) S
      | none => .stuck
    else .stuck
  | _, _ => dEq neg d e S
section
variable {T : Kit} {X : Cx}
theorem two_own {k : Nat} {neg : Bool} {eqs : List (Nat × (List D → M D))} {r : R2} (he : ∀ c f, eqs.lookup c = some f → ∃ j, j + 1 ≤ k ∧ EqAt X T j c f) (hr : Room k X.A) (hd : Two T (dEq neg) r) :
    Two T (dEqO eqs neg) (fun x y H Q => rOwn X T neg x y H Q ∨ r x y H Q) := fun W G S H d e x y Q hH r1 r2 p => by
  unfold dEqO at p
  split at p
  · rename_i c fs c' gs e1 e2
    split at p
    · rename_i hc
      subst hc
      split at p
      · rename_i f hf
        left
        obtain ⟨j, hj, F⟩ := he c f hf
        obtain ⟨a, dx, vs, rfl, q1, _⟩ := insOf_ok hH r1 e1
        obtain ⟨b, dy, ws, rfl, q2, _⟩ := insOf_ok hH r2 e2
        refine ⟨c, j, f, a, b, dx, dy, _, _, F, hr.mono hj, rfl, rfl, q1, q2, G, S, [d, e], hH, reps_cons r1 (reps_cons r2 reps_nil), ?_⟩
        have p1 := (p.bnd (rel := fun _ (a b : Bool) => b = a)).bnd (rel := Rep T)
        have p2 := nx_pv (W' := fun _ _ _ => False) (Q := fun v H' => ∃ r, v = .bl r ∧ Q (.bl (if neg then !r else r)) H') (p1.mono fun G1 S1 d1 v H1 st1 hd1 rv pv => ?_)
        · unfold Ev.nx at p2
          cases e3 : f [d, e] S with
          | ok a S' => rw [e3] at p2; exact p2
          | exc c fs S' => rw [e3] at p2; exact p2.elim
          | stuck => rw [e3] at p2; exact p2.elim
        · unfold asB at pv
          split at pv
          · rename_i bb
            simp only [Rep] at rv
            subst rv
            exact ⟨bb, rfl, (pv.ret (b := bb) hd1 rfl).ret hd1 (by simp only [Rep])⟩
          · exact pv.elim
      · exact p.elim
    · exact p.elim
  · exact .inr (hd _ _ _ _ _ _ _ _ _ hH r1 r2 p)
end
/-! ### isinstance of instances of own classes -/
structure OisAt (K : PySem.W.Frag) (T : Kit) (c : Nat) : Prop where
  cls : Cls K (T.cl c)
  ha : PySem.W.findIn K (.ref (T.cl c)) "__class__" = some (some (.builtin "object.__class__"))
  hn : PySem.W.specialIn K (.builtin "object.__class__") "__get__" = some (some (.builtin "getset_descriptor.__get__"))
  ht : PySem.W.takesIn K (.builtin "object.__class__") = some true
  hm : PySem.W.mroIn K (T.cl c) (.type "object") = some true
  tk : ∀ k : TK, PySem.W.kitOne K (.ref (T.cl c)) (.type k.name) = some false
def dIsO (c : Nat) (d : D) : M D := fun S => match insOf S d with
  | some (c', _) => if c' = c then .ok (.bl true) S else .stuck
  | none => .stuck
def dIsiO (iso : List Nat) (ks : List TK) (d : D) : M D := fun S => match insOf S d with
  | some (c, _) => if c ∈ iso then .ok (.bl false) S else .stuck
  | none => dIsi ks d S
theorem kitAny_false {K : PySem.W.Frag} {t : Value} : ∀ {ks : List TK}, (∀ k : TK, PySem.W.kitOne K t (.type k.name) = some false) → PySem.W.kitAny K t (ks.map fun (k : TK) => Value.type k.name) = some false
  | [], _ => rfl
  | k :: ks, h => by
    show (match PySem.W.kitOne K t (.type k.name) with | some true => some true | some false => PySem.W.kitAny K t (ks.map fun (k : TK) => Value.type k.name) | none => none) = _
    rw [h k]
    exact kitAny_false h
section
variable {T : Kit} {X : Cx} {W : WX} {pos p p2 : Pos} {a : Expr} {fa : Envd → M D}
theorem ois_ty {G : Gh} {S : Store} {H : Hp} {d : D} {v : V} {c : Nat} {fs : List D} (O : OisAt X.K T c) (hH : Held T G S H) (r : Rep T G d v) (e : insOf S d = some (c, fs)) : TyX X.K H v (.ref (T.cl c)) := by
  obtain ⟨b, dx, vs, rfl, q1, _⟩ := insOf_ok hH r e
  exact .base (.ins q1 O.cls O.ha O.hn O.ht O.hm)
theorem ve_iso {c : Nat} {x : Str} (O : OisAt X.K T c) (hg : Gl X "isinstance") (hm : X.mg "isinstance" = none) (gx : Gl X x) (mx : X.mg x = some (.ref (T.cl c))) (nd : (x == ("__debug__" : Str)) = false) (ha : VE T X W a fa) (hs : noStar [a] = true) :
    VE T X W (.Call (.Name "isinstance" p) [a, .Name x p2] [] pos) (fun env => bnd (fa env) (dIsO c)) := by
  refine (pe_callB call_isi hg hm PyProof.Rows.boot_isinstance (pa_cons ha (pa_cons (pe_glob (v := .ref (T.cl c)) gx mx rfl nd) pa_nil) (by cases a <;> first | rfl | (simp only [noStar] at hs; cases hs))) (by decide) (by decide) (by cases a <;> first | rfl | (simp only [noStar] at hs; cases hs)) rfl).imp fun σ H Q ⟨G, S, env, hE, hH, p⟩ => ?_
  refine ⟨G, S, env, hE, hH, (p.bnd (rel := Rep T)).mono fun G1 S1 d x H1 st1 hd1 r1 p1 => ?_⟩
  unfold dIsO at p1
  split at p1
  · rename_i c' fs he
    split at p1
    · rename_i hc
      subst hc
      exact ⟨x, .ref (T.cl c'), _, _, true, rfl, .own _, ois_ty O hd1 r1 he, if_pos (beq_self_eq_true _), p1.ok hd1 (by simp [Rep])⟩
    · exact p1.elim
  · exact p1.elim
theorem ve_isiO {k : TK} {iso : List Nat} (hO : ∀ c ∈ iso, OisAt X.K T c) (hK : X.K = T.K) (hg : Gl X "isinstance") (hm : X.mg "isinstance" = none) (hg2 : Gl X k.nm) (hm2 : X.mg k.nm = none) (ha : VE T X W a fa) (hs : noStar [a] = true) :
    VE T X W (.Call (.Name "isinstance" p) [a, .Name k.nm p2] [] pos) (fun env => bnd (fa env) (dIsiO iso [k])) := by
  refine (pe_callB call_isi hg hm PyProof.Rows.boot_isinstance (pa_cons ha (pa_cons (pe_tk k hg2 hm2) pa_nil) (by cases a <;> first | rfl | (simp only [noStar] at hs; cases hs))) (by decide) (by decide) (by cases a <;> first | rfl | (simp only [noStar] at hs; cases hs)) rfl).imp fun σ H Q ⟨G, S, env, hE, hH, p⟩ => ?_
  refine ⟨G, S, env, hE, hH, (p.bnd (rel := Rep T)).mono fun G1 S1 d x H1 st1 hd1 r1 p1 => ?_⟩
  unfold dIsiO at p1
  split at p1
  · rename_i c fs he
    split at p1
    · rename_i hc
      exact ⟨x, .ty k.name, _, _, false, rfl, .ty _, ois_ty (hO c hc) hd1 r1 he, (hO c hc).tk k, p1.ok hd1 (by simp [Rep])⟩
    · exact p1.elim
  · unfold dIsi at p1
    split at p1
    · rename_i t ht
      obtain ⟨h1, h2⟩ := tyD_ok hK hd1 r1 ht
      exact ⟨x, .ty k.name, _, _, _, rfl, .ty _, h1, kit_isB _ k h2, p1.ok hd1 (by simp [Rep])⟩
    · exact p1.elim
theorem ve_isiO2 {k l : TK} {iso : List Nat} {p3 p4 : Pos} {j : Nat} (hO : ∀ c ∈ iso, OisAt X.K T c) (hK : X.K = T.K) (hg : Gl X "isinstance") (hm : X.mg "isinstance" = none) (hg2 : Gl X k.nm) (hm2 : X.mg k.nm = none) (hg3 : Gl X l.nm) (hm3 : X.mg l.nm = none) (ha : VE T X W a fa) (hs : noStar [a] = true) :
    VE T X W (.Call (.Name "isinstance" p) [a, .Tuple [.Name k.nm p2, .Name l.nm p3] j p4] [] pos) (fun env => bnd (fa env) (dIsiO iso [k, l])) := by
  refine (pe_callB call_isiT hg hm PyProof.Rows.boot_isinstance (pa_cons ha (pa_cons (pe_tup (pa_cons (pe_tk k hg2 hm2) (pa_cons (pe_tk l hg3 hm3) pa_nil))) pa_nil) (by cases a <;> first | rfl | (simp only [noStar] at hs; cases hs))) (by decide) (by decide) (by cases a <;> first | rfl | (simp only [noStar] at hs; cases hs)) rfl).imp fun σ H Q ⟨G, S, env, hE, hH, p⟩ => ?_
  refine ⟨G, S, env, hE, hH, (p.bnd (rel := Rep T)).mono fun G1 S1 d x H1 st1 hd1 r1 p1 => ?_⟩
  refine ⟨by show 2 ≤ sizeLine; decide, fun tp hp => ?_⟩
  obtain ⟨n1, n2⟩ := hd1.beside (p := tp) (o := .tup [.ty k.name, .ty l.name]) hp
  unfold dIsiO at p1
  split at p1
  · rename_i c fs he
    split at p1
    · rename_i hc
      exact ⟨x, tp, [.ty k.name, .ty l.name], _, [.type k.name, .type l.name], _, rfl, upd_same, .cons (.ty _) (.cons (.ty _) .nil), ois_ty (hO c hc) n1 r1 he, kitAny_false (ks := [k, l]) (hO c hc).tk, p1 G1 _ _ n2 n1 (by simp only [Rep])⟩
    · exact p1.elim
  · unfold dIsi at p1
    split at p1
    · rename_i t ht
      obtain ⟨h1, h2⟩ := tyD_ok hK n1 r1 ht
      exact ⟨x, tp, [.ty k.name, .ty l.name], _, [.type k.name, .type l.name], _, rfl, upd_same, .cons (.ty _) (.cons (.ty _) .nil), h1, kit_any _ h2 [k, l], p1 G1 _ _ n2 n1 (by simp only [Rep])⟩
    · exact p1.elim
end
end Ev

set_option Elab.async false
set_option linter.all false
set_option maxRecDepth 100000
set_option maxHeartbeats 4000000
/-! EvZ0: zip of any number of lists and tuples, at the library's level. -/
namespace ZN
open PySem
open PySem.Sem (wp)

/-- what is walked: a tuple (true) or a list, where it stands -/
abbrev Src := Bool × Addr
def ItAt (h : Heap) (it : Addr) (q : Src) (k : Nat) : Prop := if q.1 = true then h.IsTupleIter it q.2 k else h.IsListIter it q.2 k
def SrcAt (h : Heap) (q : Src) (xs : Array Value) : Prop := if q.1 = true then h.IsTuple q.2 xs else h.IsList q.2 xs
theorem ItAt.at {h h' : Heap} {it : Addr} {q : Src} {k : Nat} (x : ItAt h it q k) (e : ∀ o, h.get? it = some o → h'.get? it = some o) : ItAt h' it q k := by
  unfold ItAt at x ⊢
  split at x
  · rename_i c; rw [if_pos c]; exact Heap.IsTupleIter.at x e
  · rename_i c; rw [if_neg c]; exact Heap.IsListIter.at x e
theorem ItAt.obj {h : Heap} {it : Addr} {q : Src} {k : Nat} (x : ItAt h it q k) : ∃ o, h.get? it = some o ∧ ∀ v, o.data ≠ .cell v := by
  unfold ItAt at x
  split at x
  · obtain ⟨o, e, _, d⟩ := x
    exact ⟨o, e, fun v z => by rw [d] at z; cases z⟩
  · obtain ⟨o, e, _, d⟩ := x
    exact ⟨o, e, fun v z => by rw [d] at z; cases z⟩
theorem SrcAt.at {h h' : Heap} {q : Src} {xs : Array Value} (x : SrcAt h q xs) (e : ∀ o, h.get? q.2 = some o → h'.get? q.2 = some o) : SrcAt h' q xs := by
  unfold SrcAt at x ⊢
  split at x
  · rename_i c
    rw [if_pos c]
    obtain ⟨o, h1, h2⟩ := x
    exact ⟨o, e o h1, h2⟩
  · rename_i c
    rw [if_neg c]
    obtain ⟨o, h1, h2⟩ := x
    exact ⟨o, e o h1, h2⟩
section
variable {prog : Program} {w : World} {A : Around} {E : Value → Shared → Prop} {s : Shared}
theorem next_item {it : Addr} {q : Src} {i : Nat} {items : Array Value} {x : Value} {Q : Value → Shared → Prop} (hit : ItAt s.heap it q i) (hl : SrcAt s.heap q items) (hx : items[i]? = some x)
    (hQ : ∀ h', ItAt h' it q (i + 1) → Heap.SameBut it s.heap h' → Q x { s with heap := h' }) : wpAny (model prog w) A (Builtin.SmallTypes.nextOf (.ref it)) Q E s := by
  unfold ItAt at hit hQ
  unfold SrcAt at hl
  split at hit
  · rename_i c
    rw [if_pos c] at hl
    exact RZ.nextOf_tuple_item hit hl hx fun h' h1 h2 => hQ h' (by rw [if_pos c]; exact h1) h2
  · rename_i c
    rw [if_neg c] at hl
    exact wpAny_nextOf_list_item hit hl hx fun h' h1 h2 => hQ h' (by rw [if_neg c]; exact h1) h2
theorem next_end {it : Addr} {q : Src} {i : Nat} {items : Array Value} {Q : Value → Shared → Prop} (hh : A.handled = none) (hit : ItAt s.heap it q i) (hl : SrcAt s.heap q items) (hx : items[i]? = none)
    (hE : ∀ h' e, Heap.ExtBut it s.heap h' → (∃ o, h'.get? e = some o ∧ o.cls = .type "StopIteration") → E (.ref e) { s with heap := h' }) : wpAny (model prog w) A (Builtin.SmallTypes.nextOf (.ref it)) Q E s := by
  unfold ItAt at hit
  unfold SrcAt at hl
  split at hit
  · rename_i c
    rw [if_pos c] at hl
    exact RZ.nextOf_tuple_end hh hit hl hx hE
  · rename_i c
    rw [if_neg c] at hl
    exact wpAny_nextOf_list_end hh hit hl hx hE
abbrev IsTup (h : Heap) (T : Addr) (vs : Array Value) : Prop := h.get? T = some { cls := .type "tuple", data := .seq vs }
structure Apart (z TI TO : Addr) (is : List Addr) (qs : List Src) : Prop where
  TIz : TI ≠ z
  TOz : TO ≠ z
  TITO : TI ≠ TO
  iz : ∀ i ∈ is, i ≠ z
  iTI : ∀ i ∈ is, i ≠ TI
  iTO : ∀ i ∈ is, i ≠ TO
  nd : is.Nodup
  lz : ∀ q ∈ qs, q.2 ≠ z
  lTO : ∀ q ∈ qs, q.2 ≠ TO
  li : ∀ q ∈ qs, ∀ i ∈ is, q.2 ≠ i
theorem upd_tup {T : Addr} {vs : Array Value} {x : Value} {k : Nat} {Q : Unit → Shared → Prop} (hT : IsTup s.heap T vs) (hsz : vs.size ≤ sizeLine)
    (h : ∀ h', IsTup h' T (vs.setIfInBounds k x) → Heap.SameBut T s.heap h' → Q () { s with heap := h' }) :
    wpAny (model prog w) A (updateSeq T (·.setIfInBounds k x)) Q E s := by
  refine wpAny_updateSeq hT rfl (h _ ?_ (Heap.SameBut.update ..)) hsz (by rw [Array.size_setIfInBounds]; omega)
  show Heap.get? _ T = _
  rw [Heap.get?_update_self _ hT rfl]
  simp [Obj.mapSeq]
/-- a zip: its tuple free (none) or given out -/
abbrev IsZipG (h : Heap) (z TI TO : Addr) (f0 : Value) (f1 : Bool) : Prop :=
  h.get? z = some { cls := .type "zip", dict := none, data := .fields #[f0, .bool f1, .bool false, .ref TI, .ref TO], slots := #[] }
def F0 (f0 : Value) : Prop := f0 = .none ∨ ∃ t : Nat, f0 = rawInt t
theorem owned_free {z TI TO : Addr} {f0 : Value} {f1 : Bool} {Q : Bool → Shared → Prop} (hz : IsZipG s.heap z TI TO f0 f1) (hf : F0 f0) (hT : Q true s)
    (hF : ∀ h', IsZipG h' z TI TO f0 true → Heap.SameBut z s.heap h' → Q false { s with heap := h' }) : wpAny (model prog w) A (Builtin.SmallTypes.ownedTupleIsFree (.ref z)) Q E s := by
  unfold Builtin.SmallTypes.ownedTupleIsFree
  refine wpAny_bind (wpAny_field hz rfl (x := f0) rfl ?_)
  rcases hf with rfl | ⟨t, rfl⟩
  · exact wpAny_pure hT
  · show wpAny _ _ (loadIfAlive ((t : Int).toNat) >>= _) _ _ _
    rw [Int.toNat_natCast]
    refine wpAny_bind ?_
    have alive : ∀ {a : Addr} {Q : Option Obj → Shared → Prop}, Q (s.heap.get? a) s → wpAny (model prog w) A (loadIfAlive a) Q E s := fun h => fun _ _ _ => h
    have go : ∀ o : Option Obj, wpAny (model prog w) A (do
        if o.isNone then return true
        if (← field (.ref z) 1) != .bool true then setField (.ref z) 1 (.bool true)
        return false) Q E s := fun o => by
      cases o with
      | none => simp only [Option.isNone_none, if_true]; exact wpAny_pure hT
      | some o =>
        simp only [Option.isNone_some, Bool.false_eq_true, if_false]
        refine wpAny_bind (wpAny_field hz rfl (x := .bool f1) rfl ?_)
        cases f1 with
        | true =>
          rw [if_neg (show ¬ ((Value.bool true != Value.bool true) = true) from Bool.false_ne_true)]
          exact wpAny_pure (hF s.heap hz (Heap.SameBut.refl _ _))
        | false =>
          rw [if_pos (show (Value.bool false != Value.bool true) = true from rfl)]
          exact wpAny_bind (wpAny_setField_rec hz (by simp) fun h₁ hz₁ hs₁ => wpAny_pure (hF h₁ hz₁ hs₁))
    exact alive (go _)
/-- within a turn: m of the iterators have been asked -/
structure Mid (h0 h : Heap) (z TI TO : Addr) (f0 : Value) (f1 : Bool) (is : List Addr) (qs : List Src) (k m : Nat) : Prop where
  zip : IsZipG h z TI TO f0 f1
  it : ∀ (j : Nat) (i : Addr) (q : Src), is[j]? = some i → qs[j]? = some q → ItAt h i q (if j < m then k + 1 else k)
  sz : h.objs.size = h0.objs.size
  fr : ∀ c o, c ≠ z → c ≠ TO → c ∉ is → h0.get? c = some o → h.get? c = some o
section
variable {h0 h h2 : Heap} {z TI TO : Addr} {f0 : Value} {f1 : Bool} {is : List Addr} {qs : List Src} {k m : Nat}
theorem drop_get {α : Type} {l rest : List α} {x : α} {m : Nat} (h : x :: rest = l.drop m) : l[m]? = some x ∧ rest = l.drop (m + 1) ∧ m < l.length := by
  have hm : m < l.length := by
    by_cases c : m < l.length
    · exact c
    · rw [List.drop_eq_nil_of_le (by omega)] at h; cases h
  rw [List.drop_eq_getElem_cons hm] at h
  cases h
  exact ⟨List.getElem?_eq_getElem hm, rfl, hm⟩
theorem Mid.src (M : Mid h0 h z TI TO f0 f1 is qs k m) (D : Apart z TI TO is qs) {q : Src} {xs : Array Value} (hq : q ∈ qs) (x : SrcAt h0 q xs) : SrcAt h q xs :=
  x.at fun o e => M.fr _ o (D.lz q hq) (D.lTO q hq) (fun hm => D.li q hq _ hm rfl) e
/-- one more has been asked -/
theorem Mid.next (M : Mid h0 h z TI TO f0 f1 is qs k m) (D : Apart z TI TO is qs) {i : Addr} {q : Src} (hi : is[m]? = some i) (hq : qs[m]? = some q) (h1 : ItAt h2 i q (k + 1)) (hs : Heap.SameBut i h h2) : Mid h0 h2 z TI TO f0 f1 is qs k (m + 1) := by
  have mi : i ∈ is := List.mem_of_getElem? hi
  refine ⟨hs.extBut _ _ (D.iz i mi).symm M.zip, fun j i' q' e1 e2 => ?_, hs.1.trans M.sz, fun c o c1 c2 c3 e => hs.extBut _ _ (fun x => c3 (x ▸ mi)) (M.fr c o c1 c2 c3 e)⟩
  by_cases hj : j = m
  · subst hj
    rw [hi] at e1; rw [hq] at e2
    cases e1; cases e2
    rw [if_pos (Nat.lt_succ_self _)]
    exact h1
  · have ne : i' ≠ i := fun x => hj (by
      subst x
      obtain ⟨a1, a2⟩ := List.getElem?_eq_some_iff.mp e1
      obtain ⟨b1, b2⟩ := List.getElem?_eq_some_iff.mp hi
      exact (List.getElem_inj D.nd).mp (a2.trans b2.symm))
    have := (M.it j i' q' e1 e2).at fun o e => hs.extBut _ o ne e
    by_cases hl : j < m
    · rw [if_pos (by omega)]; rw [if_pos hl] at this; exact this
    · rw [if_neg (by omega)]; rw [if_neg hl] at this; exact this
/-- the tuple that is given out is written -/
theorem Mid.tup (M : Mid h0 h z TI TO f0 f1 is qs k m) (D : Apart z TI TO is qs) (hs : Heap.SameBut TO h h2) : Mid h0 h2 z TI TO f0 f1 is qs k m :=
  ⟨hs.extBut _ _ D.TOz.symm M.zip, fun j i q e1 e2 => (M.it j i q e1 e2).at fun o e => hs.extBut _ o (D.iTO i (List.mem_of_getElem? e1)) e, hs.1.trans M.sz, fun c o c1 c2 c3 e => hs.extBut _ _ c2 (M.fr c o c1 c2 c3 e)⟩
theorem Mid.start {s1 : Heap} (D : Apart z TI TO is qs) (hz : IsZipG s1 z TI TO f0 f1) (hs : Heap.SameBut z h0 s1) (hi : ∀ (j : Nat) (i : Addr) (q : Src), is[j]? = some i → qs[j]? = some q → ItAt h0 i q k) : Mid h0 s1 z TI TO f0 f1 is qs k 0 :=
  ⟨hz, fun j i q e1 e2 => by
    rw [if_neg (Nat.not_lt_zero _)]
    exact (hi j i q e1 e2).at fun o e => hs.extBut _ o (D.iz i (List.mem_of_getElem? e1)) e, hs.1, fun c o c1 _ _ e => hs.extBut _ _ c1 e⟩
end
theorem next_itemN {z TI TO : Addr} {f0 : Value} {f1 : Bool} {is : List Addr} {qs : List Src} {vals : List Value} {k : Nat} {vs0 : Array Value} {Q : Value → Shared → Prop} (D : Apart z TI TO is qs) (hn : is ≠ []) (hn2 : is.length ≤ sizeLine) (hlq : qs.length = is.length) (hlv : vals.length = is.length)
    (hz : IsZipG s.heap z TI TO f0 f1) (hf : F0 f0) (hTI : IsTup s.heap TI (is.map Value.ref).toArray) (hTO : IsTup s.heap TO vs0) (hv0 : vs0.size = is.length)
    (hi : ∀ (j : Nat) (i : Addr) (q : Src), is[j]? = some i → qs[j]? = some q → ItAt s.heap i q k)
    (hs : ∀ (j : Nat) (q : Src) (x : Value), qs[j]? = some q → vals[j]? = some x → ∃ xs, SrcAt s.heap q xs ∧ xs[k]? = some x)
    (hQ : ∀ h' f0' f1' vs', IsZipG h' z TI TO f0' f1' → F0 f0' → IsTup h' TO vs' → vs'.size = is.length → (∀ (j : Nat) (i : Addr) (q : Src), is[j]? = some i → qs[j]? = some q → ItAt h' i q (k + 1)) → IsTup h' s.heap.objs.size vals.toArray → h'.objs.size = s.heap.objs.size + 1 →
      (∀ c o, c ≠ z → c ≠ TO → c ∉ is → s.heap.get? c = some o → h'.get? c = some o) → Q (.ref s.heap.objs.size) { s with heap := h' }) :
    wpAny (model prog w) A (Builtin.«zip.__next__» ⟨[.ref z], []⟩) (fun fin s' => ∃ v, fin = .done (.ret v) ∧ Q v s') E s := by
  show wpAny _ _ (field (.ref z) 2 >>= _) _ _ _
  refine wpAny_bind (wpAny_field hz rfl (x := .bool false) rfl ?_)
  show wpAny _ _ (field (.ref z) 3 >>= _) _ _ _
  refine wpAny_bind (wpAny_field hz rfl (x := .ref TI) rfl ?_)
  refine wpAny_bind (wpAny_seqItems hTI rfl ?_)
  have hne : (is.map Value.ref).toArray.isEmpty = false := by
    cases is with
    | nil => exact absurd rfl hn
    | cons a r => rfl
  simp only [hne, Bool.false_eq_true, if_false]
  show wpAny _ _ (Builtin.SmallTypes.ownedTupleIsFree (.ref z) >>= _) _ _ _
  refine wpAny_bind (owned_free hz hf ?free ?held)
  case free =>
    simp only [if_true]
    refine wpAny_bind (wpAny_rule ?_)
    refine wpAny_bind (wpAny_field hz rfl (x := .ref TO) rfl ?_)
    refine wpAny_bind (wpAny_setField_rec hz (by simp) fun h₁ hz₁ hs₁ => ?_)
    replace hz₁ : IsZipG h₁ z TI TO .ellipsis f1 := hz₁
    refine wpAny_bind (wpAny_forIn_list _ (fun rest b s' => b.1 = none ∧ ∃ (m : Nat) (h' : Heap), rest = ((is.map Value.ref).zipIdx).drop m ∧ m ≤ is.length ∧ s' = { s with heap := h' } ∧ Mid s.heap h' z TI TO .ellipsis f1 is qs k m ∧ ∃ vs : Array Value, IsTup h' TO vs ∧ vs.size = is.length ∧ ∀ j, j < m → vs[j]? = vals[j]?) _ ?turn ?fin _ _ ?start)
    case start =>
      exact ⟨rfl, 0, h₁, rfl, Nat.zero_le _, rfl, .start D hz₁ hs₁ hi, vs0, hs₁.extBut _ _ D.TOz hTO, hv0, fun j hj => absurd hj (Nat.not_lt_zero _)⟩
    case turn =>
      rintro ⟨itv, kk⟩ rest b s' ⟨hb, m, h', hrest, hm, rfl, M, vs, hT, hvs, hval⟩
      obtain ⟨e1, e2, e3⟩ := drop_get hrest
      rw [List.length_zipIdx, List.length_map] at e3
      rw [List.getElem?_zipIdx, List.getElem?_map] at e1
      obtain ⟨i, ei⟩ : ∃ i, is[m]? = some i := ⟨_, List.getElem?_eq_getElem e3⟩
      obtain ⟨q, eq⟩ : ∃ q, qs[m]? = some q := ⟨_, List.getElem?_eq_getElem (by omega)⟩
      obtain ⟨x, ex⟩ : ∃ x, vals[m]? = some x := ⟨_, List.getElem?_eq_getElem (by omega)⟩
      rw [ei] at e1
      simp only [Option.map_some, Option.some.injEq, Prod.mk.injEq, Nat.zero_add] at e1
      obtain ⟨rfl, rfl⟩ := e1
      obtain ⟨xs, hxs, hx⟩ := hs m q x eq ex
      have mi : i ∈ is := List.mem_of_getElem? ei
      have hit := M.it m i q ei eq
      rw [if_neg (Nat.lt_irrefl _)] at hit
      refine wpAny_bind (wpAny_onRaise ?_)
      show wpAny _ _ (Builtin.SmallTypes.nextOf (.ref i) >>= _) _ _ _
      refine wpAny_bind (next_item (s := { s with heap := h' }) hit (M.src D (List.mem_of_getElem? eq) hxs) hx fun h₂ h1₂ hs₂ => wpAny_pure ?_)
      have hT₂ : IsTup h₂ TO vs := hs₂.extBut _ _ (D.iTO i mi).symm hT
      refine wpAny_bind (wpAny_seqItems hT₂ rfl ?_)
      refine wpAny_bind (upd_tup hT₂ (by omega) fun h₃ hT₃ hs₃ => ?_)
      refine wpAny_bind (wpAny_letGo (wpAny_pure ?_))
      refine ⟨rfl, m + 1, h₃, e2, by omega, rfl, (M.next D ei eq h1₂ hs₂).tup D hs₃, _, hT₃, by rw [Array.size_setIfInBounds]; exact hvs, fun j hj => ?_⟩
      by_cases hjm : j = m
      · subst hjm
        rw [Array.getElem?_setIfInBounds_self_of_lt (by omega), ex]
      · rw [Array.getElem?_setIfInBounds_ne (Ne.symm hjm)]
        exact hval j (by omega)
    case fin =>
      rintro ⟨b1, b2⟩ s' ⟨hb, m, h', hrest, hm, rfl, M, vs, hT, hvs, hval⟩
      dsimp only at hb
      subst hb
      have hml : m = is.length := by
        have := congrArg List.length hrest
        simp at this
        omega
      subst hml
      have hva : vs = vals.toArray := by
        refine Array.ext_getElem? fun j => ?_
        by_cases hj : j < is.length
        · rw [hval j hj]; simp
        · rw [Array.getElem?_eq_none (by omega), Array.getElem?_eq_none (by simp; omega)]
      subst hva
      refine wpAny_bind (wpAny_seqItems hT rfl ?_)
      refine wpAny_bind (wpAny_newTuple ?_)
      have hzlt : z < h'.objs.size := Heap.lt_size M.zip
      have hsz := M.sz
      show wpAny _ _ (Builtin.SmallTypes.ownedTupleHandOut (.ref z) (.ref h'.objs.size) >>= _) _ _ _
      refine wpAny_bind ?_
      unfold Builtin.SmallTypes.ownedTupleHandOut
      have hz₆ : IsZipG (h'.push { cls := .type "tuple", data := .seq vals.toArray }) z TI TO .ellipsis f1 := Heap.get?_push_of_some _ M.zip
      refine wpAny_bind (wpAny_setField_rec hz₆ (by simp) fun h₇ hz₇ hs₇ => ?_)
      replace hz₇ : IsZipG h₇ z TI TO (rawInt h'.objs.size) f1 := hz₇
      refine wpAny_setField_rec hz₇ (by simp) fun h₈ hz₈ hs₈ => ?_
      replace hz₈ : IsZipG h₈ z TI TO (rawInt h'.objs.size) false := hz₈
      have up : ∀ c o, c ≠ z → h'.get? c = some o → h₈.get? c = some o := fun c o c1 e => hs₈.extBut _ _ c1 (hs₇.extBut _ _ c1 (Heap.get?_push_of_some _ e))
      have hT₈ : IsTup h₈ h'.objs.size vals.toArray := hs₈.extBut _ _ (Nat.ne_of_gt hzlt) (hs₇.extBut _ _ (Nat.ne_of_gt hzlt) (Heap.get?_push_size _ rfl))
      have hz8 : h₈.objs.size = h'.objs.size + 1 := by rw [hs₈.1, hs₇.1, Heap.size_push]
      refine wpAny_pure ⟨_, rfl, ?_⟩
      show Q (.ref h'.objs.size) _
      have fin := hQ h₈ _ _ vals.toArray hz₈ (.inr ⟨_, rfl⟩) (up _ _ D.TOz hT) hvs (fun j i q e1 e2 => by
        have := M.it j i q e1 e2
        rw [if_pos (List.getElem?_eq_some_iff.mp e1).1] at this
        exact this.at fun o e => up _ o (D.iz i (List.mem_of_getElem? e1)) e)
      rw [hsz] at hT₈ hz8 ⊢
      exact fin hT₈ hz8 fun c o c1 c2 c3 e => up c o c1 (M.fr c o c1 c2 c3 e)
  case held =>
    intro h₁ hz₁ hs₁
    simp only [Bool.false_eq_true, if_false]
    refine wpAny_bind ?_
    rw [← Array.forIn_toList]
    refine wpAny_forIn_list _ (fun rest b s' => b.1 = none ∧ ∃ (m : Nat) (h' : Heap), rest = (is.map Value.ref).drop m ∧ m ≤ is.length ∧ s' = { s with heap := h' } ∧ b.2 = (vals.take m).toArray ∧ Mid s.heap h' z TI TO f0 true is qs k m ∧ IsTup h' TO vs0) _ ?turn2 ?fin2 _ _ ?start2
    case start2 =>
      exact ⟨rfl, 0, h₁, rfl, Nat.zero_le _, rfl, rfl, .start D hz₁ hs₁ hi, hs₁.extBut _ _ D.TOz hTO⟩
    case turn2 =>
      rintro itv rest ⟨b1, b2⟩ s' ⟨hb, m, h', hrest, hm, rfl, hb2, M, hT⟩
      obtain ⟨e1, e2, e3⟩ := drop_get hrest
      rw [List.length_map] at e3
      rw [List.getElem?_map] at e1
      obtain ⟨i, ei⟩ : ∃ i, is[m]? = some i := ⟨_, List.getElem?_eq_getElem e3⟩
      obtain ⟨q, eq⟩ : ∃ q, qs[m]? = some q := ⟨_, List.getElem?_eq_getElem (by omega)⟩
      obtain ⟨x, ex⟩ : ∃ x, vals[m]? = some x := ⟨_, List.getElem?_eq_getElem (by omega)⟩
      rw [ei] at e1
      cases e1
      dsimp only at hb hb2
      subst hb hb2
      obtain ⟨xs, hxs, hx⟩ := hs m q x eq ex
      have mi : i ∈ is := List.mem_of_getElem? ei
      have hit := M.it m i q ei eq
      rw [if_neg (Nat.lt_irrefl _)] at hit
      refine wpAny_bind (wpAny_holding ?_)
      show wpAny _ _ (Builtin.SmallTypes.nextOf (.ref i) >>= _) _ _ _
      refine wpAny_bind (next_item (s := { s with heap := h' }) hit (M.src D (List.mem_of_getElem? eq) hxs) hx fun h₂ h1₂ hs₂ => wpAny_pure ?_)
      refine wpAny_pure ⟨rfl, m + 1, h₂, e2, by omega, rfl, ?_, M.next D ei eq h1₂ hs₂, hs₂.extBut _ _ (D.iTO i mi).symm hT⟩
      show (vals.take m).toArray.push x = _
      rw [List.take_add_one, ex]
      simp
    case fin2 =>
      rintro ⟨b1, b2⟩ s' ⟨hb, m, h', hrest, hm, rfl, hb2, M, hT⟩
      dsimp only at hb hb2
      subst hb hb2
      have hml : m = is.length := by
        have := congrArg List.length hrest
        simp at this
        omega
      subst hml
      rw [List.take_of_length_le (by omega)]
      refine wpAny_bind (wpAny_newTuple ?_)
      have hsz := M.sz
      refine wpAny_pure ⟨_, rfl, ?_⟩
      show Q (.ref h'.objs.size) _
      have up : ∀ c o, h'.get? c = some o → (h'.push { cls := .type "tuple", data := .seq vals.toArray }).get? c = some o := fun c o e => Heap.get?_push_of_some _ e
      have hT₈ : IsTup (h'.push { cls := .type "tuple", data := .seq vals.toArray }) h'.objs.size vals.toArray := Heap.get?_push_size _ rfl
      have hz8 : (h'.push { cls := .type "tuple", data := .seq vals.toArray }).objs.size = h'.objs.size + 1 := Heap.size_push ..
      have fin := hQ _ _ _ vs0 (up _ _ M.zip) hf (up _ _ hT) hv0 (fun j i q e1 e2 => by
        have := M.it j i q e1 e2
        rw [if_pos (List.getElem?_eq_some_iff.mp e1).1] at this
        exact this.at fun o e => up _ o e)
      rw [hsz] at hT₈ hz8 ⊢
      exact fin hT₈ hz8 fun c o c1 c2 c3 e => up c o (M.fr c o c1 c2 c3 e)
end
theorem typeCall_zip_n (vs : List Value) : checkTypeCall "zip" ⟨vs, []⟩ = pure () := by kernel_rfl
theorem args_object_init_n (a : Value) (vs : List Value) : argsOk "object.__init__" ⟨a :: vs, []⟩ := by
  unfold argsOk; rw [signature?_of (id := "object.__init__") (n := ['_', '_', 't', 'i', 'n', 'i', '_', '_']) (o := ['t', 'c', 'e', 'j', 'b', 'o']) (by kernel_rfl) PySem.F.owner_object]; kernel_rfl
theorem newCall_zip_n : ∀ (vs : List Value), vs.length ≤ 21 → checkBuiltinCall "zip.__new__" ⟨.type "zip" :: vs, []⟩ = pure ()
  | [], _ => (by kernel_rfl : checkBuiltinCall "zip.__new__" ⟨[.type "zip"], []⟩ = pure ())
  | [a0], _ => (by kernel_rfl : checkBuiltinCall "zip.__new__" ⟨[.type "zip", a0], []⟩ = pure ())
  | [a0, a1], _ => (by kernel_rfl : checkBuiltinCall "zip.__new__" ⟨[.type "zip", a0, a1], []⟩ = pure ())
  | [a0, a1, a2], _ => (by kernel_rfl : checkBuiltinCall "zip.__new__" ⟨[.type "zip", a0, a1, a2], []⟩ = pure ())
  | [a0, a1, a2, a3], _ => (by kernel_rfl : checkBuiltinCall "zip.__new__" ⟨[.type "zip", a0, a1, a2, a3], []⟩ = pure ())
  | [a0, a1, a2, a3, a4], _ => (by kernel_rfl : checkBuiltinCall "zip.__new__" ⟨[.type "zip", a0, a1, a2, a3, a4], []⟩ = pure ())
  | [a0, a1, a2, a3, a4, a5], _ => (by kernel_rfl : checkBuiltinCall "zip.__new__" ⟨[.type "zip", a0, a1, a2, a3, a4, a5], []⟩ = pure ())
  | [a0, a1, a2, a3, a4, a5, a6], _ => (by kernel_rfl : checkBuiltinCall "zip.__new__" ⟨[.type "zip", a0, a1, a2, a3, a4, a5, a6], []⟩ = pure ())
  | [a0, a1, a2, a3, a4, a5, a6, a7], _ => (by kernel_rfl : checkBuiltinCall "zip.__new__" ⟨[.type "zip", a0, a1, a2, a3, a4, a5, a6, a7], []⟩ = pure ())
  | [a0, a1, a2, a3, a4, a5, a6, a7, a8], _ => (by kernel_rfl : checkBuiltinCall "zip.__new__" ⟨[.type "zip", a0, a1, a2, a3, a4, a5, a6, a7, a8], []⟩ = pure ())
  | [a0, a1, a2, a3, a4, a5, a6, a7, a8, a9], _ => (by kernel_rfl : checkBuiltinCall "zip.__new__" ⟨[.type "zip", a0, a1, a2, a3, a4, a5, a6, a7, a8, a9], []⟩ = pure ())
  | [a0, a1, a2, a3, a4, a5, a6, a7, a8, a9, a10], _ => (by kernel_rfl : checkBuiltinCall "zip.__new__" ⟨[.type "zip", a0, a1, a2, a3, a4, a5, a6, a7, a8, a9, a10], []⟩ = pure ())
  | [a0, a1, a2, a3, a4, a5, a6, a7, a8, a9, a10, a11], _ => (by kernel_rfl : checkBuiltinCall "zip.__new__" ⟨[.type "zip", a0, a1, a2, a3, a4, a5, a6, a7, a8, a9, a10, a11], []⟩ = pure ())
  | [a0, a1, a2, a3, a4, a5, a6, a7, a8, a9, a10, a11, a12], _ => (by kernel_rfl : checkBuiltinCall "zip.__new__" ⟨[.type "zip", a0, a1, a2, a3, a4, a5, a6, a7, a8, a9, a10, a11, a12], []⟩ = pure ())
  | [a0, a1, a2, a3, a4, a5, a6, a7, a8, a9, a10, a11, a12, a13], _ => (by kernel_rfl : checkBuiltinCall "zip.__new__" ⟨[.type "zip", a0, a1, a2, a3, a4, a5, a6, a7, a8, a9, a10, a11, a12, a13], []⟩ = pure ())
  | [a0, a1, a2, a3, a4, a5, a6, a7, a8, a9, a10, a11, a12, a13, a14], _ => (by kernel_rfl : checkBuiltinCall "zip.__new__" ⟨[.type "zip", a0, a1, a2, a3, a4, a5, a6, a7, a8, a9, a10, a11, a12, a13, a14], []⟩ = pure ())
  | [a0, a1, a2, a3, a4, a5, a6, a7, a8, a9, a10, a11, a12, a13, a14, a15], _ => (by kernel_rfl : checkBuiltinCall "zip.__new__" ⟨[.type "zip", a0, a1, a2, a3, a4, a5, a6, a7, a8, a9, a10, a11, a12, a13, a14, a15], []⟩ = pure ())
  | [a0, a1, a2, a3, a4, a5, a6, a7, a8, a9, a10, a11, a12, a13, a14, a15, a16], _ => (by kernel_rfl : checkBuiltinCall "zip.__new__" ⟨[.type "zip", a0, a1, a2, a3, a4, a5, a6, a7, a8, a9, a10, a11, a12, a13, a14, a15, a16], []⟩ = pure ())
  | [a0, a1, a2, a3, a4, a5, a6, a7, a8, a9, a10, a11, a12, a13, a14, a15, a16, a17], _ => (by kernel_rfl : checkBuiltinCall "zip.__new__" ⟨[.type "zip", a0, a1, a2, a3, a4, a5, a6, a7, a8, a9, a10, a11, a12, a13, a14, a15, a16, a17], []⟩ = pure ())
  | [a0, a1, a2, a3, a4, a5, a6, a7, a8, a9, a10, a11, a12, a13, a14, a15, a16, a17, a18], _ => (by kernel_rfl : checkBuiltinCall "zip.__new__" ⟨[.type "zip", a0, a1, a2, a3, a4, a5, a6, a7, a8, a9, a10, a11, a12, a13, a14, a15, a16, a17, a18], []⟩ = pure ())
  | [a0, a1, a2, a3, a4, a5, a6, a7, a8, a9, a10, a11, a12, a13, a14, a15, a16, a17, a18, a19], _ => (by kernel_rfl : checkBuiltinCall "zip.__new__" ⟨[.type "zip", a0, a1, a2, a3, a4, a5, a6, a7, a8, a9, a10, a11, a12, a13, a14, a15, a16, a17, a18, a19], []⟩ = pure ())
  | [a0, a1, a2, a3, a4, a5, a6, a7, a8, a9, a10, a11, a12, a13, a14, a15, a16, a17, a18, a19, a20], _ => (by kernel_rfl : checkBuiltinCall "zip.__new__" ⟨[.type "zip", a0, a1, a2, a3, a4, a5, a6, a7, a8, a9, a10, a11, a12, a13, a14, a15, a16, a17, a18, a19, a20], []⟩ = pure ())
  | _ :: _ :: _ :: _ :: _ :: _ :: _ :: _ :: _ :: _ :: _ :: _ :: _ :: _ :: _ :: _ :: _ :: _ :: _ :: _ :: _ :: _ :: r, h => absurd h (by simp)
section
variable {prog : Program} {w : World} {A : Around} {E : Value → Shared → Prop} {s : Shared}
/-- one of the walked ones is at its end -/
def AtEnd (h : Heap) (qs : List Src) (k : Nat) : Prop := ∃ m : Nat, (∃ q xs, qs[m]? = some q ∧ SrcAt h q xs ∧ xs[k]? = none) ∧ ∀ (j : Nat) (q : Src), j < m → qs[j]? = some q → ∃ xs x, SrcAt h q xs ∧ xs[k]? = some x
theorem next_endN {z TI TO : Addr} {f0 : Value} {f1 : Bool} {is : List Addr} {qs : List Src} {k : Nat} {vs0 : Array Value} {Q : Fin → Shared → Prop} (hh : A.handled = none) (D : Apart z TI TO is qs) (hn2 : is.length ≤ sizeLine) (hlq : qs.length = is.length)
    (hz : IsZipG s.heap z TI TO f0 f1) (hf : F0 f0) (hTI : IsTup s.heap TI (is.map Value.ref).toArray) (hTO : IsTup s.heap TO vs0) (hv0 : vs0.size = is.length)
    (hi : ∀ (j : Nat) (i : Addr) (q : Src), is[j]? = some i → qs[j]? = some q → ItAt s.heap i q k) (he : AtEnd s.heap qs k)
    (hE : ∀ h' e, (∀ c o, c ≠ z → c ≠ TO → c ∉ is → s.heap.get? c = some o → h'.get? c = some o) → (∃ o, h'.get? e = some o ∧ o.cls = .type "StopIteration") → E (.ref e) { s with heap := h' }) :
    wpAny (model prog w) A (Builtin.«zip.__next__» ⟨[.ref z], []⟩) Q E s := by
  obtain ⟨m0, ⟨q0, xs0, hq0, hx0, hn0⟩, hall⟩ := he
  have hm0 : m0 < is.length := by rw [← hlq]; exact (List.getElem?_eq_some_iff.mp hq0).1
  show wpAny _ _ (field (.ref z) 2 >>= _) _ _ _
  refine wpAny_bind (wpAny_field hz rfl (x := .bool false) rfl ?_)
  show wpAny _ _ (field (.ref z) 3 >>= _) _ _ _
  refine wpAny_bind (wpAny_field hz rfl (x := .ref TI) rfl ?_)
  refine wpAny_bind (wpAny_seqItems hTI rfl ?_)
  have hne : (is.map Value.ref).toArray.isEmpty = false := by
    cases is with
    | nil => simp at hm0
    | cons a r => rfl
  simp only [hne, Bool.false_eq_true, if_false]
  show wpAny _ _ (Builtin.SmallTypes.ownedTupleIsFree (.ref z) >>= _) _ _ _
  refine wpAny_bind (owned_free hz hf ?free ?held)
  case free =>
    simp only [if_true]
    refine wpAny_bind (wpAny_rule ?_)
    refine wpAny_bind (wpAny_field hz rfl (x := .ref TO) rfl ?_)
    refine wpAny_bind (wpAny_setField_rec hz (by simp) fun h₁ hz₁ hs₁ => ?_)
    replace hz₁ : IsZipG h₁ z TI TO .ellipsis f1 := hz₁
    refine wpAny_bind (wpAny_forIn_list _ (fun rest b s' => b.1 = none ∧ ∃ (m : Nat) (h' : Heap), rest = ((is.map Value.ref).zipIdx).drop m ∧ m ≤ m0 ∧ s' = { s with heap := h' } ∧ Mid s.heap h' z TI TO .ellipsis f1 is qs k m ∧ ∃ vs : Array Value, IsTup h' TO vs ∧ vs.size = is.length) _ ?turn ?fin _ _ ?start)
    case start =>
      exact ⟨rfl, 0, h₁, rfl, Nat.zero_le _, rfl, .start D hz₁ hs₁ hi, vs0, hs₁.extBut _ _ D.TOz hTO, hv0⟩
    case turn =>
      rintro ⟨itv, kk⟩ rest b s' ⟨hb, m, h', hrest, hm, rfl, M, vs, hT, hvs⟩
      obtain ⟨e1, e2, e3⟩ := drop_get hrest
      rw [List.length_zipIdx, List.length_map] at e3
      rw [List.getElem?_zipIdx, List.getElem?_map] at e1
      obtain ⟨i, ei⟩ : ∃ i, is[m]? = some i := ⟨_, List.getElem?_eq_getElem e3⟩
      obtain ⟨q, eq⟩ : ∃ q, qs[m]? = some q := ⟨_, List.getElem?_eq_getElem (by omega)⟩
      rw [ei] at e1
      simp only [Option.map_some, Option.some.injEq, Prod.mk.injEq, Nat.zero_add] at e1
      obtain ⟨rfl, rfl⟩ := e1
      have mi : i ∈ is := List.mem_of_getElem? ei
      have hit := M.it m i q ei eq
      rw [if_neg (Nat.lt_irrefl _)] at hit
      refine wpAny_bind (wpAny_onRaise ?_)
      show wpAny _ _ (Builtin.SmallTypes.nextOf (.ref i) >>= _) _ _ _
      by_cases hmm : m = m0
      · subst hmm
        rw [eq] at hq0
        cases hq0
        refine wpAny_bind (next_end (s := { s with heap := h' }) hh hit (M.src D (List.mem_of_getElem? eq) hx0) hn0 fun h₂ e hs₂ he => ?_)
        obtain ⟨oe, hoe, hce⟩ := he
        have hz₂ : IsZipG h₂ z TI TO .ellipsis f1 := hs₂ _ _ (D.iz i mi).symm M.zip
        have hez : e ≠ z := fun x => by subst x; rw [hz₂] at hoe; cases hoe; simp at hce
        refine wpAny_setField_rec hz₂ (by simp) fun h₃ _ hs₃ => hE h₃ e (fun c o c1 c2 c3 x => hs₃.extBut _ _ c1 (hs₂ _ _ (fun y => c3 (y ▸ mi)) (M.fr c o c1 c2 c3 x))) ⟨oe, hs₃.extBut _ _ hez hoe, hce⟩
      · obtain ⟨xs, x, hxs, hx⟩ := hall m q (by omega) eq
        refine wpAny_bind (next_item (s := { s with heap := h' }) hit (M.src D (List.mem_of_getElem? eq) hxs) hx fun h₂ h1₂ hs₂ => wpAny_pure ?_)
        have hT₂ : IsTup h₂ TO vs := hs₂.extBut _ _ (D.iTO i mi).symm hT
        refine wpAny_bind (wpAny_seqItems hT₂ rfl ?_)
        refine wpAny_bind (upd_tup hT₂ (by omega) fun h₃ hT₃ hs₃ => ?_)
        refine wpAny_bind (wpAny_letGo (wpAny_pure ?_))
        exact ⟨rfl, m + 1, h₃, e2, by omega, rfl, (M.next D ei eq h1₂ hs₂).tup D hs₃, _, hT₃, by rw [Array.size_setIfInBounds]; exact hvs⟩
    case fin =>
      rintro ⟨b1, b2⟩ s' ⟨hb, m, h', hrest, hm, rfl, M, vs, hT, hvs⟩
      exfalso
      have := congrArg List.length hrest
      simp at this
      omega
  case held =>
    intro h₁ hz₁ hs₁
    simp only [Bool.false_eq_true, if_false]
    refine wpAny_bind ?_
    rw [← Array.forIn_toList]
    refine wpAny_forIn_list _ (fun rest b s' => b.1 = none ∧ ∃ (m : Nat) (h' : Heap), rest = (is.map Value.ref).drop m ∧ m ≤ m0 ∧ s' = { s with heap := h' } ∧ Mid s.heap h' z TI TO f0 true is qs k m) _ ?turn2 ?fin2 _ _ ?start2
    case start2 =>
      exact ⟨rfl, 0, h₁, rfl, Nat.zero_le _, rfl, .start D hz₁ hs₁ hi⟩
    case turn2 =>
      rintro itv rest ⟨b1, b2⟩ s' ⟨hb, m, h', hrest, hm, rfl, M⟩
      obtain ⟨e1, e2, e3⟩ := drop_get hrest
      rw [List.length_map] at e3
      rw [List.getElem?_map] at e1
      obtain ⟨i, ei⟩ : ∃ i, is[m]? = some i := ⟨_, List.getElem?_eq_getElem e3⟩
      obtain ⟨q, eq⟩ : ∃ q, qs[m]? = some q := ⟨_, List.getElem?_eq_getElem (by omega)⟩
      rw [ei] at e1
      cases e1
      dsimp only at hb
      subst hb
      have mi : i ∈ is := List.mem_of_getElem? ei
      have hit := M.it m i q ei eq
      rw [if_neg (Nat.lt_irrefl _)] at hit
      refine wpAny_bind (wpAny_holding ?_)
      show wpAny _ _ (Builtin.SmallTypes.nextOf (.ref i) >>= _) _ _ _
      by_cases hmm : m = m0
      · subst hmm
        rw [eq] at hq0
        cases hq0
        refine wpAny_bind (next_end (s := { s with heap := h' }) hh hit (M.src D (List.mem_of_getElem? eq) hx0) hn0 fun h₂ e hs₂ he => ?_)
        exact hE h₂ e (fun c o c1 c2 c3 x => hs₂ _ _ (fun y => c3 (y ▸ mi)) (M.fr c o c1 c2 c3 x)) he
      · obtain ⟨xs, x, hxs, hx⟩ := hall m q (by omega) eq
        refine wpAny_bind (next_item (s := { s with heap := h' }) hit (M.src D (List.mem_of_getElem? eq) hxs) hx fun h₂ h1₂ hs₂ => wpAny_pure ?_)
        exact wpAny_pure ⟨rfl, m + 1, h₂, e2, by omega, rfl, M.next D ei eq h1₂ hs₂⟩
    case fin2 =>
      rintro ⟨b1, b2⟩ s' ⟨hb, m, h', hrest, hm, rfl, M⟩
      exfalso
      have := congrArg List.length hrest
      simp at this
      omega
/-- how a zip stands: k turns done -/
structure ZipSt (h : Heap) (z TI TO : Addr) (is : List Addr) (qs : List Src) (k : Nat) : Prop where
  zip : ∃ f0 f1, IsZipG h z TI TO f0 f1 ∧ F0 f0
  ti : IsTup h TI (is.map Value.ref).toArray
  to : ∃ vs : Array Value, IsTup h TO vs ∧ vs.size = is.length
  it : ∀ (j : Nat) (i : Addr) (q : Src), is[j]? = some i → qs[j]? = some q → ItAt h i q k
theorem ZipSt.keep {h h' : Heap} {z TI TO : Addr} {is : List Addr} {qs : List Src} {k : Nat} (t : ZipSt h z TI TO is qs k) (hl : qs.length = is.length) (e : ∀ b, b = z ∨ b = TI ∨ b = TO ∨ b ∈ is → ∀ o, h.get? b = some o → h'.get? b = some o) : ZipSt h' z TI TO is qs k := by
  obtain ⟨⟨f0, f1, hz, hf⟩, ti, ⟨vs, to, hv⟩, it⟩ := t
  exact ⟨⟨f0, f1, e z (.inl rfl) _ hz, hf⟩, e TI (.inr (.inl rfl)) _ ti, ⟨vs, e TO (.inr (.inr (.inl rfl))) _ to, hv⟩, fun j i q e1 e2 => (it j i q e1 e2).at fun o x => e i (.inr (.inr (.inr (List.mem_of_getElem? e1)))) o x⟩
theorem pyNext_itemN {z TI TO : Addr} {is : List Addr} {qs : List Src} {vals : List Value} {k : Nat} {Q : Option Value → Shared → Prop} (D : Apart z TI TO is qs) (hn : is ≠ []) (hn2 : is.length ≤ sizeLine) (hlq : qs.length = is.length) (hlv : vals.length = is.length) (t : ZipSt s.heap z TI TO is qs k)
    (hs : ∀ (j : Nat) (q : Src) (x : Value), qs[j]? = some q → vals[j]? = some x → ∃ xs, SrcAt s.heap q xs ∧ xs[k]? = some x)
    (hQ : ∀ h', ZipSt h' z TI TO is qs (k + 1) → IsTup h' s.heap.objs.size vals.toArray → h'.objs.size = s.heap.objs.size + 1 →
      (∀ c o, c ≠ z → c ≠ TO → c ∉ is → s.heap.get? c = some o → h'.get? c = some o) → Q (some (.ref s.heap.objs.size)) { s with heap := h' }) : wpAny (model prog w) A (pyNext (.ref z)) Q E s := by
  obtain ⟨⟨f0, f1, hz, hf⟩, ti, ⟨vs, to, hv⟩, it⟩ := t
  have hT : s.TypeIs (.ref z) "zip" := ⟨_, hz, rfl⟩
  unfold pyNext
  exact wpAny_bind (wpAny_attempt (wpAny_callSpecial?_slot (name := Str.ofString "__next__") hT PySem.F.slot_zip_next
    (wpAny_call_entry PySem.F.slot_zip_next hT PySem.F.entry_zip_next
      (next_itemN D hn hn2 hlq hlv hz hf ti to hv it hs fun h' f0' f1' vs' a1 a2 a3 a4 a5 a6 a7 a8 => wpAny_pure (hQ h' ⟨⟨f0', f1', a1, a2⟩, a8 _ _ D.TIz D.TITO (fun x => D.iTI _ x rfl) ti, ⟨vs', a3, a4⟩, a5⟩ a6 a7 a8)) (PySem.F.args_zip_next_1 _))))
theorem pyNext_endN {z TI TO : Addr} {is : List Addr} {qs : List Src} {k : Nat} {Q : Option Value → Shared → Prop} (hh : A.handled = none) (D : Apart z TI TO is qs) (hn2 : is.length ≤ sizeLine) (hlq : qs.length = is.length) (t : ZipSt s.heap z TI TO is qs k) (he : AtEnd s.heap qs k)
    (hQ : ∀ h', (∀ c o, c ≠ z → c ≠ TO → c ∉ is → s.heap.get? c = some o → h'.get? c = some o) → Q none { s with heap := h' }) : wpAny (model prog w) A (pyNext (.ref z)) Q E s := by
  obtain ⟨⟨f0, f1, hz, hf⟩, ti, ⟨vs, to, hv⟩, it⟩ := t
  have hT : s.TypeIs (.ref z) "zip" := ⟨_, hz, rfl⟩
  unfold pyNext
  refine wpAny_bind (wpAny_attempt (wpAny_callSpecial?_slot (name := Str.ofString "__next__") hT PySem.F.slot_zip_next
    (wpAny_call_entry PySem.F.slot_zip_next hT PySem.F.entry_zip_next (next_endN hh D hn2 hlq hz hf ti to hv it he fun h' e hk he => ?_) (PySem.F.args_zip_next_1 _))))
  obtain ⟨o, ho, hc⟩ := he
  refine wpAny_bind (wpAny_isInstance (T := "StopIteration") (b := true) ⟨o, ho, hc⟩ isSubtype_stop ?_)
  exact wpAny_pure (hQ _ hk)
theorem pyIter_zipG {z TI TO : Addr} {is : List Addr} {qs : List Src} {k : Nat} {Q : Value → Shared → Prop} (t : ZipSt s.heap z TI TO is qs k) (h : Q (.ref z) s) : wpAny (model prog w) A (pyIter (.ref z)) Q E s := by
  obtain ⟨⟨f0, f1, hz, hf⟩, _⟩ := t
  have hT : s.TypeIs (.ref z) "zip" := ⟨_, hz, rfl⟩
  refine wpAny_pyIter_slot hT PySem.F.slot_zip_iter (wpAny_call_entry PySem.F.slot_zip_iter hT PySem.F.entry_zip_iter ?_ (PySem.F.args_zip_iter_1 _))
  show wpAny _ _ (ret (.ref z)) _ _ s
  exact wpAny_pure ⟨_, rfl, "zip", _, hT, PySem.F.slot_zip_next.lookup, h⟩
/-- a for's tuple is let go, whatever the target is -/
theorem letGo_zipG {tg : Expr} {z TI TO T : Addr} {is : List Addr} {qs : List Src} {k : Nat} {Q : Unit → Shared → Prop} (t : ZipSt s.heap z TI TO is qs k) (D : Apart z TI TO is qs) (hl : qs.length = is.length)
    (hQ : ∀ h', ZipSt h' z TI TO is qs k → Heap.SameBut z s.heap h' → Q () { s with heap := h' }) : wpAny (model prog w) A (letOwnedTupleGo tg (.ref z) (.ref T)) Q E s := by
  have t' := t
  obtain ⟨⟨f0, f1, hz, hf⟩, ti, ⟨vs, to, hv⟩, it⟩ := t
  have stay : Q () s := hQ s.heap t' (Heap.SameBut.refl _ _)
  have go : wpAny (model prog w) A (do
      let o ← load z
      match o.cls, o.data with
      | .type n, .fields vs =>
        if ["enumerate", "zip", "dict_itemiterator", "dict_reverseitemiterator", "odict_iterator", "itertools.zip_longest", "itertools.pairwise"].contains n && vs[0]? == some (rawInt T) then
          rule "for.unpacks-the-owned-tuple"
          updateField z 0 .none
      | _, _ => pure ()) Q E s := by
    refine wpAny_bind (wpAny_load hz ?_)
    show wpAny _ _ (if (["enumerate", "zip", "dict_itemiterator", "dict_reverseitemiterator", "odict_iterator", "itertools.zip_longest", "itertools.pairwise"].contains "zip" &&
      (#[f0, .bool f1, .bool false, .ref TI, .ref TO] : Array Value)[0]? == some (rawInt T)) = true then _ else _) Q E s
    split
    · refine wpAny_bind (wpAny_rule ?_)
      show wpAny _ _ (setField (.ref z) 0 .none) Q E s
      refine wpAny_setField_rec hz (by simp) fun h' hz' hs' => hQ h' ?_ hs'
      replace hz' : IsZipG h' z TI TO .none f1 := hz'
      exact ⟨⟨_, _, hz', .inl rfl⟩, hs'.extBut _ _ D.TIz ti, ⟨vs, hs'.extBut _ _ D.TOz to, hv⟩, fun j i q e1 e2 => (it j i q e1 e2).at fun o x => hs'.extBut _ o (D.iz i (List.mem_of_getElem? e1)) x⟩
    · exact wpAny_pure stay
  unfold letOwnedTupleGo
  split
  · exact go
  · exact go
  · exact wpAny_pure stay
end

/-- the iterators of the sources, laid one after the other -/
def itObj (q : Src) : Obj := { cls := .type (if q.1 = true then "tuple_iterator" else "list_iterator"), data := .fields #[.ref q.2, .int 0 0] }
def laid : List Src → Heap → Heap
  | [], h => h
  | q :: qs, h => laid qs (h.push (itObj q))
theorem laid_size : ∀ (qs : List Src) (h : Heap), (laid qs h).objs.size = h.objs.size + qs.length
  | [], h => rfl
  | q :: qs, h => by rw [laid, laid_size qs, Heap.size_push, List.length_cons]; omega
theorem laid_keep : ∀ (qs : List Src) (h : Heap) {c : Addr} {o : Obj}, h.get? c = some o → (laid qs h).get? c = some o
  | [], h, c, o, e => e
  | q :: qs, h, c, o, e => laid_keep qs _ (Heap.get?_push_of_some _ e)
theorem laid_get : ∀ (qs : List Src) (h : Heap) {j : Nat} {q : Src}, qs[j]? = some q → (laid qs h).get? (h.objs.size + j) = some (itObj q)
  | [], h, j, q, e => by simp at e
  | q :: qs, h, 0, q', e => by
    simp at e; subst e
    exact laid_keep qs _ (Heap.get?_push_size _ rfl)
  | q :: qs, h, j + 1, q', e => by
    have := laid_get qs (h.push (itObj q)) (j := j) (q := q') (by simpa using e)
    rw [Heap.size_push] at this
    rw [laid, show h.objs.size + (j + 1) = h.objs.size + 1 + j by omega]
    exact this
theorem itObj_at {h : Heap} {a : Addr} {q : Src} (e : h.get? a = some (itObj q)) : ItAt h a q 0 := by
  unfold ItAt itObj at *
  obtain ⟨b, l⟩ := q
  cases b
  · simp only [Bool.false_eq_true, if_false] at e ⊢
    exact ⟨_, e, rfl, rfl⟩
  · simp only [if_true] at e ⊢
    exact ⟨_, e, rfl, rfl⟩
def news (n m : Nat) : List Addr := (List.range m).map (n + ·)
section
variable {prog : Program} {w : World} {A : Around} {E : Value → Shared → Prop} {s : Shared}
theorem pyIter_src {q : Src} {Q : Value → Shared → Prop} (hq : ∃ xs, SrcAt s.heap q xs) (h : Q (.ref s.heap.objs.size) { s with heap := s.heap.push (itObj q) }) : wpAny (model prog w) A (pyIter (.ref q.2)) Q E s := by
  obtain ⟨xs, hq⟩ := hq
  obtain ⟨b, l⟩ := q
  unfold SrcAt at hq
  unfold itObj at h
  cases b
  · simp only [Bool.false_eq_true, if_false] at hq h
    exact wpAny_pyIter_list hq h
  · simp only [if_true] at hq h
    exact wpAny_pyIter_tuple hq h
theorem laid_app : ∀ (a b : List Src) (h : Heap), laid (a ++ b) h = laid b (laid a h)
  | [], b, h => rfl
  | q :: a, b, h => laid_app a b _
theorem iterAll_src {qs : List Src} {Q : List Value → Shared → Prop} (hq : ∀ q ∈ qs, ∃ xs, SrcAt s.heap q xs) (h : Q ((news s.heap.objs.size qs.length).map Value.ref) { s with heap := laid qs s.heap }) :
    wpAny (model prog w) A (Builtin.SmallTypes.iterAll (qs.map fun q => .ref q.2)) Q E s := by
  unfold Builtin.SmallTypes.iterAll
  refine wpAny_bind (wpAny_forIn_list _ (fun rest b s' => ∃ m, rest = (qs.map fun q => Value.ref q.2).drop m ∧ m ≤ qs.length ∧ s' = { s with heap := laid (qs.take m) s.heap } ∧ b = ((news s.heap.objs.size m).map Value.ref).toArray) _ ?turn ?fin _ _ ?start)
  case start => exact ⟨0, rfl, Nat.zero_le _, rfl, rfl⟩
  case turn =>
    rintro itv rest b s' ⟨m, hrest, hm, rfl, rfl⟩
    obtain ⟨e1, e2, e3⟩ := drop_get hrest
    rw [List.length_map] at e3
    have eq : qs[m]? = some qs[m] := List.getElem?_eq_getElem e3
    rw [List.getElem?_map, eq] at e1
    cases e1
    obtain ⟨xs, hx⟩ := hq _ (List.getElem_mem e3)
    refine wpAny_bind (wpAny_holding (pyIter_src (s := { s with heap := laid (qs.take m) s.heap }) ⟨xs, hx.at fun o e => laid_keep _ _ e⟩ ?_))
    have hsz : (laid (qs.take m) s.heap).objs.size = s.heap.objs.size + m := by rw [laid_size, List.length_take]; omega
    refine wpAny_pure ⟨m + 1, e2, by omega, ?_, ?_⟩
    · rw [List.take_add_one, eq, laid_app]; rfl
    · show _ = ((news s.heap.objs.size (m + 1)).map Value.ref).toArray
      rw [hsz]
      unfold news
      rw [List.range_succ]
      simp
  case fin =>
    rintro b s' ⟨m, hrest, hm, rfl, rfl⟩
    have hml : m = qs.length := by
      have := congrArg List.length hrest
      simp at this
      omega
    subst hml
    rw [List.take_length]
    exact wpAny_pure h
theorem newClass_zip {vs : List Value} {Q : Value × List Value → Shared → Prop} (h : Q (.type "zip", vs) s) : wpAny (model prog w) A (Builtin.SmallTypes.newClass "zip" ⟨.type "zip" :: vs, []⟩) Q E s := by
  have hsub := sub_zip
  unfold Builtin.SmallTypes.newClass
  repeat (first | assumption | wp_step)
theorem meets_zipN (qs : List Src) (hn : qs.length ≤ sizeLine) : Meets (Builtin.«zip.__new__» ⟨.type "zip" :: qs.map (fun q => .ref q.2), []⟩) (fun _ R s => (∀ q ∈ qs, ∃ xs, SrcAt s.heap q xs) ∧
    R (.ok (.ret (.ref (s.heap.objs.size + qs.length + 2)))) { s with heap := ((((laid qs s.heap).push { cls := .type "tuple", data := .seq ((news s.heap.objs.size qs.length).map Value.ref).toArray }).push { cls := .type "tuple", data := .seq (((news s.heap.objs.size qs.length).map Value.ref).map fun _ => Value.none).toArray }).push
      { cls := .type "zip", data := .fields #[.none, .bool false, .bool false, .ref (s.heap.objs.size + qs.length), .ref (s.heap.objs.size + qs.length + 1)] }) }) :=
  .of_wp fun prog w A R s h => by
    obtain ⟨hp, g, d, tk, os⟩ := s
    obtain ⟨hq, h⟩ := h
    have hln : (news hp.objs.size qs.length).length = qs.length := by unfold news; rw [List.length_map, List.length_range]
    unfold Builtin.«zip.__new__»
    refine wpAny_bind (newClass_zip ?_)
    show wpAny _ _ (Builtin.SmallTypes.iterAll _ >>= _) _ _ _
    refine wpAny_bind (iterAll_src (s := ⟨hp, g, d, tk, os⟩) hq ?_)
    generalize hnl : news hp.objs.size qs.length = nl at *
    show wpAny _ _ (newTuple (nl.map Value.ref) >>= _) _ _ _
    refine wpAny_bind (wpAny_newTuple ?_ (by rw [List.length_map, hln]; exact hn))
    refine wpAny_bind (wpAny_newTuple ?_ (by rw [List.length_map, List.length_map, hln]; exact hn))
    have z1 : (laid qs hp).objs.size = hp.objs.size + qs.length := laid_size _ _
    refine wpAny_bind ?_
    unfold Builtin.SmallTypes.newRecord
    refine wpAny_newObj_type ?_ (show 5 ≤ sizeLine + 2 by decide)
    refine wpAny_pure ⟨_, rfl, ?_⟩
    have z2 : ((laid qs hp).push { cls := .type "tuple", data := .seq (nl.map Value.ref).toArray }).objs.size = hp.objs.size + qs.length + 1 := by rw [Heap.size_push, z1]
    have z3 : (((laid qs hp).push { cls := .type "tuple", data := .seq (nl.map Value.ref).toArray }).push { cls := .type "tuple", data := .seq ((nl.map Value.ref).map fun _ => Value.none).toArray }).objs.size = hp.objs.size + qs.length + 2 := by rw [Heap.size_push, z2]
    show R (.ok (.ret (.ref (((laid qs hp).push { cls := .type "tuple", data := .seq (nl.map Value.ref).toArray }).push { cls := .type "tuple", data := .seq ((nl.map Value.ref).map fun _ => Value.none).toArray }).objs.size)))
      ⟨((((laid qs hp).push { cls := .type "tuple", data := .seq (nl.map Value.ref).toArray }).push { cls := .type "tuple", data := .seq ((nl.map Value.ref).map fun _ => Value.none).toArray }).push
      { cls := .type "zip", data := .fields #[.none, .bool false, .bool false, .ref (laid qs hp).objs.size, .ref ((laid qs hp).push { cls := .type "tuple", data := .seq (nl.map Value.ref).toArray }).objs.size] }), g, d, tk, os⟩
    rw [z3, z2, z1]
    exact h
theorem news_get {n m j : Nat} {i : Addr} : (news n m)[j]? = some i ↔ j < m ∧ i = n + j := by
  unfold news
  rw [List.getElem?_map]
  by_cases h : j < m
  · rw [List.getElem?_eq_getElem (by rw [List.length_range]; exact h), List.getElem_range]
    simp [h, eq_comm]
  · rw [List.getElem?_eq_none (by rw [List.length_range]; omega)]
    simp [h]
theorem call_zipN {qs : List Src} {Q : Value → Shared → Prop} (hn : qs.length ≤ 21) (hq : ∀ q ∈ qs, ∃ xs, SrcAt s.heap q xs)
    (h : ∀ h', Apart (s.heap.objs.size + qs.length + 2) (s.heap.objs.size + qs.length) (s.heap.objs.size + qs.length + 1) (news s.heap.objs.size qs.length) qs → ZipSt h' (s.heap.objs.size + qs.length + 2) (s.heap.objs.size + qs.length) (s.heap.objs.size + qs.length + 1) (news s.heap.objs.size qs.length) qs 0 →
      h'.objs.size = s.heap.objs.size + qs.length + 3 → (∀ c o, s.heap.get? c = some o → h'.get? c = some o) → Q (.ref (s.heap.objs.size + qs.length + 2)) { s with heap := h' }) :
    wpAny (model prog w) A (call (.type "zip") (qs.map fun q => .ref q.2)) Q E s := by
  have hln : (news s.heap.objs.size qs.length).length = qs.length := by unfold news; rw [List.length_map, List.length_range]
  refine callType_new PySem.F.called_zip (by decide) (typeCall_zip_n _) (newCall_zip_n _ (by rw [List.length_map]; exact hn)) (fun obj => args_object_init_n obj _) PySem.F.entry_zip_new
    (meets_zipN qs (Nat.le_trans hn (by decide))) ⟨hq, ?_⟩
  have old : ∀ {q : Src}, q ∈ qs → q.2 < s.heap.objs.size := fun {q} hm => by
    obtain ⟨xs, x⟩ := hq q hm
    unfold SrcAt at x
    split at x
    · obtain ⟨o, e, _⟩ := x; exact Heap.lt_size e
    · obtain ⟨o, e, _⟩ := x; exact Heap.lt_size e
  have mem : ∀ {i : Addr}, i ∈ news s.heap.objs.size qs.length → ∃ j : Nat, j < qs.length ∧ i = s.heap.objs.size + j := fun {i} hm => by
    obtain ⟨j, hj⟩ := List.getElem?_of_mem hm
    exact ⟨j, news_get.mp hj⟩
  have ne : ∀ {a b : Nat}, a < b → a ≠ b := fun h e => Nat.lt_irrefl _ (e ▸ h)
  have ne' : ∀ {a b : Nat}, b < a → a ≠ b := fun h e => Nat.lt_irrefl _ (e ▸ h)
  have D : Apart (s.heap.objs.size + qs.length + 2) (s.heap.objs.size + qs.length) (s.heap.objs.size + qs.length + 1) (news s.heap.objs.size qs.length) qs := by
    refine ⟨ne (by omega), ne (by omega), ne (by omega), fun i hi => ?_, fun i hi => ?_, fun i hi => ?_, ?_, fun q hq => ?_, fun q hq => ?_, fun q hq i hi => ?_⟩
    · obtain ⟨j, h, rfl⟩ := mem hi; exact ne (by omega)
    · obtain ⟨j, h, rfl⟩ := mem hi; exact ne (by omega)
    · obtain ⟨j, h, rfl⟩ := mem hi; exact ne (by omega)
    · unfold news
      refine List.Pairwise.map _ (fun a b (h : a ≠ b) => ?_) List.nodup_range
      exact fun e => h (Nat.add_left_cancel e)
    · have : @LT.lt Nat _ q.2 s.heap.objs.size := old hq; exact ne (by omega)
    · have : @LT.lt Nat _ q.2 s.heap.objs.size := old hq; exact ne (by omega)
    · have : @LT.lt Nat _ q.2 s.heap.objs.size := old hq; obtain ⟨j, h, rfl⟩ := mem hi; exact ne (by omega)
  have g0 : (((laid qs s.heap).push { cls := .type "tuple", data := .seq ((news s.heap.objs.size qs.length).map Value.ref).toArray }).push { cls := .type "tuple", data := .seq (((news s.heap.objs.size qs.length).map Value.ref).map fun _ => Value.none).toArray }).objs.size = s.heap.objs.size + qs.length + 2 := by rw [Heap.size_push, Heap.size_push, laid_size]
  have g1 : ((laid qs s.heap).push { cls := .type "tuple", data := .seq ((news s.heap.objs.size qs.length).map Value.ref).toArray }).objs.size = s.heap.objs.size + qs.length + 1 := by rw [Heap.size_push, laid_size]
  have g2 : (laid qs s.heap).objs.size = s.heap.objs.size + qs.length := laid_size _ _
  generalize hH : (((laid qs s.heap).push { cls := .type "tuple", data := .seq ((news s.heap.objs.size qs.length).map Value.ref).toArray }).push { cls := .type "tuple", data := .seq (((news s.heap.objs.size qs.length).map Value.ref).map fun _ => Value.none).toArray }).push
      { cls := .type "zip", data := .fields #[.none, .bool false, .bool false, .ref (s.heap.objs.size + qs.length), .ref (s.heap.objs.size + qs.length + 1)] } = h' at *
  have e1 : h'.get? (s.heap.objs.size + qs.length + 2) = some { cls := .type "zip", data := .fields #[.none, .bool false, .bool false, .ref (s.heap.objs.size + qs.length), .ref (s.heap.objs.size + qs.length + 1)] } := by
    rw [← hH, ← g0]; exact Heap.get?_push_size _ rfl
  have e2 : h'.get? (s.heap.objs.size + qs.length + 1) = some { cls := .type "tuple", data := .seq (((news s.heap.objs.size qs.length).map Value.ref).map fun _ => Value.none).toArray } := by
    rw [← hH, ← g1]; exact Heap.get?_push_of_some _ (Heap.get?_push_size _ rfl)
  have e3 : h'.get? (s.heap.objs.size + qs.length) = some { cls := .type "tuple", data := .seq ((news s.heap.objs.size qs.length).map Value.ref).toArray } := by
    rw [← hH, ← g2]; exact Heap.get?_push_of_some _ (Heap.get?_push_of_some _ (Heap.get?_push_size _ rfl))
  have e4 : ∀ c o, (laid qs s.heap).get? c = some o → h'.get? c = some o := fun c o e => by
    rw [← hH]; exact Heap.get?_push_of_some _ (Heap.get?_push_of_some _ (Heap.get?_push_of_some _ e))
  have e5 : h'.objs.size = s.heap.objs.size + qs.length + 3 := by rw [← hH, Heap.size_push, g0]
  refine ⟨⟨_, e1, rfl⟩, h h' D ⟨⟨_, _, e1, .inl rfl⟩, e3, ⟨_, e2, by simp [hln]⟩, fun j i q h1 h2 => ?_⟩ e5 fun c o x => e4 c o (laid_keep _ _ x)⟩
  obtain ⟨_, rfl⟩ := news_get.mp h1
  exact itObj_at (e4 _ _ (laid_get qs s.heap h2))
end
end ZN

set_option Elab.async false
set_option linter.all false
set_option maxRecDepth 100000
set_option maxHeartbeats 4000000
/-! EvZ1: zip of any number of lists and tuples, by data. -/
namespace Ev
open PySem PySem.Spec PyProof.Rows L2

abbrev Src := ZN.Src
def SqQ (K : PySem.W.Frag) (H : Hp) (q : Src) (xs : List V) : Prop := (q.1 = true ∧ SqT K H q.2 xs) ∨ (q.1 = false ∧ SqL K H q.2 xs)
/-- the sources as they stand at each turn, the items in new tuples -/
def ItzN (K : PySem.W.Frag) (qs : List Src) : It :=
  ⟨fun i H => ∀ q ∈ qs, ∃ xs x, SqQ K H q xs ∧ xs[i]? = some x,
    fun i H v H' => ∃ t vs, v = .ref t ∧ H t = none ∧ H' = upd H t (.tup vs) ∧ vs.length = qs.length ∧ ∀ (j : Nat) (q : Src), qs[j]? = some q → ∀ xs, SqQ K H q xs → ∃ x, xs[i]? = some x ∧ vs[j]? = some x,
    fun i H => ∃ m : Nat, (∃ q xs, qs[m]? = some q ∧ SqQ K H q xs ∧ xs.length ≤ i) ∧ ∀ (j : Nat) (q : Src), j < m → qs[j]? = some q → ∃ xs, SqQ K H q xs ∧ i < xs.length⟩
section
variable {X : Cx} {pins : List (Addr × Obj)} {σ : L2.St} {H : Hp} {s : Shared}
theorem sqQ_at (I : Inv X pins σ H s) {q : Src} {xs : List V} (h : SqQ X.K H q xs) : ∃ its, Vals xs its ∧ ZN.SrcAt s.heap q its.toArray := by
  rcases h with ⟨h, h2⟩ | ⟨h, h2⟩
  · obtain ⟨its, rv, p, _⟩ := I.tuple h2
    refine ⟨its, rv, ?_⟩
    unfold ZN.SrcAt
    rw [if_pos h]
    exact p
  · obtain ⟨its, rv, p, _⟩ := I.list h2
    refine ⟨its, rv, ?_⟩
    unfold ZN.SrcAt
    rw [if_neg (by rw [h]; exact Bool.false_ne_true)]
    exact p.isList
theorem sqQ_inj (I : Inv X pins σ H s) {q : Src} {xs ys : List V} (h : SqQ X.K H q xs) (h' : SqQ X.K H q ys) : xs = ys := by
  rcases h with ⟨h, h2⟩ | ⟨h, h2⟩ <;> rcases h' with ⟨k, k2⟩ | ⟨k, k2⟩
  · exact I.tuple_inj h2 k2
  · rw [h] at k; cases k
  · rw [h] at k; cases k
  · exact I.list_inj h2 k2
theorem rows_at (I : Inv X pins σ H s) {i : Nat} : ∀ {qs : List Src}, (∀ q ∈ qs, ∃ xs x, SqQ X.K H q xs ∧ xs[i]? = some x) → ∃ vs us, Vals vs us ∧ vs.length = qs.length ∧
    (∀ (j : Nat) (q : Src), qs[j]? = some q → ∀ xs, SqQ X.K H q xs → ∃ x, xs[i]? = some x ∧ vs[j]? = some x) ∧ ∀ (j : Nat) (q : Src) (u : Value), qs[j]? = some q → us[j]? = some u → ∃ its, ZN.SrcAt s.heap q its ∧ its[i]? = some u
  | [], _ => ⟨[], [], .nil, rfl, fun j q e => by simp at e, fun j q u e => by simp at e⟩
  | q :: qs, h => by
    obtain ⟨xs, x, h1, h2⟩ := h q List.mem_cons_self
    obtain ⟨vs, us, r, l, f1, f2⟩ := rows_at I fun q hq => h q (List.mem_cons_of_mem _ hq)
    obtain ⟨its, rv, at_⟩ := sqQ_at I h1
    obtain ⟨u, hu, ru⟩ := rv.get h2
    refine ⟨x :: vs, u :: us, .cons ru r, by simp [l], fun j q' e ys hy => ?_, fun j q' u' e e2 => ?_⟩
    · cases j with
      | zero =>
        simp at e; subst e
        rw [← sqQ_inj I h1 hy]
        exact ⟨x, h2, rfl⟩
      | succ j => simpa using f1 j q' (by simpa using e) ys hy
    · cases j with
      | zero =>
        simp at e e2; subst e; subst e2
        exact ⟨_, at_, by simpa using hu⟩
      | succ j => exact f2 j q' u' (by simpa using e) (by simpa using e2)
end
theorem turn_zipN {P : Program} {w : World} {K : PySem.W.Frag} {tg : Expr} {z TI TO : Addr} {is : List Addr} {qs : List Src} (D : ZN.Apart z TI TO is qs) (hn : is ≠ []) (hn2 : is.length ≤ 21) (hlq : qs.length = is.length) :
    Turn P w K tg (ItzN K qs) (z :: TI :: TO :: is) z (fun i h => ZN.ZipSt h z TI TO is qs i) where
  mem := List.mem_cons_self
  obj := fun i h st c hc => by
    obtain ⟨⟨f0, f1, hz, _⟩, ti, ⟨vs, to, _⟩, it⟩ := st
    rcases List.mem_cons.mp hc with rfl | hc
    · exact ⟨_, hz, fun v q => nomatch q⟩
    · rcases List.mem_cons.mp hc with rfl | hc
      · exact ⟨_, ti, fun v q => nomatch q⟩
      · rcases List.mem_cons.mp hc with rfl | hc
        · exact ⟨_, to, fun v q => nomatch q⟩
        · obtain ⟨j, hj⟩ := List.getElem?_of_mem hc
          have hl : j < qs.length := by rw [hlq]; exact (List.getElem?_eq_some_iff.mp hj).1
          exact (it j c _ hj (List.getElem?_eq_getElem hl)).obj
  keep := fun i h h' st k => st.keep hlq fun b hb o e => k b (by
    rcases hb with rfl | rfl | rfl | hb
    · simp
    · simp
    · simp
    · exact List.mem_cons_of_mem _ (List.mem_cons_of_mem _ (List.mem_cons_of_mem _ hb))) o e
  item := by
    intro X hP hw hK hc i pins s σ H E I hf st hg
    subst hP hw hK
    obtain ⟨vs, us, rv, hl, f1, f2⟩ := rows_at I hg
    have hul : us.length = is.length := by rw [← rv.length, hl, hlq]
    have hz : z < s.heap.objs.size := by
      obtain ⟨⟨f0, f1, hz, _⟩, _⟩ := st
      exact Heap.lt_size hz
    refine ZN.pyNext_itemN D hn (Nat.le_trans hn2 (by decide)) hlq hul st (fun j q x e1 e2 => f2 j q x e1 e2) fun h' st' hT hsz hk => ?_
    refine ⟨_, rfl, ZN.letGo_zipG (s := { s with heap := h' }) st' D hlq fun h'' st'' sb => ?_⟩
    have hT2 : h''.get? s.heap.objs.size = some { cls := .type "tuple", data := .seq us.toArray } := (sb.2 _ (Nat.ne_of_gt hz)).trans hT
    have new : ObjOk X.prog X.w (upd H s.heap.objs.size (.tup vs)) h'' s.heap.objs.size (.tup vs) :=
      ⟨by rw [hl, hlq]; exact Nat.le_trans hn2 (by decide), us, rv, ⟨_, hT2, rfl, _, rfl⟩⟩
    have I1 : Inv X pins σ (upd H s.heap.objs.size (.tup vs)) { s with heap := h'' } :=
      I.turnedNew (t' := s.toks) (ch := z :: TI :: TO :: is) (fun c o hb q => (sb.2 c (fun q' => hb (by simp [q']))).trans (hk c o (fun q' => hb (by simp [q'])) (fun q' => hb (by simp [q'])) (fun q' => hb (List.mem_cons_of_mem _ (List.mem_cons_of_mem _ (List.mem_cons_of_mem _ q')))) q)) hf (Nat.le_refl _) new
    refine ⟨.ref s.heap.objs.size, _, I1, rfl, ⟨_, vs, rfl, I.hok.fresh (Nat.le_refl _), rfl, hl, f1⟩, st'', fun c hcm => ?_⟩
    have hlt : c < s.heap.objs.size := by
      obtain ⟨⟨f0, f1, hz, _⟩, ti, ⟨vs, to, _⟩, it⟩ := st
      rcases List.mem_cons.mp hcm with rfl | hc
      · exact Heap.lt_size hz
      · rcases List.mem_cons.mp hc with rfl | hc
        · exact Heap.lt_size ti
        · rcases List.mem_cons.mp hc with rfl | hc
          · exact Heap.lt_size to
          · obtain ⟨j, hj⟩ := List.getElem?_of_mem hc
            have hl : j < qs.length := by rw [hlq]; exact (List.getElem?_eq_some_iff.mp hj).1
            obtain ⟨o, e, _⟩ := (it j c _ hj (List.getElem?_eq_getElem hl)).obj
            exact Heap.lt_size e
    rw [upd_ne (Nat.ne_of_lt hlt)]
    exact (hf c hcm).1
  done := by
    intro X hP hw hK hc i pins s σ H E I hf st hg
    subst hP hw hK
    obtain ⟨m, ⟨q, xs, e1, e2, e3⟩, hall⟩ := hg
    refine ZN.pyNext_endN (I.ok.hd hc) D (Nat.le_trans hn2 (by decide)) hlq st ⟨m, ?_, fun j q hj hq => ?_⟩ fun h' hk => ⟨rfl, I.turnedL (t' := s.toks) (ch := z :: TI :: TO :: is) (fun c o hb q =>
      hk c o (fun q' => hb (by simp [q'])) (fun q' => hb (by simp [q'])) (fun q' => hb (List.mem_cons_of_mem _ (List.mem_cons_of_mem _ (List.mem_cons_of_mem _ q')))) q) hf⟩
    · obtain ⟨its, rv, at_⟩ := sqQ_at I e2
      have l1 := rv.length
      exact ⟨q, _, e1, at_, by simp <;> omega⟩
    · obtain ⟨ys, h1, h2⟩ := hall j q hj hq
      obtain ⟨its, rv, at_⟩ := sqQ_at I h1
      have l1 := rv.length
      exact ⟨_, its[i]'(by omega), at_, by simp⟩
  self := fun A i s Q E st h => ZN.pyIter_zipG st h
/-! ### zip(a, b, ..), zip(*xs) as what is walked -/
def iZipN (K : PySem.W.Frag) (ta : TA) : TI := fun σ H R => ta σ H fun vs H1 => ∃ qs : List Src, vs = qs.map (fun q => V.ref q.2) ∧ qs ≠ [] ∧ qs.length ≤ 21 ∧ (∀ q ∈ qs, ∃ xs, SqQ K H1 q xs) ∧ R (ItzN K qs) H1
/-- what is known of a zip that has just been made -/
structure ZipMade (X : Cx) (pins : List (Addr × Obj)) (σ : L2.St) (H : Hp) (qs : List Src) (z TI TO : Addr) (is : List Addr) (s : Shared) : Prop where
  inv : Inv X pins σ H s
  ap : ZN.Apart z TI TO is qs
  st : ZN.ZipSt s.heap z TI TO is qs 0
  ne : is ≠ []
  le : is.length ≤ 21
  len : qs.length = is.length
  fp : ∀ b ∈ z :: TI :: TO :: is, FpOk X pins H b
theorem vals_refs : ∀ {qs : List Src} {us : List Value}, Vals (qs.map fun q => V.ref q.2) us → us = qs.map fun q => Value.ref q.2
  | [], _, .nil => rfl
  | q :: qs, _, .cons r t => by
    cases (show _ = Value.ref q.2 from r)
    rw [vals_refs t]; rfl
theorem call_zip_made {X : Cx} {pins : List (Addr × Obj)} {σ : L2.St} {H : Hp} {s : Shared} {A : PySem.Around} {E : Value → Shared → Prop} {qs : List Src} {Q : Value → Shared → Prop} (I : Inv X pins σ H s) (hne : qs ≠ []) (hle : qs.length ≤ 21) (hq : ∀ q ∈ qs, ∃ xs, SqQ X.K H q xs)
    (h : ∀ z TI TO is s', ZipMade X pins σ H qs z TI TO is s' → Q (.ref z) s') : wpAny (model X.prog X.w) A (call (.type "zip") (qs.map fun q => .ref q.2)) Q E s := by
  have hln : (ZN.news s.heap.objs.size qs.length).length = qs.length := by unfold ZN.news; rw [List.length_map, List.length_range]
  refine ZN.call_zipN hle (fun q hm => ?_) fun h' D st hsz hk => ?_
  · obtain ⟨xs, hx⟩ := hq q hm
    obtain ⟨its, _, at_⟩ := sqQ_at I hx
    exact ⟨_, at_⟩
  · refine h _ _ _ _ { s with heap := h' } ⟨I.kept (t' := s.toks) hk, D, st, fun e => ?_, by rw [hln]; exact hle, hln.symm, fun b hb => ?_⟩
    · rw [e] at hln
      exact hne (List.eq_nil_of_length_eq_zero hln.symm)
    · have hle : @LE.le Nat _ s.heap.objs.size b := by
        rcases List.mem_cons.mp hb with rfl | hb
        · omega
        · rcases List.mem_cons.mp hb with rfl | hb
          · omega
          · rcases List.mem_cons.mp hb with rfl | hb
            · omega
            · obtain ⟨j, hj⟩ := List.getElem?_of_mem hb
              obtain ⟨_, rfl⟩ := ZN.news_get.mp hj
              exact Nat.le_add_right _ _
      exact I.fpOk hle (I.hok.fresh hle)
theorem ZipMade.pie {X : Cx} {pins : List (Addr × Obj)} {σ : L2.St} {H : Hp} {qs : List Src} {z TI TO : Addr} {is : List Addr} {s : Shared} {tg : Expr} {R : It → Hp → Prop} {E : Value → Shared → Prop} (m : ZipMade X pins σ H qs z TI TO is s) (q : R (ItzN X.K qs) H) :
    wpAny (model X.prog X.w) X.A (pyIter (.ref z)) (PIE X pins σ tg R) E s :=
  ZN.pyIter_zipG m.st ⟨z, z :: TI :: TO :: is, _, _, H, rfl, m.inv, turn_zipN m.ap m.ne m.le m.len, m.st, m.fp, q⟩
theorem pi_zipN {X : Cx} {e : Expr} {es : List Expr} {tg : Expr} {ta : TA} {p pos : Pos} (hg : Gl X "zip") (hm : X.mg "zip" = none) (ha : PA X (e :: es) ta)
    (hs : starEach (e :: es) X.env = (false, eval e X.env) :: starEach es X.env) (hpl : (backTo pos (starEach es X.env)).any (·.1) = false) :
    PI X tg (.Call (.Name "zip" p) (e :: es) [] pos) (iZipN X.K ta) := by
  refine ⟨fun pins s σ H R I h => ?_⟩
  refine Call_ (ld_blt I hg hm PyProof.Rows.boot_zip (PyProof.Rows.callWith_type1 (thn (ha.run pos pins s σ H _ I h) fun us s1 ⟨vs, H1, I1, r1, q1⟩ => ?_) hs hpl))
  obtain ⟨qs, ex, hne, hle, hq, q1⟩ := q1
  subst ex
  rw [vals_refs r1]
  exact call_zip_made I1 hne hle hq fun z TI TO is s' m => m.pie q1
/-- zip(*xs) -/
def iZipS (K : PySem.W.Frag) (te : TE) : TI := fun σ H R => te σ H fun x H1 => ∃ (a : Addr) (qs : List Src), x = .ref a ∧ (SqT K H1 a (qs.map fun q => V.ref q.2) ∨ SqL K H1 a (qs.map fun q => V.ref q.2)) ∧ qs ≠ [] ∧ qs.length ≤ 21 ∧ (∀ q ∈ qs, ∃ xs, SqQ K H1 q xs) ∧ R (ItzN K qs) H1
theorem pi_zipS {X : Cx} {e tg : Expr} {te : TE} {p p2 pos : Pos} (hg : Gl X "zip") (hm : X.mg "zip" = none) (he : PE X e te) :
    PI X tg (.Call (.Name "zip" p) [.Starred e p2] [] pos) (iZipS X.K te) := by
  refine ⟨fun pins s σ H R I h => ?_⟩
  refine Call_ (ld_blt I hg hm PyProof.Rows.boot_zip ?_)
  show wpAny _ _ (callWith pos (.type "zip") [] [(true, (do let v ← eval e X.env; standAt pos; pure v))] []) _ _ _
  refine PySem.W.ks_call (P := fun _ => True) rfl (fun h _ => ⟨.machine, .inr (.inl rfl), .now⟩) (PySem.W.ks_lone (thn (he.run pins s σ H _ I h) fun v s1 ⟨x, H1, I1, r1, a, qs, ex, hx, hne, hle, hq, q1⟩ => ?_))
  subst ex
  obtain rfl : v = Value.ref a := r1
  refine StX.star_any I1 hx fun us s2 I2 rv => ⟨trivial, ?_⟩
  rw [vals_refs rv]
  exact call_zip_made I2 hne hle hq fun z TI TO is s' m => m.pie q1

/-! ### by data -/
/-- one source: frozen, its items -/
def src1 (d : D) : M (List D) := fun S => match d with
  | .tup xs => .ok xs S
  | d => shz d S
def srcs : List D → M (List (List D))
  | [] => ret []
  | d :: ds => bnd (src1 d) fun xs => bnd (srcs ds) fun r => ret (xs :: r)
def minLen : List (List D) → Nat
  | [] => 0
  | [xs] => xs.length
  | xs :: r => min xs.length (minLen r)
def rowD (xss : List (List D)) (i : Nat) : D := .tup (xss.map fun xs => xs.getD i .non)
def rowsD (xss : List (List D)) : List D := (List.range (minLen xss)).map (rowD xss)
def dZipN (ds : List D) : M (List D) := bnd (srcs ds) fun xss => if xss ≠ [] ∧ xss.length ≤ 21 then ret (rowsD xss) else stk
def dZipS (d : D) : M (List D) := fun S => match seqT d with
  | some xs => dZipN xs S
  | none => match seqL S d with
    | some xs => dZipN xs S
    | none => .stuck
def SrcD (T : Kit) (G : Gh) (q : Src) (ds : List D) : Prop := ∃ vs, Reps T G ds vs ∧ ((q.1 = true ∧ SqT T.K G.H q.2 vs) ∨ (q.1 = false ∧ G.H q.2 = some (.lst vs)))
inductive SrcsD (T : Kit) (G : Gh) : List Src → List (List D) → Prop
  | nil : SrcsD T G [] []
  | cons {q : Src} {qs : List Src} {ds : List D} {dss : List (List D)} : SrcD T G q ds → SrcsD T G qs dss → SrcsD T G (q :: qs) (ds :: dss)
section
variable {T : Kit} {G : Gh} {S : Store} {H : Hp}
theorem SrcD.le {G' : Gh} {q : Src} {ds : List D} (l : Le G G') (h : SrcD T G q ds) : SrcD T G' q ds := by
  obtain ⟨vs, r, h⟩ := h
  refine ⟨vs, r.le l, ?_⟩
  rcases h with ⟨h, k⟩ | ⟨h, k⟩
  · exact .inl ⟨h, sqT_le l.H k⟩
  · exact .inr ⟨h, l.H _ _ k⟩
theorem SrcsD.le {G' : Gh} {qs : List Src} {dss : List (List D)} (l : Le G G') (h : SrcsD T G qs dss) : SrcsD T G' qs dss := by
  induction h with
  | nil => exact .nil
  | cons a _ ih => exact .cons (a.le l) ih
theorem SrcsD.len {qs : List Src} {dss : List (List D)} (h : SrcsD T G qs dss) : qs.length = dss.length := by
  induction h with
  | nil => rfl
  | cons a _ ih => simp [ih]
theorem SrcD.at {K : PySem.W.Frag} (hK : K = T.K) {G1 : Gh} {S1 : Store} {H1 : Hp} {q : Src} {ds : List D} (h : SrcD T G q ds) (l : Le G G1) (hH : Held T G1 S1 H1) : ∃ vs, SqQ K H1 q vs ∧ Reps T G1 ds vs := by
  obtain ⟨vs, r, h⟩ := h
  refine ⟨vs, ?_, r.le l⟩
  rcases h with ⟨h, k⟩ | ⟨h, k⟩
  · exact .inl ⟨h, hK ▸ sqT_le hH.ext (sqT_le l.H k)⟩
  · exact .inr ⟨h, SqL.of (hH.ext _ _ (l.H _ _ k))⟩
theorem src1_ok {d : D} {x : V} {ds : List D} {S' : Store} (hH : Held T G S H) (r : Rep T G d x) (e : src1 d S = .ok ds S') : ∃ q G', x = .ref q.2 ∧ Step G H G' H ∧ Held T G' S' H ∧ SrcD T G' q ds := by
  unfold src1 at e
  split at e
  · cases e
    simp only [Rep] at r
    obtain ⟨a, vs, rfl, q, z⟩ := r
    exact ⟨(true, a), G, rfl, .refl, hH, vs, z, .inl ⟨rfl, q⟩⟩
  · obtain ⟨a, vs, G', rfl, st, hd, q, z⟩ := shz_ok hH r e
    exact ⟨(false, a), G', rfl, st, hd, vs, z, .inr ⟨rfl, q⟩⟩
theorem srcs_ok : ∀ {ds : List D} {xs : List V} {dss : List (List D)} {G : Gh} {S S' : Store}, Held T G S H → Reps T G ds xs → srcs ds S = .ok dss S' → ∃ qs G', xs = qs.map (fun q => V.ref q.2) ∧ Step G H G' H ∧ Held T G' S' H ∧ SrcsD T G' qs dss
  | [], xs, dss, G, S, S', hH, r, e => by
    simp only [Reps] at r; subst r
    cases e
    exact ⟨[], G, rfl, .refl, hH, .nil⟩
  | d :: ds, xs, dss, G, S, S', hH, r, e => by
    simp only [Reps] at r
    obtain ⟨v, vs, rfl, r1, r2⟩ := r
    unfold srcs bnd at e
    cases e1 : src1 d S with
    | stuck => rw [e1] at e; cases e
    | exc c fs S1 => rw [e1] at e; cases e
    | ok xs1 S1 =>
      rw [e1] at e
      dsimp only at e
      cases e2 : srcs ds S1 with
      | stuck => rw [e2] at e; cases e
      | exc c fs S2 => rw [e2] at e; cases e
      | ok r S2 =>
        rw [e2] at e
        cases e
        obtain ⟨q, G1, rfl, st1, hd1, k1⟩ := src1_ok hH r1 e1
        obtain ⟨qs, G2, rfl, st2, hd2, k2⟩ := srcs_ok hd1 (r2.le st1.le) e2
        exact ⟨q :: qs, G2, rfl, st1.trans st2, hd2, .cons (k1.le st2.le) k2⟩
theorem srcs_noexc : ∀ {ds : List D} {S S' : Store} {c : Nat} {fs : List D}, srcs ds S ≠ .exc c fs S'
  | [], S, S', c, fs, e => by cases e
  | d :: ds, S, S', c, fs, e => by
    unfold srcs bnd at e
    cases e1 : src1 d S with
    | stuck => rw [e1] at e; cases e
    | exc c fs S1 =>
      unfold src1 shz at e1
      split at e1
      · cases e1
      · split at e1
        · cases e1
        · split at e1 <;> cases e1
        · cases e1
    | ok xs1 S1 =>
      rw [e1] at e
      dsimp only at e
      cases e2 : srcs ds S1 with
      | stuck => rw [e2] at e; cases e
      | exc c fs S2 => exact srcs_noexc e2
      | ok r S2 => rw [e2] at e; cases e
theorem minLen_lt : ∀ {xss : List (List D)} {i : Nat}, i < minLen xss → ∀ xs ∈ xss, i < xs.length
  | [], i, h, xs, hx => by cases hx
  | [ys], i, h, xs, hx => by
    simp at hx; subst hx; exact h
  | ys :: zs :: r, i, h, xs, hx => by
    have h' : i < min ys.length (minLen (zs :: r)) := h
    rcases List.mem_cons.mp hx with rfl | hx
    · omega
    · exact minLen_lt (by omega) xs hx
theorem minLen_le : ∀ {xss : List (List D)} {i : Nat}, xss ≠ [] → minLen xss ≤ i → ∃ m : Nat, (∃ xs, xss[m]? = some xs ∧ xs.length ≤ i) ∧ ∀ (j : Nat) xs, j < m → xss[j]? = some xs → i < xs.length
  | [], i, h, _ => absurd rfl h
  | [ys], i, _, h => ⟨0, ⟨ys, rfl, h⟩, fun j xs hj => absurd hj (Nat.not_lt_zero _)⟩
  | ys :: zs :: r, i, _, h => by
    have h' : min ys.length (minLen (zs :: r)) ≤ i := h
    by_cases hy : ys.length ≤ i
    · exact ⟨0, ⟨ys, rfl, hy⟩, fun j xs hj => absurd hj (Nat.not_lt_zero _)⟩
    · obtain ⟨m, ⟨xs, e1, e2⟩, h2⟩ := minLen_le (xss := zs :: r) (i := i) (by simp) (by omega)
      refine ⟨m + 1, ⟨xs, by simpa using e1, e2⟩, fun j ws hj e => ?_⟩
      cases j with
      | zero => simp at e; subst e; omega
      | succ j => exact h2 j ws (by omega) (by simpa using e)
theorem rowsD_len {xss : List (List D)} : (rowsD xss).length = minLen xss := by unfold rowsD; simp
theorem rowsD_get {xss : List (List D)} {i : Nat} (h : i < minLen xss) : (rowsD xss)[i]? = some (rowD xss i) := by
  unfold rowsD
  rw [List.getElem?_map, List.getElem?_range h]; rfl
theorem SrcsD.get {qs : List Src} {dss : List (List D)} (h : SrcsD T G qs dss) : ∀ (j : Nat) (q : Src), qs[j]? = some q → ∃ ds, dss[j]? = some ds ∧ SrcD T G q ds := by
  induction h with
  | nil => intro j q e; simp at e
  | cons a _ ih =>
    intro j q e
    cases j with
    | zero => simp at e; subst e; exact ⟨_, rfl, a⟩
    | succ j => simpa using ih j q (by simpa using e)
theorem row_reps {K : PySem.W.Frag} (hK : K = T.K) {G1 : Gh} {S1 : Store} {H1 : Hp} {i : Nat} (l : Le G G1) (hH : Held T G1 S1 H1) : ∀ {qs : List Src} {dss : List (List D)} {vs : List V}, SrcsD T G qs dss → (∀ xs ∈ dss, i < xs.length) → vs.length = qs.length →
    (∀ (j : Nat) (q : Src), qs[j]? = some q → ∀ xs, SqQ K H1 q xs → ∃ x, xs[i]? = some x ∧ vs[j]? = some x) → Reps T G1 (dss.map fun xs => xs.getD i .non) vs
  | _, _, [], .nil, _, _, _ => reps_nil
  | _, _, [], .cons _ _, _, h, _ => by simp at h
  | _, _, v :: vs, .nil, _, h, _ => by simp at h
  | q :: qs, ds :: dss, v :: vs, .cons a r, hl, h, f => by
    obtain ⟨ws, k1, k2⟩ := a.at hK l hH
    obtain ⟨x, e1, e2⟩ := f 0 q rfl ws k1
    have e2' : v = x := by simpa using e2
    subst e2'
    obtain ⟨d, e3, k3⟩ := reps_getV k2 e1
    refine reps_cons (d := ds.getD i .non) ?_ (row_reps hK l hH r (fun xs hx => hl xs (List.mem_cons_of_mem _ hx)) (by simpa using h) fun j q' e ys hy => by simpa using f (j + 1) q' (by simpa using e) ys hy)
    rw [List.getD_eq_getElem?_getD, e3]
    exact k3
theorem relI_zipN {K : PySem.W.Frag} (hK : K = T.K) {qs : List Src} {dss : List (List D)} (h : SrcsD T G qs dss) (hne : dss ≠ []) : relI T G (rowsD dss) (ItzN K qs) :=
  relI_new fun i G1 S1 H1 l hH => by
    rw [rowsD_len]
    refine ⟨fun hi q hq => ?_, fun hi => ?_, fun x H2 hi y => ?_⟩
    · obtain ⟨j, hj⟩ := List.getElem?_of_mem hq
      obtain ⟨ds, e1, k⟩ := h.get j q hj
      obtain ⟨vs, k1, k2⟩ := k.at hK l hH
      have := minLen_lt hi ds (List.mem_of_getElem? e1)
      have hl := k2.len
      exact ⟨vs, vs[i]'(by omega), k1, List.getElem?_eq_getElem _⟩
    · obtain ⟨m, ⟨ds, e1, e2⟩, h2⟩ := minLen_le hne hi
      have hlen := h.len
      have hm : m < qs.length := by rw [hlen]; exact (List.getElem?_eq_some_iff.mp e1).1
      obtain ⟨ds', e3, k⟩ := h.get m _ (List.getElem?_eq_getElem hm)
      rw [e1] at e3; cases e3
      obtain ⟨vs, k1, k2⟩ := k.at hK l hH
      refine ⟨m, ⟨_, vs, List.getElem?_eq_getElem hm, k1, by rw [← k2.len]; exact e2⟩, fun j q hj hq => ?_⟩
      obtain ⟨es, e4, k4⟩ := h.get j q hq
      obtain ⟨ws, k5, k6⟩ := k4.at hK l hH
      exact ⟨ws, k5, by rw [← k6.len]; exact h2 j es hj e4⟩
    · obtain ⟨t, vs, rfl, ht, rfl, hl, f⟩ := y
      exact ⟨dss.map fun xs => xs.getD i .non, vs, t, (by rw [rowsD_get hi]; rfl), rfl, ht, rfl, row_reps hK l hH h (minLen_lt hi) hl f⟩
end
section
variable {T : Kit} {X : Cx} {W : WX} {pos p p2 : Pos} {e tg : Expr} {es : List Expr} {f : Envd → M (List D)} {fe : Envd → M D}
theorem dZipN_pst {G : Gh} {S : Store} {H : Hp} {Wx : XK} {ds : List D} {xs : List V} {Q : Gh → Store → List D → It → Hp → Prop} (hK : X.K = T.K) (hH : Held T G S H) (r : Reps T G ds xs) (pp : Pst T (relI T) G H Wx (dZipN ds S) Q) :
    ∃ qs : List Src, xs = qs.map (fun q => V.ref q.2) ∧ qs ≠ [] ∧ qs.length ≤ 21 ∧ (∀ q ∈ qs, ∃ ys, SqQ X.K H q ys) ∧ ∃ G' S' ds', Q G' S' ds' (ItzN X.K qs) H := by
  unfold dZipN bnd at pp
  cases e1 : srcs ds S with
  | stuck => rw [e1] at pp; exact pp.elim
  | exc c fs S1 => exact absurd e1 srcs_noexc
  | ok dss S1 =>
    rw [e1] at pp
    dsimp only at pp
    split at pp
    · rename_i hc
      obtain ⟨qs, G1, rfl, st, hd, k⟩ := srcs_ok hH r e1
      have hlen := k.len
      refine ⟨qs, rfl, fun z => hc.1 (List.eq_nil_of_length_eq_zero (by rw [← hlen, z]; rfl)), by omega, fun q hq => ?_, G1, S1, _, pp G1 H _ st hd (relI_zipN hK k hc.1)⟩
      obtain ⟨j, hj⟩ := List.getElem?_of_mem hq
      obtain ⟨ds, _, k⟩ := k.get j q hj
      obtain ⟨vs, k1, _⟩ := k.at hK .refl hd
      exact ⟨vs, k1⟩
    · exact pp.elim
theorem vi_zipN (hK : X.K = T.K) (hg : Gl X "zip") (hm : X.mg "zip" = none) (ha : VA T X W (e :: es) f) (hs : noStar (e :: es) = true) : VI T X W tg (.Call (.Name "zip" p) (e :: es) [] pos) (fun env => bnd (f env) dZipN) := by
  refine (pi_zipN hg hm ha (star_cons hs) (star_any (noStar_tail hs))).imp fun σ H Q ⟨G, S, env, hE, hH, pp⟩ => ?_
  refine ⟨G, S, env, hE, hH, (pp.bnd (rel := Reps T)).mono fun G1 S1 ds xs H1 st1 hd1 r1 p1 => ?_⟩
  obtain ⟨qs, h1, h2, h3, h4, _, _, _, h5⟩ := dZipN_pst hK hd1 r1 p1
  exact ⟨qs, h1, h2, h3, h4, h5⟩
theorem vi_zipS (hK : X.K = T.K) (hg : Gl X "zip") (hm : X.mg "zip" = none) (he : VE T X W e fe) : VI T X W tg (.Call (.Name "zip" p) [.Starred e p2] [] pos) (fun env => bnd (fe env) dZipS) := by
  refine (pi_zipS hg hm he).imp fun σ H Q ⟨G, S, env, hE, hH, pp⟩ => ?_
  refine ⟨G, S, env, hE, hH, (pp.bnd (rel := Rep T)).mono fun G1 S1 d x H1 st1 hd1 r1 p1 => ?_⟩
  unfold dZipS at p1
  cases e1 : seqT d with
  | some xs =>
    rw [e1] at p1
    obtain ⟨a, vs, rfl, q1, z1⟩ := seqT_ok hK.symm hd1 r1 e1
    obtain ⟨qs, rfl, h2, h3, h4, _, _, _, h5⟩ := dZipN_pst hK hd1 z1 p1
    exact ⟨a, qs, rfl, .inl q1, h2, h3, h4, h5⟩
  | none =>
    rw [e1] at p1
    dsimp only at p1
    cases e2 : seqL S1 d with
    | none => rw [e2] at p1; exact p1.elim
    | some xs =>
      rw [e2] at p1
      obtain ⟨a, vs, rfl, q1, z1⟩ := seqL_ok hd1 r1 e2
      obtain ⟨qs, rfl, h2, h3, h4, _, _, _, h5⟩ := dZipN_pst hK hd1 z1 p1
      exact ⟨a, qs, rfl, .inr (SqL.of q1), h2, h3, h4, h5⟩
end
end Ev

set_option Elab.async false
set_option linter.all false
set_option maxRecDepth 100000
set_option maxHeartbeats 4000000
/-! EvZ2: list(zip(..)). -/
namespace Ev
open PySem PySem.Spec PyProof.Rows L2

theorem zip_no_len : typeLookup (.type "zip") "__len__" = pure none := by rw [typeLookup_type, builtinLookup_eq_fast]; kernel_rfl
theorem zip_no_hint : typeLookup (.type "zip") "__length_hint__" = pure none := by rw [typeLookup_type, builtinLookup_eq_fast]; kernel_rfl
/-- the items, one after the other into a new list -/
def Fill (J : It) (Dl : Addr) (H : Hp) (Q : Hp → Prop) : Prop := ∃ Wf : Nat → Nat → Hp → Prop, (∃ m, Wf 0 m (upd H Dl (.lst []))) ∧ ∀ i m H, Wf i m H →
  (J.stop i H ∧ Q H) ∨ (J.go i H ∧ ∃ Nx : Hp → Prop, (∀ H', Nx H' → ∃ m', m' < m ∧ Wf (i + 1) m' H') ∧ ∀ x H', J.yld i H x H' → ∃ acc, H' Dl = some (.lst acc) ∧ acc.length < sizeLine ∧ Nx (upd H' Dl (.lst (acc ++ [x]))))
section
variable {X : Cx} {pins : List (Addr × Obj)} {σ : L2.St} {H : Hp} {s : Shared} {qs : List Src} {z TI TO : Addr} {is : List Addr}
theorem zip_item {A : PySem.Around} {E : Value → Shared → Prop} {i : Nat} (I : Inv X pins σ H s) (D : ZN.Apart z TI TO is qs) (st : ZN.ZipSt s.heap z TI TO is qs i) (hn : is ≠ []) (hn2 : is.length ≤ 21) (hlq : qs.length = is.length) (hf : ∀ b ∈ z :: TI :: TO :: is, FpOk X pins H b) (hg : (ItzN X.K qs).go i H) :
    wpAny (model X.prog X.w) A (pyNext (.ref z)) (fun r s1 => ∃ u, r = some u ∧ ∃ x H', Inv X pins σ H' s1 ∧ RelV x u ∧ (ItzN X.K qs).yld i H x H' ∧ ZN.ZipSt s1.heap z TI TO is qs (i + 1) ∧ ∀ b ∈ z :: TI :: TO :: is, H' b = none) E s := by
  obtain ⟨vs, us, rv, hl, f1, f2⟩ := rows_at I hg
  have hul : us.length = is.length := by rw [← rv.length, hl, hlq]
  refine ZN.pyNext_itemN D hn (Nat.le_trans hn2 (by decide)) hlq hul st (fun j q x e1 e2 => f2 j q x e1 e2) fun h' st' hT hsz hk => ?_
  have new : ObjOk X.prog X.w (upd H s.heap.objs.size (.tup vs)) h' s.heap.objs.size (.tup vs) :=
    ⟨by rw [hl, hlq]; exact Nat.le_trans hn2 (by decide), us, rv, ⟨_, hT, rfl, _, rfl⟩⟩
  have I1 : Inv X pins σ (upd H s.heap.objs.size (.tup vs)) { s with heap := h' } :=
    I.turnedNew (t' := s.toks) (ch := z :: TI :: TO :: is) (fun c o hb q => hk c o (fun q' => hb (by simp [q'])) (fun q' => hb (by simp [q'])) (fun q' => hb (List.mem_cons_of_mem _ (List.mem_cons_of_mem _ (List.mem_cons_of_mem _ q')))) q) hf (Nat.le_refl _) new
  refine ⟨_, rfl, .ref s.heap.objs.size, _, I1, rfl, ⟨_, vs, rfl, I.hok.fresh (Nat.le_refl _), rfl, hl, f1⟩, st', fun c hcm => ?_⟩
  obtain ⟨o, e, _⟩ := (turn_zipN (P := X.prog) (w := X.w) (K := X.K) (tg := .Constant .none 0 ⟨0, 0, 0, 0⟩) D hn hn2 hlq).obj i s.heap st c hcm
  rw [upd_ne (Nat.ne_of_lt (Heap.lt_size e))]
  exact (hf c hcm).1
theorem zip_end {A : PySem.Around} {E : Value → Shared → Prop} {i : Nat} (hh : A.handled = none) (I : Inv X pins σ H s) (D : ZN.Apart z TI TO is qs) (st : ZN.ZipSt s.heap z TI TO is qs i) (hn2 : is.length ≤ 21) (hlq : qs.length = is.length) (hf : ∀ b ∈ z :: TI :: TO :: is, FpOk X pins H b) (hg : (ItzN X.K qs).stop i H) :
    wpAny (model X.prog X.w) A (pyNext (.ref z)) (fun r s1 => r = none ∧ Inv X pins σ H s1) E s := by
  obtain ⟨m, ⟨q, xs, e1, e2, e3⟩, hall⟩ := hg
  refine ZN.pyNext_endN hh D (Nat.le_trans hn2 (by decide)) hlq st ⟨m, ?_, fun j q hj hq => ?_⟩ fun h' hk => ⟨rfl, I.turnedL (t' := s.toks) (ch := z :: TI :: TO :: is) (fun c o hb q =>
    hk c o (fun q' => hb (by simp [q'])) (fun q' => hb (by simp [q'])) (fun q' => hb (List.mem_cons_of_mem _ (List.mem_cons_of_mem _ (List.mem_cons_of_mem _ q')))) q) hf⟩
  · obtain ⟨its, rv, at_⟩ := sqQ_at I e2
    have l1 := rv.length
    exact ⟨q, _, e1, at_, by simp <;> omega⟩
  · obtain ⟨ys, h1, h2⟩ := hall j q hj hq
    obtain ⟨its, rv, at_⟩ := sqQ_at I h1
    have l1 := rv.length
    exact ⟨_, its[i]'(by omega), at_, by simp⟩
/-- the loop that fills the list at S -/
theorem fill_loop {A : PySem.Around} {R : Result → Shared → Prop} {S : Addr} {Q : Hp → Prop} (hh : A.handled = none) (D : ZN.Apart z TI TO is qs) (hn : is ≠ []) (hn2 : is.length ≤ 21) (hlq : qs.length = is.length) {Wf : Nat → Nat → Hp → Prop}
    (fpS : ∀ b ∈ z :: TI :: TO :: is, b ≠ S)
    (turn : ∀ i m H, Wf i m H → ((ItzN X.K qs).stop i H ∧ Q H) ∨ ((ItzN X.K qs).go i H ∧ ∃ Nx : Hp → Prop, (∀ H', Nx H' → ∃ m', m' < m ∧ Wf (i + 1) m' H') ∧ ∀ x H', (ItzN X.K qs).yld i H x H' → ∃ acc, H' S = some (.lst acc) ∧ acc.length < sizeLine ∧ Nx (upd H' S (.lst (acc ++ [x])))))
    (hR : ∀ H s, Inv X pins σ H s → Q H → R (.ok (.ret .none)) s) :
    ∀ (m i : Nat) (H : Hp) (s : Shared), Wf i m H → Inv X pins σ H s → ZN.ZipSt s.heap z TI TO is qs i → (∀ b ∈ z :: TI :: TO :: is, FpOk X pins H b) → codeAny (model X.prog X.w) A (.builtin "list.extend.loop" ⟨[.ref S, .ref z, .none], []⟩) R s := by
  intro m
  induction m using Nat.strongRecOn with
  | _ m ih =>
    intro i H s hw I st hf
    refine codeAny_builtin PySem.F.entry_extend_loop ?_
    rw [Around.under_plainId PySem.F.plain_extend_loop _]
    show wpAny _ A.in1 (pyNext (.ref z) >>= _) _ _ s
    rcases turn i m H hw with ⟨stop, q⟩ | ⟨go, Nx, hNx, step⟩
    · refine wpAny_bind (wpAny_mono (zip_end (E := fun _ _ => False) (show A.in1.handled = none from hh) I D st hn2 hlq hf stop) (fun r s1 ⟨hr, I1⟩ => ?_) fun _ _ z => z.elim)
      subst hr
      exact wpAny_pure (hR H s1 I1 q)
    · refine wpAny_bind (wpAny_mono (zip_item (E := fun _ _ => False) I D st hn hn2 hlq hf go) (fun r s1 ⟨u, hr, x, H1, I1, rx, y1, st1, n1⟩ => ?_) fun _ _ z => z.elim)
      subst hr
      obtain ⟨acc, hS, hz, nx⟩ := step x H1 y1
      obtain ⟨m', hm, hw'⟩ := hNx _ nx
      obtain ⟨hz', its, n, ri, e⟩ := I1.hok S _ hS
      have hl := ri.length
      show wpAny _ A.in1 (updateSeq S (·.push u) >>= _) _ _ _
      refine wpAny_bind (wpAny_updateSeq e rfl (wpAny_pure ⟨plainId_quiet PySem.F.plain_extend_loop _, ?_⟩) (by rw [List.size_toArray]; omega) (by rw [Array.size_push, List.size_toArray]; omega))
      have e' := Heap.get?_update_self (Obj.mapSeq (·.push u)) e rfl
      have oth : ∀ b o, b ≠ S → s1.heap.get? b = some o → (s1.heap.update S (Obj.mapSeq (·.push u))).get? b = some o := fun b o hb q => (Heap.get?_update_other _ _ (Ne.symm hb)).trans q
      have I2 : Inv X pins σ (upd H1 S (.lst (acc ++ [x]))) { s1 with heap := s1.heap.update S (Obj.mapSeq (·.push u)) } :=
        I1.write (t' := s1.toks) (by rw [hS]; trivial) (.inl rfl) oth ⟨_, e'⟩ ⟨by rw [List.length_append]; exact hz, its ++ [u], _, ri.append (.cons rx .nil), by
          rw [e']; simp [Obj.mapSeq]; rfl⟩
      exact ih m' hm (i + 1) _ _ hw' I2 (st1.keep hlq fun b hb o q => oth b o (fpS b (by
        rcases hb with rfl | rfl | rfl | hb
        · simp
        · simp
        · simp
        · exact List.mem_cons_of_mem _ (List.mem_cons_of_mem _ (List.mem_cons_of_mem _ hb)))) q) fun b hb => ⟨by rw [upd_ne (fpS b hb)]; exact n1 b hb, (hf b hb).2⟩
theorem list_zip {A : PySem.Around} {E : Value → Shared → Prop} {Q : VK} (hh : A.handled = none) (m : ZipMade X pins σ H qs z TI TO is s) (q : ∀ Dl, H Dl = none → Fill (ItzN X.K qs) Dl H (fun H' => Q (.ref Dl) H')) :
    wpAny (model X.prog X.w) A (call (.type "list") [.ref z]) (EP X pins σ Q) E s := by
  have I := m.inv
  have hSn : H s.heap.objs.size = none := I.hok.fresh (Nat.le_refl _)
  obtain ⟨Wf, ⟨m0, w0⟩, turn⟩ := q s.heap.objs.size hSn
  have hzs : z < s.heap.objs.size := by
    obtain ⟨⟨f0, f1, hz, _⟩, _⟩ := m.st
    exact Heap.lt_size hz
  have fpl : ∀ b ∈ z :: TI :: TO :: is, b < s.heap.objs.size := fun b hb => by
    obtain ⟨o, e, _⟩ := (turn_zipN (P := X.prog) (w := X.w) (K := X.K) (tg := .Constant .none 0 ⟨0, 0, 0, 0⟩) m.ap m.ne m.le m.len).obj 0 s.heap m.st b hb
    exact Heap.lt_size e
  have fpS : ∀ b ∈ z :: TI :: TO :: is, b ≠ s.heap.objs.size := fun b hb => Nat.ne_of_lt (fpl b hb)
  refine callType_codes (Q₁ := fun obj s₁ => obj = .ref s.heap.objs.size ∧ s₁ = { s with heap := s.heap.push { cls := .type "list", data := .seq #[] } }) PySem.F.called_list (PySem.F.typeCall_list_1 _) PySem.F.entry_list_init
    (code_list_new _ ⟨rfl, rfl⟩) fun obj s₁ h₁ => ?_
  obtain ⟨rfl, rfl⟩ := h₁
  have hS : (s.heap.push { cls := .type "list", data := .seq #[] }).get? s.heap.objs.size = some { cls := .type "list", data := .seq #[] } := Heap.get?_push_size _ rfl
  refine ⟨⟨_, hS, rfl⟩, PySem.F.args_list_init_2 _ _, ?_⟩
  show wpAny _ A.in1.in1 (do let old ← Builtin.List.listItems (.ref s.heap.objs.size); Builtin.List.listUpdate (.ref s.heap.objs.size) (fun _ => #[]); letGo old.toList.reverse; Builtin.List.listExtendWith (.ref s.heap.objs.size) (.ref z) .none) _ _ _
  refine wpAny_bind ?_
  unfold Builtin.List.listItems
  refine wpAny_bind (wpAny_seqItems hS rfl (wpAny_pure ?_))
  show wpAny _ A.in1.in1 (updateSeq s.heap.objs.size (fun _ => #[]) >>= fun _ => letGo (#[] : Array Value).toList.reverse >>= fun _ => Builtin.List.listExtendWith (.ref s.heap.objs.size) (.ref z) .none) _ _ _
  refine wpAny_bind (wpAny_updateSeq hS rfl ?_)
  have hS₂ := Heap.get?_update_self (Obj.mapSeq (fun _ => (#[] : Array Value))) hS rfl
  have oth : ∀ b o, b ≠ s.heap.objs.size → (s.heap.push { cls := .type "list", data := .seq #[] }).get? b = some o → ((s.heap.push { cls := .type "list", data := .seq #[] }).update s.heap.objs.size (Obj.mapSeq (fun _ => (#[] : Array Value)))).get? b = some o :=
    fun b o hb e => (Heap.get?_update_other _ _ (Ne.symm hb)).trans e
  generalize hh2 : (s.heap.push { cls := .type "list", data := .seq #[] }).update s.heap.objs.size (Obj.mapSeq (fun _ => (#[] : Array Value))) = h2 at hS₂ oth
  refine wpAny_bind (wpAny_letGo ?_)
  show wpAny _ A.in1.in1 (Builtin.List.listExtendWith (.ref s.heap.objs.size) (.ref z) .none) _ _ { s with heap := h2 }
  have keep2 : ∀ b o, s.heap.get? b = some o → h2.get? b = some o := fun b o e => oth b o (Nat.ne_of_lt (Heap.lt_size e)) (Heap.get?_push_of_some _ e)
  have st2 : ZN.ZipSt h2 z TI TO is qs 0 := m.st.keep m.len fun b _ o e => keep2 b o e
  have hT : Shared.TypeIs { s with heap := h2 } (.ref z) "zip" := by
    obtain ⟨⟨f0, f1, hz, _⟩, _⟩ := st2
    exact ⟨_, hz, rfl⟩
  unfold Builtin.List.listExtendWith
  refine wpAny_bind (wpAny_typeOf hT ?_)
  have h1 : Builtin.List.listSameRef (.ref s.heap.objs.size) (.ref z) = false := by
    have : s.heap.objs.size ≠ z := Nat.ne_of_gt hzs
    simp [Builtin.List.listSameRef, this]
  have h2' : (Value.type "zip" == Value.type "list") = false := by decide
  have h3 : (Value.type "zip" == Value.type "tuple") = false := by decide
  simp only [h1, h2', h3, Bool.or_false, Bool.false_eq_true, if_false]
  refine wpAny_bind (ZN.pyIter_zipG st2 ?_)
  refine wpAny_bind (wpAny_holding ?_)
  unfold Builtin.List.listLengthHint
  refine wpAny_bind (wpAny_specialOf hT zip_no_len ?_)
  show wpAny _ _ (specialOf (Value.ref z) (Str.ofString "__length_hint__") >>= _) _ _ _
  refine wpAny_bind (wpAny_specialOf hT zip_no_hint ?_)
  refine wpAny_pure ?_
  show wpAny _ _ (rule "list.extend.makes-room" >>= fun _ => Builtin.List.listTouch (.ref s.heap.objs.size) >>= fun _ =>
    again (.builtin "list.extend.loop" ⟨[.ref s.heap.objs.size, .ref z, .none], []⟩)) _ _ _
  refine wpAny_bind (wpAny_rule ?_)
  refine wpAny_bind ?_
  show wpAny _ _ (updateSeq s.heap.objs.size (·.push .none) >>= fun _ => updateSeq s.heap.objs.size (·.pop)) _ _ _
  refine wpAny_bind (wpAny_updateSeq hS₂ rfl ?_)
  have hS₃ := Heap.get?_update_self (Obj.mapSeq (·.push Value.none)) hS₂ rfl
  refine wpAny_updateSeq (hz := by seq_fits) hS₃ rfl ?_
  have hS₄ := Heap.get?_update_self (Obj.mapSeq (·.pop)) hS₃ rfl
  have oth4 : ∀ b o, b ≠ s.heap.objs.size → h2.get? b = some o → ((h2.update s.heap.objs.size (Obj.mapSeq (·.push Value.none))).update s.heap.objs.size (Obj.mapSeq (·.pop))).get? b = some o :=
    fun b o hb e => (Heap.get?_update_other _ _ (Ne.symm hb)).trans ((Heap.get?_update_other _ _ (Ne.symm hb)).trans e)
  generalize hh4 : (h2.update s.heap.objs.size (Obj.mapSeq (·.push Value.none))).update s.heap.objs.size (Obj.mapSeq (·.pop)) = h4 at hS₄ oth4
  have keep4 : ∀ b o, s.heap.get? b = some o → h4.get? b = some o := fun b o e => oth4 b o (Nat.ne_of_lt (Heap.lt_size e)) (keep2 b o e)
  have I4 : Inv X pins σ (upd H s.heap.objs.size (.lst [])) { s with heap := h4 } :=
    I.laid (t' := s.toks) keep4 (Nat.le_refl _) ⟨Nat.zero_le _, [], _, .nil, by rw [hS₄]; simp [Obj.mapSeq]; rfl⟩
  refine wpAny_pure ⟨plainId_quiet PySem.F.plain_extend_loop _, ?_⟩
  refine fill_loop (A := A.in1) (S := s.heap.objs.size) (Q := fun H' => Q (.ref s.heap.objs.size) H') (show A.in1.handled = none from hh) m.ap m.ne m.le m.len fpS turn (fun H' s' I' q' => ?_) m0 0 _ _ w0 I4 (m.st.keep m.len fun b _ o e => keep4 b o e) fun b hb => ⟨?_, (m.fp b hb).2⟩
  · exact ⟨rfl, .ref s.heap.objs.size, H', I', rfl, q'⟩
  · rw [upd_ne (fpS b hb)]; exact (m.fp b hb).1
end
/-- list(zip(a, b, ..)) -/
def tLzip (K : PySem.W.Frag) (ta : TA) : TE := fun σ H Q => iZipN K ta σ H fun J H1 => ∀ Dl, H1 Dl = none → Fill J Dl H1 (fun H' => Q (.ref Dl) H')
theorem pe_lzip {X : Cx} {e : Expr} {es : List Expr} {ta : TA} {p p2 q pos : Pos} (hc : X.calm = true) (hgl : Gl X "list") (hml : X.mg "list" = none) (hg : Gl X "zip") (hm : X.mg "zip" = none) (ha : PA X (e :: es) ta)
    (hs : starEach (e :: es) X.env = (false, eval e X.env) :: starEach es X.env) (hpl : (backTo q (starEach es X.env)).any (·.1) = false) :
    PE X (.Call (.Name "list" p) [.Call (.Name "zip" p2) (e :: es) [] q] [] pos) (tLzip X.K ta) := by
  refine ⟨fun pins s σ H Q I h => ?_⟩
  refine Call_ (ld_blt I hgl hml PyProof.Rows.boot_list ?_)
  refine PyProof.Rows.callWith_type1 (PyProof.Rows.args_cons ?_ rfl) rfl rfl
  refine Call_ (ld_blt I hg hm PyProof.Rows.boot_zip (PyProof.Rows.callWith_type1 (thn (ha.run q pins s σ H _ I h) fun us s1 ⟨vs, H1, I1, r1, q1⟩ => ?_) hs hpl))
  obtain ⟨qs, ex, hne, hle, hq, q1⟩ := q1
  subst ex
  rw [vals_refs r1]
  exact call_zip_made I1 hne hle hq fun z TI TO is s' m => PyProof.Rows.args_nil (list_zip (I.ok.hd hc) m q1)
/-! ### by data -/
def dLzip (mu : Bool) (ds : List D) : M D := bnd (dZipN ds) fun items => if items.length ≤ sizeLine then newL mu items else stk
section
variable {T : Kit} {X : Cx} {W : WX} {pos p p2 q : Pos} {e : Expr} {es : List Expr} {f : Envd → M (List D)}
theorem fill_of {mu : Bool} {G0 : Gh} {S0 : Store} {H0 : Hp} {items : List D} {J : It} {Wx : XK} {Q : VK} (hH : Held T G0 S0 H0) (hJ : relI T G0 items J) (hz : items.length ≤ sizeLine) (p : PV T G0 H0 Wx (newL mu items S0) Q) (Dl : Addr) (hD : H0 Dl = none) :
    Fill J Dl H0 (fun H' => Q (.ref Dl) H') := by
  refine ⟨fun i m H => m = items.length - i ∧ i ≤ items.length ∧ ∃ G vacc, Step G0 H0 G H ∧ Held T G S0 H ∧ H Dl = some (.lst vacc) ∧ G.H Dl = none ∧ Dl ∉ G.m ∧ Reps T G (items.take i) vacc, ⟨items.length, rfl, Nat.zero_le _, ?_⟩, ?_⟩
  · obtain ⟨h1, h2⟩ := hH.beside (p := Dl) (o := .lst []) hD
    exact ⟨G0, [], h2, h1, upd_same, hH.fresh hD, hH.notm hD, reps_nil⟩
  rintro i m H ⟨rfl, hi, G, vacc, st, hh, hDl, hDg, hDm, hr⟩
  obtain ⟨jg, js, jy⟩ := hJ i G S0 H st.le hh
  have hlen := hr.len
  rw [List.length_take] at hlen
  by_cases hlt : i < items.length
  · refine .inr ⟨jg hlt, _, fun H' q => ⟨items.length - (i + 1), by omega, rfl, hlt, q⟩, fun x H' hy => ?_⟩
    obtain ⟨d, G1, e, st1, hh1, rd⟩ := jy x H' hlt hy
    obtain ⟨f1, f2, f3⟩ := st1.fr Dl _ hDl hDm
    refine ⟨vacc, f1, by omega, G1, vacc ++ [x], (st.trans st1).side hD, hh1.beside_set (f3 hDg) f2, upd_same, f3 hDg, f2, ?_⟩
    rw [List.take_add_one, e]
    exact reps_snoc (hr.le st1.le) rd
  · have hi' : i = items.length := by omega
    refine .inl ⟨js (by omega), ?_⟩
    subst hi'
    rw [List.take_length] at hr
    exact newL_adopt p st hD hh hDl hDg hDm hr
theorem ve_lzip {mu : Bool} (hK : X.K = T.K) (hc : X.calm = true) (hgl : Gl X "list") (hml : X.mg "list" = none) (hg : Gl X "zip") (hm : X.mg "zip" = none) (ha : VA T X W (e :: es) f) (hs : noStar (e :: es) = true) :
    VE T X W (.Call (.Name "list" p) [.Call (.Name "zip" p2) (e :: es) [] q] [] pos) (fun env => bnd (f env) (dLzip mu)) := by
  refine (pe_lzip hc hgl hml hg hm ha (star_cons hs) (star_any (noStar_tail hs))).imp fun σ H Q ⟨G, S, env, hE, hH, pp⟩ => ?_
  refine ⟨G, S, env, hE, hH, (pp.bnd (rel := Reps T)).mono fun G1 S1 ds xs H1 st1 hd1 r1 p1 => ?_⟩
  unfold dLzip dZipN at p1
  cases e1 : srcs ds S1 with
  | stuck => simp only [bnd, e1] at p1; exact p1.elim
  | exc c fs S1 => exact absurd e1 srcs_noexc
  | ok dss S2 =>
    simp only [bnd, e1] at p1
    by_cases hcc : dss ≠ [] ∧ dss.length ≤ 21
    · rw [if_pos hcc] at p1
      simp only [ret] at p1
      split at p1
      · rename_i hz
        obtain ⟨qs, G2, rfl, st, hd, k⟩ := srcs_ok hd1 r1 e1
        have hlen := k.len
        refine ⟨qs, rfl, fun z => hcc.1 (List.eq_nil_of_length_eq_zero (by rw [← hlen, z]; rfl)), by omega, fun q hq => ?_, fun Dl hDl => fill_of hd (relI_zipN hK k hcc.1) hz (p1.later st) Dl hDl⟩
        obtain ⟨j, hj⟩ := List.getElem?_of_mem hq
        obtain ⟨ds, _, k⟩ := k.get j q hj
        obtain ⟨vs, k1, _⟩ := k.at hK .refl hd
        exact ⟨vs, k1⟩
      · exact p1.elim
    · rw [if_neg hcc] at p1; exact p1.elim
end

/-! ### list(range(a, b)) -/
def dLrange (mu : Bool) (d e : D) : M D := match d, e with
  | .int i, .int j => if okR i && okR j && decide ((j - i).toNat ≤ 16777216) then newL mu (rangeD i (j - i).toNat) else stk
  | _, _ => stk
theorem reps_rg (T : Kit) (G : Gh) (a : Int) : ∀ (n m : Nat), Reps T G ((List.range' m n).map fun (i : Nat) => .int (a + (i : Int))) ((List.range' m n).map fun i => V.int (a + (i : Nat)))
  | 0, m => by simp only [List.range'_zero, List.map_nil]; exact reps_nil
  | n + 1, m => by
    simp only [List.range'_succ, List.map_cons]
    simp only [Reps]
    exact ⟨_, _, rfl, by simp only [Rep], reps_rg T G a n (m + 1)⟩
theorem ve_lrange {T : Kit} {X : Cx} {W : WX} {pos p p2 q : Pos} {a b : Expr} {fa fb : Envd → M D} {mu : Bool} (hc : X.calm = true) (hgl : Gl X "list") (hml : X.mg "list" = none) (hg : Gl X "range") (hm : X.mg "range" = none) (ha : VE T X W a fa) (hb : VE T X W b fb) (hs : noStar [a, b] = true) :
    VE T X W (.Call (.Name "list" p) [.Call (.Name "range" p2) [a, b] [] q] [] pos) (fun env => bnd (fa env) fun d => bnd (fb env) fun e => dLrange mu d e) := by
  refine (pe_listRg hc hgl hml (prg_2 hg hm ha hb (star_cons hs) (star_cons (noStar_tail hs)) (star_any (noStar_tail hs)))).imp fun σ H Q h => ?_
  refine tOp_of (r := fun x y H2 Q => ∃ i j, x = .int i ∧ y = .int j ∧ RgOk i j ∧ ∀ q, H2 q = none → Q (.ref q) (upd H2 q (.lst (rgV i j)))) (g := dLrange mu) ?_ σ H Q h
  intro W G S H d e x y Q hH r1 r2 p
  unfold dLrange at p
  split at p
  · rename_i i j
    simp only [Rep] at r1 r2
    split at p
    · rename_i hk
      simp only [Bool.and_eq_true, decide_eq_true_eq] at hk
      refine ⟨i, j, r1, r2, ⟨(okR_iff hk.1.1).1, (okR_iff hk.1.1).2, (okR_iff hk.1.2).1, (okR_iff hk.1.2).2, hk.2⟩, newL_ok hH ?_ p⟩
      unfold rangeD rgV
      simp only [List.range_eq_range']
      exact reps_rg T G i _ 0
    · exact p.elim
  · exact p.elim
/-! ### {} -/
theorem ve_dict0 {T : Kit} {X : Cx} {W : WX} {pos : Pos} : VE T X W (.Dict [] [] pos) (fun _ => ret (.dct [] [])) :=
  pe_dnewK.imp fun σ H Q ⟨G, S, env, hE, hH, p⟩ a ha => by
    have hn := hH.new (p := a) (o := .dK []) ha
    refine p _ _ _ hn.2 hn.1 ?_
    simp only [Rep]
    exact ⟨a, [], rfl, upd_same, rfl, reps_nil⟩
end Ev

set_option Elab.async false
set_option linter.all false
set_option maxRecDepth 100000
set_option maxHeartbeats 4000000
/-! EvS: sorted(set(xs)), xs a list of ints of some thousands at most. -/
namespace L2
open PySem PySem.Spec PyProof.Rows
abbrev nuS (w : World) : Obj := { cls := .type "set", dict := none, data := .set #[] 0 (.fresh 0 0 (!w.params.followText "set-order")) }
section
variable {P : Program} {w : World} {A : Around} {E : Value → Shared → Prop} {s : Shared}
set_option maxHeartbeats 8000000 in
theorem set_of_list {l : Addr} {items : Array Value} (ns : List Int) {Q : Value → Shared → Prop} (hh : A.handled = none) (hl : s.heap.IsList l items) (hit : IntsAre items.toList ns) (few : ns.length + 1 < scanBound)
    (fin : ∀ (h' : Heap) (tk c : Nat), SetR w h' s.heap.objs.size (fun j => decide (j ∈ ns)) c → c ≤ ns.length → (∀ b o, s.heap.get? b = some o → h'.get? b = some o) → Q (.ref s.heap.objs.size) { s with heap := h', toks := tk }) :
    wpAny (model P w) A (call (.type "set") [.ref l]) Q E s := by
  have size : items.size = ns.length := by simpa using IntsAre.length hit
  obtain ⟨c, tl, m1⟩ := F.called_set.mro
  have m2 := F.called_set.made
  have m3 := F.called_set.sub
  refine wpAny_call (codeAny_of_tree (show wpAny _ _ (callAny (.type "set") _) _ _ _ from ?_))
  refine wpAny_pure ⟨Code.quiet_builtin _ (by decide +kernel), codeAny_builtin F.entry_type_call ?_⟩
  rw [Around.under_plain (weight_type_call_type "set" [.ref l] []) rfl]
  have m4 := F.called_set.notType
  have m5 := F.called_set.canCreate
  have m6 := F.typeCall_set_1 (.ref l)
  repeat any_goals first | assumption | wp_step
  refine codeAny_mono (code_set_led1 (P := P) (w := w) (.ref l) (E := E) (Q₁ := fun ob s1 => ob = .ref s.heap.objs.size ∧ s1 = { s with heap := s.heap.push (nuS w) }) ⟨rfl, rfl⟩) fun r s1 hr => ?_
  cases r with
  | error e => exact hr
  | ok fl =>
  cases fl with
  | next => exact hr
  | brk => exact hr
  | cont => exact hr
  | ret ob =>
  obtain ⟨rfl, rfl⟩ := hr
  have at0 : (s.heap.push (nuS w)).get? s.heap.objs.size = some (nuS w) := Heap.get?_push_size _ rfl
  have ty0 : Shared.TypeIs { s with heap := s.heap.push (nuS w) } (.ref s.heap.objs.size) "set" := ⟨_, at0, rfl⟩
  have m7 := F.called_set.init.lookup
  have m8 := F.called_set.init.bind (.ref s.heap.objs.size)
  repeat any_goals first | assumption | wp_step
  refine codeAny_mono (codeAny_call_builtin (R := wants (fun r s2 => r = .none ∧ ∃ h' tk c, s2 = { s with heap := h', toks := tk } ∧ SetR w h' s.heap.objs.size (fun j => decide (j ∈ ns)) c ∧ c ≤ ns.length ∧
    ∀ b o, s.heap.get? b = some o → h'.get? b = some o) E) F.called_set.init.plain F.entry_set_init (check_set_init_1 ty0 ?_)) fun r2 s2 hr2 => ?_
  · obtain ⟨ol, at1, cl, nl, dl⟩ := hl
    obtain ⟨c1, c2, c3, c4⟩ := ol
    dsimp only at cl dl
    subst cl dl
    have size1 : (s.heap.push (nuS w)).objs.size = s.heap.objs.size + 1 := Heap.size_push ..
    have old : l < s.heap.objs.size := Heap.lt_size at1
    have at2 : (s.heap.push (nuS w)).get? l = some { cls := .type "list", dict := c2, data := .seq items nl, slots := c4 } := Heap.get?_push_of_some _ at1
    have w1 := F.sub_list_set
    have w2 := F.sub_list_frozenset
    have w3 : (Value.type "list" == Value.type "dict") = false := by decide
    have lst1 : (s.heap.push (nuS w)).IsList l items := ⟨_, at2, rfl, nl, rfl⟩
    unfold Builtin.«set.__init__» noKeywords Builtin.Frozenset.updateFrom
    generalize hIt : pyIter = IT
    wp_walk
    subst hIt
    refine wpAny_pyIter_list lst1 (wpAny_bind (wpAny_runValue ?_))
    have free3 : A.in1.in1.in1.handled = none := by simp [hh]
    have ne1 : l ≠ (s.heap.push (nuS w)).objs.size := size1 ▸ Nat.ne_of_lt (Nat.lt_succ_of_lt old)
    have ne2 : s.heap.objs.size ∉ [(s.heap.push (nuS w)).objs.size, l] := by
      rw [size1]
      simp only [List.mem_cons, List.not_mem_nil, or_false, not_or]
      exact ⟨(Nat.succ_ne_self _).symm, (Nat.ne_of_lt old).symm⟩
    have val : ∀ (i : Nat) (v : Value), items[i]? = some v → ∃ k t, ns[i]? = some k ∧ v = .int k t := fun i v hv => by
      have lt : i < ns.length := size ▸ (Array.getElem?_eq_some_iff.mp hv).1
      obtain ⟨t, e⟩ := PyProof.Rows.IntsAre.int_at hit i v (by simpa using hv)
      exact ⟨ns[i], t, List.getElem?_eq_getElem lt, by simpa [List.getD, lt] using e⟩
    refine set_update_ints (Walks.list free3 _ l ne1 items).toS s.heap.objs.size ne2 ns size few val (items.size - 0) 0 _ (by omega) (Nat.zero_le _) ⟨⟨_, Heap.get?_push_size _ rfl, rfl, rfl⟩, lst1.push _⟩ ⟨0, Nat.le_refl 0, setR_new_at (Heap.get?_push_of_some _ at0)⟩ fun s' c' mv le st => ?_
    obtain ⟨h', g2, d', tk', os'⟩ := s'
    obtain rfl : g2 = s.gens := mv.gens
    obtain rfl : d' = s.drawn := mv.drawn
    obtain rfl : os' = s.os := mv.os
    refine wpAny_pure (show wpAny _ _ (ret Value.none) _ _ _ from wpAny_pure ⟨rfl, h', tk', c', rfl, st, size ▸ le, fun b o e => ?_⟩)
    have lt : b < s.heap.objs.size := Heap.lt_size e
    refine mv.heap b o ?_ (Heap.get?_push_of_some _ (Heap.get?_push_of_some _ e))
    rw [size1]
    simp only [List.mem_cons, List.not_mem_nil, or_false, not_or]
    exact ⟨Nat.ne_of_lt lt, Nat.ne_of_lt (Nat.lt_succ_of_lt lt)⟩
  · cases r2 with
    | error e => exact hr2
    | ok fl2 =>
    cases fl2 with
    | next => exact hr2.elim
    | brk => exact hr2.elim
    | cont => exact hr2.elim
    | ret r =>
    obtain ⟨rfl, h', tk, c', rfl, e1, e2, e3⟩ := hr2
    repeat any_goals first | assumption | wp_step
    exact fin _ _ _ e1 e2 e3
end
end L2

set_option Elab.async false
set_option linter.all false
set_option maxRecDepth 100000
set_option maxHeartbeats 4000000
/-! EvSa: the rules of sorted(set(xs)). -/
namespace L2
open PySem PySem.Spec PyProof.Rows
section
variable {X : Cx}
/-- set(xs), a list of ints -/
def rSetLI (K : PySem.W.Frag) (w : World) : List V → Hp → VK → Prop := fun vs H Q => ∃ (a : Addr) (ns : List Int), vs = [V.ref a] ∧ SqL K H a (ns.map V.int) ∧ ns.length + 1 < scanBound ∧
  ∀ (p : Addr) (c : Nat), c ≤ ns.length → H p = none → Q (.ref p) (upd H p (SetO w p (fun j => decide (j ∈ ns)) c))
theorem cr_setL (hc : X.calm = true) : CallR X (.type "set") (rSetLI X.K X.w) := by
  intro pins s σ H vs us Q I r h
  obtain ⟨a, ns, rfl, hs, few, q⟩ := h
  obtain ⟨its, rv, hl, hz⟩ := I.list hs
  rw [Vals.ref1 r]
  refine set_of_list ns (I.ok.hd hc) hl.isList (by simpa using ints_of_vals rv) few fun h' tk c st le k => ?_
  have free := I.hok.fresh (Nat.le_refl s.heap.objs.size)
  exact ⟨.ref _, upd H s.heap.objs.size (SetO X.w s.heap.objs.size (fun j => decide (j ∈ ns)) c), I.laid (t' := tk) k (Nat.le_refl _) (setO_new st), rfl, q _ c le free⟩
/-- sorted(set), any number of members -/
def rSortU (w : World) : List V → Hp → VK → Prop := fun vs H Q => ∃ (a : Addr) (S : Int → Bool) (n : Nat), vs = [V.ref a] ∧ H a = some (SetO w a S n) ∧ n < scanBound ∧
  ∀ (ns : List Int) (p : Addr), ns.Pairwise (· < ·) → (∀ k : Int, k ∈ ns ↔ S k = true) → H p = none → Q (.ref p) (upd H p (.lst (ns.map V.int)))
theorem sort_of_set {P : Program} {w : World} {A : PySem.Around} {E : Value → Shared → Prop} {s : Shared} {a : Addr} {S : Int → Bool} {n : Nat} {Q : Value → Shared → Prop} (R : SetR w s.heap a S n) (hh : A.handled = none) (few : n < scanBound)
    (fin : ∀ s' p (out : Array Value) (c : Nat) (ns : List Int), (∀ b o, s.heap.get? b = some o → s'.heap.get? b = some o) → s'.gens = s.gens → s'.os = s.os → s.heap.objs.size ≤ p →
      s'.heap.get? p = some (seqObj "list" out c) → IntsAre out.toList ns → ns.Pairwise (· < ·) → (∀ k, k ∈ ns ↔ S k = true) → ns.length = n → Q (.ref p) s') : wpAny (model P w) A (call (.builtin "sorted") [.ref a]) Q E s := by
  have zs : scanBound ≤ sizeLine := by rw [sizeLine_eq]; decide
  obtain ⟨o, es, ep, t, x1, x2, x3, x4, x5, x6, x7, x8, x9, x10, x11⟩ := R
  refine Calls.call_function_entry kind_sorted plain_sorted entry_sorted (args_sorted1 _) ?_
  unfold Builtin.«sorted»
  refine wpAny_bind (m := checkCount "sorted" 1 1 _) (wpAny_pure (wpAny_bind (collect_set (A := A.in1) hh ⟨o, x1, x2.1, x3⟩ x8 x7 x10 x11 fun s1 vs k1 z1 g1 o1 pm => ?_)))
  have len : vs.length = n := by
    rw [pm.length_eq]
    simpa using x9
  have iar : IntsAre vs (vs.map SrtO.iv) := SrtO.ints_iv fun v hv => by
    obtain ⟨e, he, q⟩ := List.mem_map.mp (pm.mem_iff.mp hv)
    obtain ⟨k, tk, h1, _⟩ := x4 e he
    exact ⟨k, tk, q ▸ h1⟩
  have keys : es.toList.map (fun e => SrtO.iv e.2) = es.toList.map keyOf := List.map_congr_left fun e he => by
    obtain ⟨k, tk, h1, _⟩ := x4 e he
    unfold keyOf SrtO.iv
    rw [h1]
  have perm : (vs.map SrtO.iv).Perm (es.toList.map keyOf) := by
    have q := pm.map SrtO.iv
    rw [List.map_map] at q
    exact keys ▸ q
  refine wpAny_bind (wpAny_newList ?_ (by omega))
  have at1 : (s1.heap.push (seqObj "list" vs.toArray 0)).get? s1.heap.objs.size = some (seqObj "list" vs.toArray 0) := Heap.get?_push_size _ rfl
  refine wpAny_bind (wpAny_holding (wpAny_call_entry slot_list_sort ⟨_, at1, rfl⟩ entry_list_sort (SrtO.list_sort_ord SrtO.swo_int at1 (by omega) (fun h2 => SrtO.ints_sortable iar h2) fun out h1 h2 => ⟨_, rfl, ?_⟩) (args_list_sort _)))
  obtain ⟨y1, y2, y3⟩ := SrtO.ints_out iar h1 h2
  obtain ⟨c, hc⟩ := sortedHeap_at (vs := vs) (out := out.toArray) at1
  have pn := y2.trans perm
  refine wpAny_pure ⟨_, rfl, fin _ s1.heap.objs.size out.toArray c _ (fun b u e => ?_) g1 o1 z1 hc y1 (lt_of_le_nodup _ y3 (pn.nodup_iff.mpr x5)) (fun k => by rw [pn.mem_iff, ← x6 k]) ?_⟩
  · have lt := Heap.lt_size (k1 b u e)
    refine (sortedHeap_old (Nat.ne_of_lt lt) ?_).trans (Heap.get?_push_of_some _ (k1 b u e))
    rw [size_push']
    exact Nat.lt_succ_of_lt lt
  · rw [pn.length_eq]
    simpa using x9
theorem cr_sortU (hc : X.calm = true) : CallR X (.builtin "sorted") (rSortU X.w) := by
  intro pins s σ H vs us Q I r h
  obtain ⟨a, S, n, rfl, ha, few, q⟩ := h
  have zs : scanBound ≤ sizeLine := by rw [sizeLine_eq]; decide
  rw [Vals.ref1 r]
  refine sort_of_set (setO_get I ha) (I.ok.hd hc) few fun s' p out c ns k g o hp at1 iar lt mem len => ?_
  obtain ⟨h', g', d', t', o'⟩ := s'
  obtain rfl : g' = s.gens := g
  obtain rfl : o' = s.os := o
  have J : Inv X pins σ (upd H p (.lst (ns.map V.int))) ⟨h', s.gens, d', t', s.os⟩ :=
    I.call (ch := []) (Un.laid k hp (I.hok.fresh hp)) (I.hok.laid k hp ⟨by rw [List.length_map]; omega, out.toList, c, vals_of_ints iar, at1⟩) I.bare fun _ z => nomatch z
  exact ⟨.ref p, _, J, rfl, q ns p lt mem (I.hok.fresh hp)⟩
end
end L2

set_option Elab.async false
set_option linter.all false
set_option maxRecDepth 100000
set_option maxHeartbeats 4000000
/-! EvSb: sorted(set(xs)) by data. -/
namespace Ev
open PySem PySem.Spec PyProof.Rows L2
/-- sorted, each once -/
def insU (x : Int) : List Int → List Int
  | [] => [x]
  | y :: ys => if x < y then x :: y :: ys else if x = y then y :: ys else y :: insU x ys
def sset : List Int → List Int
  | [] => []
  | x :: xs => insU x (sset xs)
theorem insU_mem {x z : Int} : ∀ {ys : List Int}, z ∈ insU x ys ↔ z = x ∨ z ∈ ys
  | [] => by simp [insU]
  | y :: ys => by
    unfold insU
    split
    · simp
    · split
      · rename_i h; subst h; simp
      · rw [List.mem_cons, insU_mem (ys := ys), List.mem_cons]
        constructor
        · rintro (h | h | h) <;> simp [h]
        · rintro (h | h | h) <;> simp [h]
theorem sset_mem {z : Int} : ∀ {xs : List Int}, z ∈ sset xs ↔ z ∈ xs
  | [] => by simp [sset]
  | x :: xs => by unfold sset; rw [insU_mem, sset_mem (xs := xs), List.mem_cons]
theorem insU_lt {x : Int} : ∀ {ys : List Int}, ys.Pairwise (· < ·) → (insU x ys).Pairwise (· < ·)
  | [], _ => by simp [insU]
  | y :: ys, h => by
    obtain ⟨h1, h2⟩ := List.pairwise_cons.mp h
    unfold insU
    split
    · rename_i c
      refine List.pairwise_cons.mpr ⟨fun z hz => ?_, h⟩
      rcases List.mem_cons.mp hz with rfl | hz
      · exact c
      · exact Int.lt_trans c (h1 z hz)
    · split
      · exact h
      · rename_i c1 c2
        refine List.pairwise_cons.mpr ⟨fun z hz => ?_, insU_lt h2⟩
        rcases insU_mem.mp hz with rfl | hz
        · omega
        · exact h1 z hz
theorem sset_lt : ∀ xs : List Int, (sset xs).Pairwise (· < ·)
  | [] => .nil
  | x :: xs => insU_lt (sset_lt xs)
theorem lt_unique : ∀ {xs ys : List Int}, xs.Pairwise (· < ·) → ys.Pairwise (· < ·) → (∀ z, z ∈ xs ↔ z ∈ ys) → xs = ys
  | [], [], _, _, _ => rfl
  | [], y :: ys, _, _, h => absurd ((h y).mpr List.mem_cons_self) (by simp)
  | x :: xs, [], _, _, h => absurd ((h x).mp List.mem_cons_self) (by simp)
  | x :: xs, y :: ys, h1, h2, h => by
    obtain ⟨a1, a2⟩ := List.pairwise_cons.mp h1
    obtain ⟨b1, b2⟩ := List.pairwise_cons.mp h2
    have e : x = y := by
      rcases List.mem_cons.mp ((h x).mp List.mem_cons_self) with e | m
      · exact e
      · rcases List.mem_cons.mp ((h y).mpr List.mem_cons_self) with e | n
        · exact e.symm
        · have := b1 x m
          have := a1 y n
          omega
    subst e
    rw [lt_unique a2 b2 fun z => ?_]
    constructor
    · intro m
      rcases List.mem_cons.mp ((h z).mp (List.mem_cons_of_mem _ m)) with e | n
      · have := a1 z m; omega
      · exact n
    · intro m
      rcases List.mem_cons.mp ((h z).mpr (List.mem_cons_of_mem _ m)) with e | n
      · have := b1 z m; omega
      · exact n
def dSortSet (mu : Bool) (d : D) : M D := fun S => match (seqL S d).bind intsOf with
  | some ns => if ns.length < 4000 then newL mu ((sset ns).map D.int) S else .stuck
  | none => .stuck
section
variable {T : Kit} {X : Cx} {W : WX} {pos p p2 q : Pos} {a : Expr} {fa : Envd → M D}
theorem ve_sortSet {mu : Bool} (hc : X.calm = true) (hg : Gl X "sorted") (hm : X.mg "sorted" = none) (hg2 : Gl X "set") (hm2 : X.mg "set" = none) (ha : VE T X W a fa) (hs : noStar [a] = true) :
    VE T X W (.Call (.Name "sorted" p) [.Call (.Name "set" p2) [a] [] q] [] pos) (fun env => bnd (fa env) (dSortSet mu)) := by
  have s1 : starEach [a] X.env = (false, eval a X.env) :: starEach [] X.env := star_cons hs
  refine (pe_callB (cr_sortU hc) hg hm PyProof.Rows.boot_sorted (pa_cons (pe_callTy (cr_setL hc) hg2 hm2 PyProof.Rows.boot_set (pa_cons ha pa_nil s1) (by decide) (by decide) s1 rfl) pa_nil rfl) (by decide) (by decide) rfl rfl).imp fun σ H Q ⟨G, S, env, hE, hH, pp⟩ => ?_
  refine ⟨G, S, env, hE, hH, (pp.bnd (rel := Rep T)).mono fun G1 S1 d x H1 st1 hd1 r1 p1 => ?_⟩
  unfold dSortSet at p1
  split at p1
  · rename_i ns e
    split at p1
    · rename_i few
      obtain ⟨zs, h1, h2⟩ := Option.bind_eq_some_iff.mp e
      obtain ⟨l, vs, rfl, q1, z1⟩ := seqL_ok hd1 r1 h1
      rw [intsOf_ok z1 h2] at q1
      refine ⟨l, ns, rfl, SqL.of q1, by unfold scanBound; omega, fun p c le hp => ?_⟩
      obtain ⟨b1, b2⟩ := hd1.beside (o := SetO X.w p (fun j => decide (j ∈ ns)) c) hp
      refine ⟨p, _, c, rfl, upd_same, by unfold scanBound; omega, fun ns' p' lt mem hp' => ?_⟩
      have en : ns' = sset ns := lt_unique lt (sset_lt ns) fun z => by rw [mem z, sset_mem, decide_eq_true_eq]
      subst en
      exact newL_ok b1 ints_reps (p1.later b2) p' hp'
    · exact p1.elim
  · exact p1.elim
end
end Ev

set_option Elab.async false
set_option linter.all false
set_option maxRecDepth 100000
set_option maxHeartbeats 4000000
/-! EvJ: from the text to what it does with data (compE, compT, compS), and that this is right. -/
namespace Ev
open PySem PySem.Spec PyProof.Rows L2

def o1 {α γ : Type} (x : Option α) (g : α → Option γ) : Option γ := match x with
  | some a => g a
  | none => none
def o2 {α β γ : Type} (x : Option α) (y : Option β) (g : α → β → Option γ) : Option γ := o1 x fun a => o1 y fun b => g a b
def gd {γ : Type} (b : Bool) (x : Option γ) : Option γ := if b = true then x else none
theorem o1_some {α γ : Type} {x : Option α} {g : α → Option γ} {z : γ} (h : o1 x g = some z) : ∃ a, x = some a ∧ g a = some z := by
  cases x with
  | none => cases h
  | some a => exact ⟨a, rfl, h⟩
theorem o2_some {α β γ : Type} {x : Option α} {y : Option β} {g : α → β → Option γ} {z : γ} (h : o2 x y g = some z) : ∃ a b, x = some a ∧ y = some b ∧ g a b = some z := by
  obtain ⟨a, e, h⟩ := o1_some h
  obtain ⟨b, e2, h⟩ := o1_some h
  exact ⟨a, b, e, e2, h⟩
theorem gd_some {γ : Type} {b : Bool} {x : Option γ} {z : γ} (h : gd b x = some z) : b = true ∧ x = some z := by
  unfold gd at h
  split at h
  · rename_i hb; exact ⟨hb, h⟩
  · cases h

/-! ### forms by name -/
def sC (d : D) : Envd → M D := fun _ => ret d
def s1 {α β : Type} (f : Envd → M α) (g : α → M β) : Envd → M β := fun env => bnd (f env) g
def s2 (fa fb : Envd → M D) (g : D → D → M D) : Envd → M D := fun env => bnd (fa env) fun d => bnd (fb env) fun e => g d e
def newLs (mu : Bool) (ds : List D) : M D := if ds.length ≤ sizeLine then newL mu ds else stk
def newTs (ds : List D) : M D := if ds.length ≤ sizeLine then ret (.tup ds) else stk
def sSl (mu : Bool) (fa : Envd → M D) (fl fh : Envd → M (Option Int)) : Envd → M D := fun env => bnd (fa env) fun d => bnd (fl env) fun l => bnd (fh env) fun h => dSl mu d l h
def sTest (f : Envd → M D) : Envd → M Bool := fun env => bnd (f env) asB

structure CC where
  N : List Str
  sc : Scope
  cellOk : Str → Bool
  fns : List (Str × (List D → M D))
  fnsM : List (Str × (List D → M D))
  kfns : List ((Str × List Str) × (List D → M D))
  cons : List (Str × D)
  excs : List (Str × Nat)
  mus : List (Nat × Nat × Nat)
  kills : List (Nat × List Nat)
  fuel : Nat
  flds : List (Str × (Nat × Nat)) := []
  prps : List (Str × (Nat × (List D → M D))) := []
  prpsM : List (Str × (Nat × (List D → M D))) := []
  mths : List (Str × (Nat × (List D → M D))) := []
  mthsM : List (Str × (Nat × (List D → M D))) := []
  /-- no except suite -/
  calm : Bool := true
  /-- an except suite that names its exception -/
  hx : Bool := false
  /-- exceptions' classes: those that may be met, those that are named, fields, those that are raised with fields -/
  xcs : List Nat := []
  hds : List (Str × Nat) := []
  xfl : List (Str × (Nat × Nat)) := []
  excF : List (Str × (Nat × Nat)) := []
  /-- own ==, by the class's number; classes that isinstance names; classes of which it says no for built-in types -/
  eqs : List (Nat × (List D → M D)) := []
  iss : List (Str × Nat) := []
  iso : List Nat := []
def CC.hot (C : CC) (hx : Bool) : CC := { C with calm := false, hx := hx, fns := [], fnsM := [], kfns := [], prps := [], prpsM := [], mths := [], mthsM := [], excs := [], excF := [], eqs := [] }
def CC.mu (C : CC) (p : Pos) : Bool := C.mus.any fun q => q.1 == p.line && q.2.1 == p.col && q.2.2 == p.endCol
def CC.kill (C : CC) (p : Pos) : List Nat := (C.kills.lookup p.line).getD []
def isVis (sc : Scope) (x : Str) : Bool := match sc.names.lookup x with
  | some .local => true
  | some .cell => true
  | some .free => true
  | _ => false
theorem isVis_ok {sc : Scope} {x : Str} (h : isVis sc x = true) : Vis sc x := by
  unfold isVis at h
  unfold Vis
  split at h <;> simp_all
def isGl (sc : Scope) (x : Str) : Bool := match sc.names.lookup x with
  | some .globalImplicit => true
  | _ => false
theorem isGl_ok {sc : Scope} {x : Str} (h : isGl sc x = true) : sc.names.lookup x = some .globalImplicit := by
  unfold isGl at h
  split at h <;> simp_all
def isLocal (sc : Scope) (x : Str) : Bool := match sc.names.lookup x with
  | some .local => true
  | _ => false
theorem isLocal_ok {sc : Scope} {x : Str} (h : isLocal sc x = true) : sc.names.lookup x = some .local := by
  unfold isLocal at h
  split at h <;> simp_all
def isCell (sc : Scope) (x : Str) : Bool := match sc.names.lookup x with
  | some .cell => true
  | _ => false
theorem isCell_ok {sc : Scope} {x : Str} (h : isCell sc x = true) : sc.names.lookup x = some .cell := by
  unfold isCell at h
  split at h <;> simp_all
/-- a name that may be stored to -/
def stOk (C : CC) (x : Str) : Bool := isLocal C.sc x || (isCell C.sc x && C.cellOk x)
def okName (x : Str) : Bool := !(x == ("__debug__" : Str)) && !(x == ("__classdict__" : Str)) && !(x == ("__name__" : Str))
theorem okName_ok {x : Str} (h : okName x = true) : (x == ("__debug__" : Str)) = false ∧ (x == ("__classdict__" : Str)) = false ∧ x ≠ "__name__" := by
  unfold okName at h
  simp only [Bool.and_eq_true, Bool.not_eq_true'] at h
  exact ⟨h.1.1, h.1.2, fun e => by rw [e] at h; simp at h⟩

structure CtxOk (C : CC) (T : Kit) (k : Nat) (X : Cx) (W : WX) : Prop where
  N : X.N = C.N
  sc : X.env.scope = C.sc
  cell : ∀ x, C.cellOk x = true → X.fn x = true
  K : X.K = T.K
  room : C.calm = true → Room k X.A
  un : X.A.units + 65 < cLine
  calm : C.calm = true → X.calm = true ∧ T.x = none
  hot : C.hx = true → ∃ (X0 : Cx) (a : Addr) (oe : Obj) (cls : Value) (dx : Option Addr) (pn : List (Addr × Obj)) (T0 : Kit), X = X0.suite a ((a, oe) :: pn) ∧ T = T0.at a cls dx ∧ Zc cls dx oe ∧ ∃ vs, oe.data = .fields vs
  xc : ∀ c ∈ C.xcs, XcOk X.K T c
  xk : ∀ x ch, C.hds.lookup x = some ch → X.mg x = some (.ref (T.cl ch)) ∧ (x == ("__debug__" : Str)) = false ∧ ∀ c ∈ C.xcs, PySem.W.kitOne X.K (.ref (T.cl c)) (.ref (T.cl ch)) = some (subX c ch) ∧ PySem.W.exmOne X.K (.ref (T.cl c)) (.ref (T.cl ch)) = some (subX c ch)
  xfl : ∀ x q, C.xfl.lookup x = some q → slotOf x (T.fn q.1) = some q.2 ∧ XcOk X.K T q.1
  eqs : ∀ c f, C.eqs.lookup c = some f → C.calm = true ∧ ∃ j, j + 1 ≤ k ∧ EqAt X T j c f
  iss : ∀ x c, C.iss.lookup x = some c → X.mg x = some (.ref (T.cl c)) ∧ (x == ("__debug__" : Str)) = false ∧ OisAt X.K T c
  iso : ∀ c ∈ C.iso, OisAt X.K T c
  pass : ∀ σ, PassesAt (L2.CX X.prog X.w) X σ (WE W σ)
  nd : C.N.Nodup
  fns : ∀ x f, C.fns.lookup x = some f → FnAt X T k x f
  fnsM : ∀ x f, C.fnsM.lookup x = some f → FnAt X T k x f
  kfns : ∀ x ks f, C.kfns.lookup (x, ks) = some f → FnKAt X T k x ks f
  cons : ∀ x d, C.cons.lookup x = some d → ∃ u v, X.mg x = some u ∧ RelV v u ∧ ∀ G, Rep T G d v
  flds : ∀ x q, C.flds.lookup x = some q → FldAt X.K T x q.1 q.2
  prps : ∀ x q, C.prps.lookup x = some q → ∃ j, j + 1 ≤ k ∧ PrpAt X T j x q.1 q.2
  prpsM : ∀ x q, C.prpsM.lookup x = some q → ∃ j, j + 1 ≤ k ∧ PrpAt X T j x q.1 q.2
  mths : ∀ x q, C.mths.lookup x = some q → MthAt X T k x q.1 q.2
  mthsM : ∀ x q, C.mthsM.lookup x = some q → MthAt X T k x q.1 q.2
  blt : ∀ x ∈ (["len", "abs", "int", "str", "list", "tuple", "sum", "all", "any", "max", "min", "sorted", "range", "zip", "enumerate", "isinstance", "bool", "set"] : List Str), X.mg x = none

/-! ### expressions -/
def bkOf (x : Str) : Option BK := [BK.len, .abs, .int, .str, .list, .tuple, .sum, .all, .any, .max, .min, .sorted].find? fun k => k.name == x
theorem bkOf_ok {x : Str} {k : BK} (h : bkOf x = some k) : k.name = x := by
  unfold bkOf at h
  have := List.find?_some h
  simpa using this
def tkOf (x : Str) : Option TK := [TK.int, .bool, .str, .list, .tuple].find? fun k => k.nm == x
theorem tkOf_ok {x : Str} {k : TK} (h : tkOf x = some k) : k.nm = x := by
  unfold tkOf at h
  have := List.find?_some h
  simpa using this
def mkOf (x : Str) : Option MK := [MK.append, .extend, .insert, .popAt, .index, .split, .join, .starts].find? fun k => k.name == x
theorem mkOf_ok {x : Str} {k : MK} (h : mkOf x = some k) : k.name = x := by
  unfold mkOf at h
  have := List.find?_some h
  simpa using this
def cmpSem : CmpOp → D → D → M D
  | .Eq => dEq false | .NotEq => dEq true | .Lt => dCmpI fun i j => decide (i < j) | .LtE => dCmpI fun i j => decide (i ≤ j) | .Gt => dCmpI fun i j => decide (j < i) | .GtE => dCmpI fun i j => decide (j ≤ i)
  | .Is => dIsN false | .IsNot => dIsN true | .In => dIn false | .NotIn => dIn true
def cmpC (C : CC) (op : CmpOp) : D → D → M D := if C.eqs.isEmpty = true then cmpSem op else match op with
  | .Eq => dEqO C.eqs false
  | .NotEq => dEqO C.eqs true
  | op => cmpSem op
def isSet : Expr → Bool
  | .Set _ _ _ => true
  | _ => false
def isComp : Expr → Bool
  | .ListComp _ _ _ _ => true
  | .SetComp _ _ _ _ => true
  | .DictComp _ _ _ _ _ => true
  | _ => false
def isTupE : Expr → Bool
  | .Tuple _ _ _ => true
  | _ => false
def compEs (f : Expr → Option (Envd → M D)) : List Expr → Option (Envd → M (List D))
  | [] => some sNil
  | e :: es => o2 (f e) (compEs f es) fun a b => some (sCons a b)
def compEsS (f : Expr → Option (Envd → M D)) : List Expr → Option (Envd → M (List D))
  | [] => some sNil
  | .Starred e _ :: es => o2 (f e) (compEsS f es) fun a b => some (sStar a b)
  | e :: es => o2 (f e) (compEsS f es) fun a b => some (sCons a b)
def compPart (f : Expr → Option (Envd → M D)) : Option Expr → Option (Envd → M (Option Int))
  | none => some (sPart none)
  | some e => o1 (f e) fun a => some (sPart (some a))
def foldV (op : BoolOp) : List (Envd → M D) → Option (Envd → M D)
  | [] => none
  | [f] => some f
  | f :: g :: fs => o1 (foldV op (g :: fs)) fun h => some (match op with | .And => vAnd f h | .Or => vOr f h)
def foldT (op : BoolOp) : List (Envd → M Bool) → Option (Envd → M Bool)
  | [] => none
  | [f] => some f
  | f :: g :: fs => o1 (foldT op (g :: fs)) fun h => some (match op with | .And => sAnd f h | .Or => sOr f h)
def allSome {α : Type} : List (Option α) → Option (List α)
  | [] => some []
  | x :: xs => o2 x (allSome xs) fun a as => some (a :: as)
def compTg (C : CC) : Expr → Option Tg
  | .Name x _ => gd (stOk C x) (o1 (slotOf x C.N) fun i => some (.nm i))
  | .Tuple es _ _ => gd C.calm (o1 (allSome (es.map fun e => match e with
      | .Name x _ => gd (stOk C x) (slotOf x C.N)
      | _ => none)) fun is => some (.tp is))
  | _ => none
def ownOf (C : CC) (scope : Scope) : List (Str × Nat) := scope.names.filterMap fun y => match y.2 with
  | .local => (slotOf y.1 C.N).map fun i => (y.1, i)
  | .cell => (slotOf y.1 C.N).map fun i => (y.1, i)
  | _ => none
def CC.blk (C : CC) (scope : Scope) : CC := { C with sc := relS scope C.sc, cellOk := fun x => scope.names.lookup x == some .cell, excs := [], excF := [], hx := false }
def plainT : Expr → Bool
  | .Name _ _ => true
  | .Call _ _ _ _ => true
  | .Subscript _ _ _ => true
  | .Constant _ _ _ => true
  | .Attribute _ _ _ => true
  | _ => false
/-- the compilers of the parts -/
structure Sub where
  e : Expr → Option (Envd → M D)
  t : Expr → Option (Envd → M Bool)
def compBin (mu : Bool) (fa fb : Envd → M D) : Operator → Option (Envd → M D)
  | .Add => some (s2 fa fb (dAdd mu))
  | .Sub => some (s2 fa fb dSub)
  | .Mult => some (s2 fa fb (dMul mu))
  | .FloorDiv => some (s2 fa fb dDiv)
  | .Mod => some (s2 fa fb dMod)
  | .Pow => some (s2 fa fb dPow)
  | _ => none
def compName (C : CC) (x : Str) : Option (Envd → M D) := gd (okName x) (if isVis C.sc x = true then o1 (slotOf x C.N) fun i => some (sVar i) else gd (isGl C.sc x) (o1 (C.cons.lookup x) fun d => some (sC d)))
def compIsi (C : CC) (E : Expr → Option (Envd → M D)) (a : Expr) : List Expr → Option (Envd → M D)
  | [.Name t _] => match (if C.hx = true then C.hds.lookup t else none) with
    | some ch => o1 (E a) fun fa => gd (isGl C.sc t) (some (s1 fa (dIsX C.xcs ch)))
    | none => match C.iss.lookup t with
      | some c => o1 (E a) fun fa => gd (isGl C.sc t) (some (s1 fa (dIsO c)))
      | none => o2 (tkOf t) (E a) fun k fa => gd (isGl C.sc t) (some (s1 fa (if C.iso.isEmpty = true then dIsi [k] else dIsiO C.iso [k])))
  | [.Tuple [.Name t _, .Name u _] _ _] => o2 (tkOf t) (tkOf u) fun k l => o1 (E a) fun fa => gd (isGl C.sc t && isGl C.sc u) (some (s1 fa (if C.iso.isEmpty = true then dIsi [k, l] else dIsiO C.iso [k, l])))
  | _ => none
/-- sorted(set(b)) -/
def setArg (f : Str) (a : Expr) (as : List Expr) : Option Expr := match a, as with
  | .Call (.Name g _) [b] [] _, [] => if f = ("sorted" : Str) ∧ g = ("set" : Str) ∧ noStar [b] = true then some b else none
  | _, _ => none
theorem setArg_ok {f : Str} {a b : Expr} {as : List Expr} (h : setArg f a as = some b) : f = ("sorted" : Str) ∧ as = [] ∧ noStar [b] = true ∧ ∃ p q, a = .Call (.Name "set" p) [b] [] q := by
  unfold setArg at h
  split at h
  · split at h
    · rename_i c
      obtain ⟨h1, h2, h3⟩ := c
      cases h
      subst h2
      exact ⟨h1, rfl, h3, _, _, rfl⟩
    · cases h
  · cases h
/-- list(zip(..)) -/
def zipArg (f : Str) (a : Expr) (as : List Expr) : Option (List Expr) := match a, as with
  | .Call (.Name g _) (e :: es) [] _, [] => if f = ("list" : Str) ∧ g = ("zip" : Str) ∧ noStar (e :: es) = true then some (e :: es) else none
  | _, _ => none
theorem zipArg_ok {f : Str} {a : Expr} {as bs : List Expr} (h : zipArg f a as = some bs) : f = ("list" : Str) ∧ as = [] ∧ noStar bs = true ∧ ∃ p q e es, bs = e :: es ∧ a = .Call (.Name "zip" p) (e :: es) [] q := by
  unfold zipArg at h
  split at h
  · split at h
    · rename_i c
      obtain ⟨h1, h2, h3⟩ := c
      cases h
      subst h2
      exact ⟨h1, rfl, h3, _, _, _, _, rfl, rfl⟩
    · cases h
  · cases h
/-- list(range(a, b)) -/
def rngArg (f : Str) (a : Expr) (as : List Expr) : Option (Expr × Expr) := match a, as with
  | .Call (.Name g _) [b, c] [] _, [] => if f = ("list" : Str) ∧ g = ("range" : Str) ∧ noStar [b, c] = true then some (b, c) else none
  | _, _ => none
theorem rngArg_ok {f : Str} {a : Expr} {as : List Expr} {bc : Expr × Expr} (h : rngArg f a as = some bc) : f = ("list" : Str) ∧ as = [] ∧ noStar [bc.1, bc.2] = true ∧ ∃ p q, a = .Call (.Name "range" p) [bc.1, bc.2] [] q := by
  unfold rngArg at h
  split at h
  · split at h
    · rename_i c
      obtain ⟨h1, h2, h3⟩ := c
      cases h
      subst h2
      exact ⟨h1, rfl, h3, _, _, rfl⟩
    · cases h
  · cases h
def compCall (C : CC) (E : Expr → Option (Envd → M D)) (f : Str) (a : Expr) (as : List Expr) (p : Pos) : Option (Envd → M D) :=
  gd (okName f && isGl C.sc f && noStar (a :: as)) (if f = ("isinstance" : Str) then compIsi C E a as else match rngArg f a as with
    | some bc => gd (C.calm && isGl C.sc "range") (o2 (E bc.1) (E bc.2) fun fa fb => some (s2 fa fb (dLrange (C.mu p))))
    | none => match zipArg f a as with
    | some bs => gd (C.calm && isGl C.sc "zip") (o1 (compEs E bs) fun g => some (s1 g (dLzip (C.mu p))))
    | none => match setArg f a as with
    | some b => gd (C.calm && isGl C.sc "set") (o1 (E b) fun fb => some (s1 fb (dSortSet (C.mu p))))
    | none => gd C.calm (match bkOf f with
    | some k => o1 (compEs E (a :: as)) fun g => some (s1 g (k.sem (C.mu p)))
    | none => o2 ((if C.mu p = true then C.fnsM else C.fns).lookup f) (compEs E (a :: as)) fun h g => some (s1 g h)))
def sK (n : Nat) (sem : List D → M D) (ds : List D) : M D := if ds.length = n then sem ds else stk
def compKw (E : Expr → Option (Envd → M D)) : List Keyword → Option (Envd → M (List D))
  | [] => some sNil
  | ⟨_, e, _⟩ :: ks => o2 (E e) (compKw E ks) fun a b => some (sCons a b)
def compCallK (C : CC) (E : Expr → Option (Envd → M D)) (f : Str) (k : Keyword) (ks : List Keyword) : Option (Envd → M D) :=
  gd (C.calm && okName f && isGl C.sc f && kwAll (k :: ks)) (o2 (C.kfns.lookup (f, kwNames (k :: ks))) (compKw E (k :: ks)) fun h g => some (s1 g (sK (kwNames (k :: ks)).length h)))
def CC.prp (C : CC) (p : Pos) (x : Str) : Option (Nat × (List D → M D)) := if C.mu p = true then C.prpsM.lookup x else C.prps.lookup x
def CC.mth (C : CC) (p : Pos) (x : Str) : Option (Nat × (List D → M D)) := if C.mu p = true then C.mthsM.lookup x else C.mths.lookup x
def compAtt (C : CC) (E : Expr → Option (Envd → M D)) (o : Expr) (x : Str) (p : Pos) : Option (Envd → M D) :=
  gd (plainO o) (match (if C.hx = true then C.xfl.lookup x else none) with
    | some q => o1 (E o) fun fo => some (s1 fo (dXf q.1 q.2))
    | none => match C.flds.lookup x with
    | some q => o1 (E o) fun fo => some (s1 fo (dFld q.1 q.2))
    | none => gd C.calm (o2 (C.prp p x) (E o) fun q fo => some (s1 fo (dPrp q.1 q.2))))
def compCall0 (C : CC) (f : Str) (p : Pos) : Option (Envd → M D) := gd (C.calm && okName f && isGl C.sc f) (o1 ((if C.mu p = true then C.fnsM else C.fns).lookup f) fun h => some (s1 sNil h))
def compMeth0 (C : CC) (E : Expr → Option (Envd → M D)) (o : Expr) (m : Str) (ap p : Pos) : Option (Envd → M D) :=
  gd (plainO o && ap.endLine == p.line) (if m = ("pop" : Str) then o1 (E o) fun fo => some (sBM chkL fo sNil dPop) else if m = ("bit_length" : Str) then o1 (E o) fun fo => some (s1 fo dBits) else gd C.calm (o2 (C.mth p m) (E o) fun q fo => some (sMth q.1 q.2 fo sNil)))
def compMeth (C : CC) (E : Expr → Option (Envd → M D)) (o : Expr) (m : Str) (ap : Pos) (a : Expr) (as : List Expr) (p : Pos) : Option (Envd → M D) :=
  gd (plainO o && ap.endLine == p.line && noStar (a :: as) && decide ((a :: as).length < 20)) (match mkOf m with
    | some k => o2 (E o) (compEs E (a :: as)) fun fo fa => some (sBM k.chk fo fa (k.sem (C.mu p)))
    | none => gd C.calm (o1 (C.mth p m) fun q => o2 (E o) (compEs E (a :: as)) fun fo fa => some (sMth q.1 q.2 fo fa)))
def compSub (C : CC) (E : Expr → Option (Envd → M D)) (a b : Expr) (p : Pos) : Option (Envd → M D) := match b with
  | .Slice lo hi none _ => o1 (E a) fun fa => o2 (compPart E lo) (compPart E hi) fun fl fh => some (sSl (C.mu p) fa fl fh)
  | .Slice none none (some (.UnaryOp .USub (.Constant (.int 1) _ _) _)) _ => o1 (E a) fun fa => some (s1 fa (dRev (C.mu p)))
  | b => gd (noSlice b) (o2 (E a) (E b) fun fa fb => some (s2 fa fb dIx))
def compIfs (Tt : Expr → Option (Envd → M Bool)) : List Expr → Option (Envd → M Bool)
  | [] => some (fun _ => ret true)
  | [c] => Tt c
  | _ => none
/-- the parts of a comprehension: what is walked, the target, the own slots, the test, the item -/
def compLc (C : CC) (I : Expr → Expr → Option (Envd → M (List D))) (Tb : Expr → Option (Envd → M Bool)) (Eb : Expr → Option (Envd → M D)) (elt tg iter : Expr) (ifs : List Expr) (scope : Scope) (mu : Bool) : Option (Envd → M D) :=
  gd (C.calm && (!isSet iter && blkC C.N C.sc scope (ownOf C scope))) (o2 (I tg iter) (compTg (C.blk scope) tg) fun it t =>
    gd (t.slots.all fun i => ((ownOf C scope).map (·.2)).contains i) (o2 (compIfs Tb ifs) (Eb elt) fun ft fe => some (sComp mu it t ((ownOf C scope).map (·.2)) ft fe)))
mutual
def compE (C : CC) : Nat → Expr → Option (Envd → M D)
  | 0, _ => none
  | n + 1, e => match e with
    | .Constant (.int i) _ _ => some (sC (.int i))
    | .Constant (.bool b) _ _ => some (sC (.bl b))
    | .Constant .none _ _ => some (sC .non)
    | .Constant (.str s) _ _ => some (sC (.str s))
    | .Name x _ => compName C x
    | .BinOp a op b p => o2 (compE C n a) (compE C n b) fun fa fb => compBin (C.mu p) fa fb op
    | .UnaryOp .USub a _ => o1 (compE C n a) fun fa => some (s1 fa dNeg)
    | .UnaryOp .Not a _ => o1 (compE C n a) fun fa => some (vNot fa)
    | .BoolOp op es _ => o1 (allSome (es.map (compE C n))) (foldV op)
    | .IfExp c a b _ => o1 (compT C n c) fun fc => o2 (compE C n a) (compE C n b) fun fa fb => some (sIf fc fa fb)
    | .Compare a [op] [b] _ => gd (!isSet b) (o2 (compE C n a) (compE C n b) fun fa fb => some (s2 fa fb (cmpC C op)))
    | .Compare a [op, op'] [b, c] _ => gd (!isSet c) (o1 (compE C n a) fun fa => o2 (compE C n b) (compE C n c) fun fb fc => some (sChain (cmpSem op) (cmpSem op') fa fb fc))
    | .List es p => o1 (compEsS (compE C n) es) fun f => some (s1 f (newLs (C.mu p)))
    | .Tuple es _ _ => o1 (compEsS (compE C n) es) fun f => some (s1 f newTs)
    | .Dict [] [] _ => some (sC (.dct [] []))
    | .Subscript a b p => compSub C (compE C n) a b p
    | .Attribute o x p => compAtt C (compE C n) o x p
    | .Call (.Name f _) [] [] p => compCall0 C f p
    | .Call (.Name f _) (a :: as) [] p => compCall C (compE C n) f a as p
    | .Call (.Name f _) [] (k :: ks) p => compCallK C (compE C n) f k ks
    | .Call (.Attribute o m ap) [] [] p => compMeth0 C (compE C n) o m ap p
    | .Call (.Attribute o m ap) (a :: as) [] p => compMeth C (compE C n) o m ap a as p
    | .ListComp elt [⟨tg, iter, ifs, 0⟩] scope p => compLc C (compI C n) (compT (C.blk scope) n) (compE (C.blk scope) n) elt tg iter ifs scope (C.mu p)
    | _ => none
def compT (C : CC) : Nat → Expr → Option (Envd → M Bool)
  | 0, _ => none
  | n + 1, e => match e with
    | .UnaryOp .Not a _ => o1 (compT C n a) fun f => some (sNot f)
    | .BoolOp op es _ => o1 (allSome (es.map (compT C n))) (foldT op)
    | .Compare a [op] [b] _ => gd (!isSet b) (o2 (compE C n a) (compE C n b) fun fa fb => some (sTest (s2 fa fb (cmpC C op))))
    | .Compare a [op, op'] [b, c] _ => gd (!isSet c) (o1 (compE C n a) fun fa => o2 (compE C n b) (compE C n c) fun fb fc => some (sTest (sChain (cmpSem op) (cmpSem op') fa fb fc)))
    | e => gd (plainT e) (o1 (compE C n e) fun f => some (sTest f))
def compI (C : CC) : Nat → Expr → Expr → Option (Envd → M (List D))
  | 0, _, _ => none
  | n + 1, tg, e => match e with
    | .Call (.Name f p') (a :: as) [] p =>
      if f = ("range" : Str) then gd (isGl C.sc f && noStar (a :: as)) (o1 (compEs (compE C n) (a :: as)) fun g => match as with
        | [] => some (s1 g dRange1)
        | [_] => some (s1 g dRange2)
        | [_, _] => some (s1 g dRange3)
        | _ => none)
      else if f = ("zip" : Str) then match a, as with
        | .Starred e _, [] => gd (isGl C.sc f) (o1 (compE C n e) fun fe => some (s1 fe dZipS))
        | a, as => gd (isGl C.sc f && noStar (a :: as)) (o1 (compEs (compE C n) (a :: as)) fun g => if as.length = 1 ∧ isTupE tg = true then some (s1 g dZip) else some (s1 g dZipN))
      else if f = ("enumerate" : Str) then gd (isGl C.sc f && noStar (a :: as) && isTupE tg) (o1 (compEs (compE C n) (a :: as)) fun g => match as with
        | [] => some (s1 g dEnum)
        | _ => none)
      else o1 (compE C n (.Call (.Name f p') (a :: as) [] p)) fun g => some (iSeq g)
    | e => o1 (compE C n e) fun g => some (iSeq g)
end
end Ev

set_option Elab.async false
set_option linter.all false
set_option maxRecDepth 100000
set_option maxHeartbeats 4000000
/-! EvK: compE, compT, compI are right. -/
namespace Ev
open PySem PySem.Spec PyProof.Rows L2

inductive All2 {α β : Type} (R : α → β → Prop) : List α → List β → Prop
  | nil : All2 R [] []
  | cons {a : α} {b : β} {as : List α} {bs : List β} : R a b → All2 R as bs → All2 R (a :: as) (b :: bs)

section
variable {C : CC} {T : Kit} {k : Nat} {X : Cx} {W : WX} {pos : Pos}
theorem CtxOk.nodup (c : CtxOk C T k X W) : X.N.Nodup := by rw [c.N]; exact c.nd
theorem CtxOk.units (c : CtxOk C T k X W) : X.A.units + 65 < cLine := c.un
theorem CtxOk.gl (c : CtxOk C T k X W) {x : Str} (h : isGl C.sc x = true) : Gl X x := by
  show X.env.scope.names.lookup x = some .globalImplicit
  rw [c.sc]; exact isGl_ok h
theorem CtxOk.blk (c : CtxOk C T k X W) (hc : C.calm = true) (scope : Scope) (s : Shared) (H : Hp) (D : Addr) (cl : List (Str × Addr)) (fp : List Addr) : CtxOk (C.blk scope) T k (X.blk s H scope (compEnvC scope cl D X.env) fp) WF := by
  refine ⟨c.N, ?_, fun x h => h, c.K, c.room, c.un, c.calm, fun h => (Bool.noConfusion h), c.xc, c.xk, c.xfl, fun x f h => ⟨(c.eqs x f h).1, (c.eqs x f h).2.elim fun j z => ⟨j, z.1, z.2.eq, z.2.ne, z.2.ob⟩⟩, c.iss, c.iso, fun σ pins H s e s' I h => ?_, c.nd, fun x f h => ⟨(c.fns x f h).ex⟩, fun x f h => ⟨(c.fnsM x f h).ex⟩, fun x ks f h => ⟨(c.kfns x ks f h).ex⟩, c.cons, c.flds, fun x q h => ?_, fun x q h => ?_, fun x q h => ⟨(c.mths x q h).cls, (c.mths x q h).ix, (c.mths x q h).ex⟩, fun x q h => ⟨(c.mthsM x q h).cls, (c.mthsM x q h).ix, (c.mthsM x q h).ex⟩, c.blt⟩
  · show relS scope X.env.scope = relS scope C.sc
    rw [c.sc]
  · obtain ⟨a, B, H', cls, d, _, _, _, _, _, _, _, w⟩ := h
    exact w.elim
  · obtain ⟨j, hj, z⟩ := c.prps x q h
    exact ⟨j, hj, z.cls, z.ex⟩
  · obtain ⟨j, hj, z⟩ := c.prpsM x q h
    exact ⟨j, hj, z.cls, z.ex⟩
theorem nobeh {op : CmpOp} {b : Expr} (h : (!isSet b) = true) : behindInMarks op b = false := by
  cases b <;> first | rfl | (simp [isSet] at h)
theorem nofold {b : Expr} (h : (!isSet b) = true) {env : Env} : ∀ x, foldedSetIterable b env x = pure x := by
  cases b <;> first | (intro x; rfl) | (simp [isSet] at h)
theorem cmp_ok (c : CtxOk C T k X W) : ∀ op : CmpOp, ∃ r : R2, OpR X (compareOp op) r ∧ Two T (cmpSem op) r
  | .Eq => ⟨_, op_eqD (by have := c.units; omega), two_eq c.K⟩
  | .NotEq => ⟨_, op_neD (by have := c.units; omega), two_ne c.K⟩
  | .Lt => ⟨_, op_lt, two_cmpI _⟩
  | .LtE => ⟨_, op_le, two_cmpI _⟩
  | .Gt => ⟨_, op_gt, two_cmpI _⟩
  | .GtE => ⟨_, op_ge, two_cmpI _⟩
  | .Is => ⟨_, op_isN, two_isN⟩
  | .IsNot => ⟨_, op_notN, two_notN⟩
  | .In => ⟨_, op_inA c.units, two_in c.K⟩
  | .NotIn => ⟨_, op_notInA c.units, two_notIn c.K⟩
theorem cmpC_ok (c : CtxOk C T k X W) (op : CmpOp) : ∃ r : R2, OpR X (compareOp op) r ∧ Two T (cmpC C op) r := by
  unfold cmpC
  split
  · exact cmp_ok c op
  · rename_i he
    have hc : C.calm = true := by
      cases h : C.eqs with
      | nil => rw [h] at he; exact absurd rfl he
      | cons q r => exact (c.eqs q.1 q.2 (by rw [h, List.lookup_cons]; simp)).1
    split
    · exact ⟨_, op_ownEq.or (op_eqD (by have := c.units; omega)), two_own (neg := false) (fun x f h => (c.eqs x f h).2) (c.room hc) (two_eq c.K)⟩
    · exact ⟨_, op_ownNe.or (op_neD (by have := c.units; omega)), two_own (neg := true) (fun x f h => (c.eqs x f h).2) (c.room hc) (two_ne c.K)⟩
    · exact cmp_ok c op
theorem compEs_ok {E : Expr → Option (Envd → M D)} (ih : ∀ e f, E e = some f → VE T X W e f) : ∀ {es : List Expr} {g : Envd → M (List D)}, noStar es = true → compEs E es = some g → VA T X W es g
  | [], g, _, h => by cases h; exact va_nil
  | e :: es, g, hs, h => by
    obtain ⟨a, b, h1, h2, h3⟩ := o2_some h
    cases h3
    exact va_cons (ih e a h1) (compEs_ok ih (noStar_tail hs) h2) (star_cons hs)
theorem compEsS_ok (c : CtxOk C T k X W) {E : Expr → Option (Envd → M D)} (ih : ∀ e f, E e = some f → VE T X W e f) : ∀ {es : List Expr} {g : Envd → M (List D)}, compEsS E es = some g → VA T X W es g
  | [], g, h => by cases h; exact va_nil
  | e :: es, g, h => by
    unfold compEsS at h
    split at h
    · rename_i he; cases he
    · rename_i e' p es' he
      cases he
      obtain ⟨a, b, h1, h2, h3⟩ := o2_some h
      cases h3
      exact va_star c.K (ih _ _ h1) (compEsS_ok c ih h2)
    · rename_i e' es' hn he
      cases he
      obtain ⟨a, b, h1, h2, h3⟩ := o2_some h
      cases h3
      refine va_cons (ih _ _ h1) (compEsS_ok c ih h2) ?_
      cases e <;> first | rfl | exact absurd rfl (hn _ _)
theorem compPart_ok {E : Expr → Option (Envd → M D)} (ih : ∀ e f, E e = some f → VE T X W e f) : ∀ {e : Option Expr} {g : Envd → M (Option Int)}, compPart E e = some g → PO X e (tO T W g)
  | none, g, h => by cases h; exact vo_none
  | some e, g, h => by
    obtain ⟨a, h1, h2⟩ := o1_some h
    cases h2
    exact vo_some (ih e a h1)
theorem allSome_ok {α β : Type} {F : α → Option β} : ∀ {xs : List α} {ys : List β}, allSome (xs.map F) = some ys → All2 (fun x y => F x = some y) xs ys
  | [], ys, h => by cases h; exact .nil
  | x :: xs, ys, h => by
    obtain ⟨a, b, h1, h2, h3⟩ := o2_some h
    cases h3
    exact .cons h1 (allSome_ok h2)
theorem foldV_ok {op : BoolOp} : ∀ {es : List Expr} {fs : List (Envd → M D)} {f : Envd → M D}, All2 (fun e g => VE T X W e g) es fs → foldV op fs = some f → VE T X W (.BoolOp op es pos) f
  | [], [], f, _, h => by cases h
  | [e], [g], f, .cons h1 .nil, h => by cases h; exact pe_one h1
  | e :: e2 :: es, g :: g2 :: gs, f, .cons h1 hr, h => by
    obtain ⟨z, h2, h3⟩ := o1_some h
    cases h3
    cases op
    · exact ve_and h1 (foldV_ok hr h2)
    · exact ve_or h1 (foldV_ok hr h2)
theorem foldT_ok {op : BoolOp} : ∀ {es : List Expr} {fs : List (Envd → M Bool)} {f : Envd → M Bool}, All2 (fun e g => VT T X W e g) es fs → foldT op fs = some f → VW T X W (.BoolOp op es pos) f
  | [], [], f, _, h => by cases h
  | [e], [g], f, .cons h1 .nil, h => by
    cases h
    cases op
    · exact vw_and1 h1
    · exact vw_or1 h1
  | e :: e2 :: es, g :: g2 :: gs, f, .cons h1 hr, h => by
    obtain ⟨z, h2, h3⟩ := o1_some h
    cases h3
    cases op
    · exact vw_and h1 (foldT_ok hr h2)
    · exact vw_or h1 (foldT_ok hr h2)
theorem forall2_imp {α β : Type} {R S : α → β → Prop} (h : ∀ a b, R a b → S a b) : ∀ {xs : List α} {ys : List β}, All2 R xs ys → All2 S xs ys
  | _, _, .nil => .nil
  | _, _, .cons a r => .cons (h _ _ a) (forall2_imp h r)
theorem stOk_ok (c : CtxOk C T k X W) {x : Str} (h : stOk C x = true) : L2.Loc X.env.scope x ∧ (X.fn x = true ∨ X.env.scope.names.lookup x = some .local) := by
  unfold stOk at h
  rw [Bool.or_eq_true, Bool.and_eq_true] at h
  unfold L2.Loc
  rw [c.sc]
  rcases h with h | ⟨h, g⟩
  · exact ⟨.inl (isLocal_ok h), .inr (isLocal_ok h)⟩
  · exact ⟨.inr (isCell_ok h), .inl (c.cell x g)⟩
theorem tgNames_ok (c : CtxOk C T k X W) : ∀ {es : List Expr} {is : List Nat}, All2 (fun e i => (match e with
      | .Name x _ => gd (stOk C x) (slotOf x C.N)
      | _ => none) = some i) es is → NamesAt X es is
  | [], [], .nil => .nil
  | e :: es, i :: is, .cons h r => by
    split at h
    · obtain ⟨h1, h2⟩ := gd_some h
      obtain ⟨k1, k2⟩ := stOk_ok c h1
      exact .cons (by rw [c.N]; exact slotOf_ok h2) k1 k2 (tgNames_ok c r)
    · cases h
theorem compTg_ok (c : CtxOk C T k X W) {tg : Expr} {t : Tg} (h : compTg C tg = some t) : VG T X tg t := by
  unfold compTg at h
  split at h
  · obtain ⟨h1, h2⟩ := gd_some h
    obtain ⟨i, h3, h4⟩ := o1_some h2
    cases h4
    obtain ⟨k1, k2⟩ := stOk_ok c h1
    exact vg_name c.nodup (by rw [c.N]; exact slotOf_ok h3) k1 k2
  · obtain ⟨hc, h⟩ := gd_some h
    obtain ⟨is, h1, h2⟩ := o1_some h
    cases h2
    exact vg_tup c.K (c.calm hc).1 c.nodup (tgNames_ok c (allSome_ok h1))
  · cases h
theorem compBin_ok {mu : Bool} {a b : Expr} {op : Operator} {fa fb f : Envd → M D} (ha : VE T X W a fa) (hb : VE T X W b fb) (h : compBin mu fa fb op = some f) : VE T X W (.BinOp a op b pos) f := by
  unfold compBin at h
  split at h <;> first | (cases h; done) | skip
  · cases h; exact ve_add ha hb
  · cases h; exact ve_sub ha hb
  · cases h; exact ve_mul ha hb
  · cases h; exact ve_div ha hb
  · cases h; exact ve_mod ha hb
  · cases h; exact ve_pow ha hb
theorem compName_ok (c : CtxOk C T k X W) {x : Str} {f : Envd → M D} (h : compName C x = some f) : VE T X W (.Name x pos) f := by
  obtain ⟨h1, h2⟩ := gd_some h
  obtain ⟨n1, n2, n3⟩ := okName_ok h1
  split at h2
  · rename_i hv
    obtain ⟨i, h3, h4⟩ := o1_some h2
    cases h4
    exact ve_var (by rw [c.N]; exact slotOf_ok h3) (by rw [c.sc]; exact isVis_ok hv) n1 n2
  · obtain ⟨hg, h3⟩ := gd_some h2
    obtain ⟨d, h4, h5⟩ := o1_some h3
    cases h5
    obtain ⟨u, v, m, r, q⟩ := c.cons x d h4
    exact ve_glob (c.gl hg) m r q n1
theorem compIsi_ok (c : CtxOk C T k X W) {E : Expr → Option (Envd → M D)} (ih : ∀ e f, E e = some f → VE T X W e f) {a : Expr} {as : List Expr} {f : Envd → M D} {p : Pos} (hg : isGl C.sc "isinstance" = true) (hs : noStar (a :: as) = true) (h : compIsi C E a as = some f) :
    VE T X W (.Call (.Name "isinstance" p) (a :: as) [] pos) f := by
  have ha : noStar [a] = true := by cases a <;> first | rfl | (simp only [noStar] at hs; cases hs)
  unfold compIsi at h
  split at h
  · split at h
    · rename_i ch hch
      obtain ⟨fa, h2, h3⟩ := o1_some h
      obtain ⟨h4, h5⟩ := gd_some h3
      cases h5
      split at hch
      · rename_i hx
        obtain ⟨X0, a0, oe, cls, dx, pn, T0, rfl, rfl, hz, hf⟩ := c.hot hx
        obtain ⟨k1, k2, k3⟩ := c.xk _ _ hch
        exact ve_isx (X := X0) (T := T0) (fun z hz => ⟨(c.xc z hz).isE, (c.xc z hz).xf, (c.xc z hz).no⟩) (fun z hz => (k3 z hz).1) hz hf (c.gl hg) (c.blt _ (by decide +kernel)) (c.gl h4) k1 k2 (ih _ _ h2) ha
      · cases hch
    · split at h
      · rename_i cc hcc
        obtain ⟨fa, h2, h3⟩ := o1_some h
        obtain ⟨h4, h5⟩ := gd_some h3
        cases h5
        obtain ⟨k1, k2, k3⟩ := c.iss _ _ hcc
        exact ve_iso k3 (c.gl hg) (c.blt _ (by decide +kernel)) (c.gl h4) k1 k2 (ih _ _ h2) ha
      · obtain ⟨kk, fa, h1, h2, h3⟩ := o2_some h
        obtain ⟨h4, h5⟩ := gd_some h3
        cases h5
        have e := tkOf_ok h1
        subst e
        split
        · exact ve_isi c.K (c.gl hg) (c.blt _ (by decide +kernel)) (c.gl h4) (c.blt _ (by cases kk <;> decide +kernel)) (ih _ _ h2) ha
        · exact ve_isiO c.iso c.K (c.gl hg) (c.blt _ (by decide +kernel)) (c.gl h4) (c.blt _ (by cases kk <;> decide +kernel)) (ih _ _ h2) ha
  · obtain ⟨kk, l, h1, h2, h3⟩ := o2_some h
    obtain ⟨fa, h7, h4⟩ := o1_some h3
    obtain ⟨h6, h5⟩ := gd_some h4
    cases h5
    rw [Bool.and_eq_true] at h6
    have e := tkOf_ok h1
    have e2 := tkOf_ok h2
    subst e; subst e2
    split
    · exact ve_isi2 c.K (c.gl hg) (c.blt _ (by decide +kernel)) (c.gl h6.1) (c.blt _ (by cases kk <;> decide +kernel)) (c.gl h6.2) (c.blt _ (by cases l <;> decide +kernel)) (ih _ _ h7) ha
    · exact ve_isiO2 c.iso c.K (c.gl hg) (c.blt _ (by decide +kernel)) (c.gl h6.1) (c.blt _ (by cases kk <;> decide +kernel)) (c.gl h6.2) (c.blt _ (by cases l <;> decide +kernel)) (ih _ _ h7) ha
  · cases h
theorem compCall_ok (c : CtxOk C T k X W) {E : Expr → Option (Envd → M D)} (ih : ∀ e f, E e = some f → VE T X W e f) {fn : Str} {a : Expr} {as : List Expr} {f : Envd → M D} {p : Pos} (h : compCall C E fn a as pos = some f) : VE T X W (.Call (.Name fn p) (a :: as) [] pos) f := by
  obtain ⟨h1, h2⟩ := gd_some h
  rw [Bool.and_eq_true, Bool.and_eq_true] at h1
  obtain ⟨⟨h1, hg⟩, hs⟩ := h1
  obtain ⟨n1, n2, n3⟩ := okName_ok h1
  split at h2
  · rename_i e
    subst e
    exact compIsi_ok c ih hg hs h2
  · split at h2
    · rename_i bc hb
      obtain ⟨e1, e2, e3, p', q', e4⟩ := rngArg_ok hb
      subst e1; subst e2; subst e4
      obtain ⟨g2, h2⟩ := gd_some h2
      rw [Bool.and_eq_true] at g2
      obtain ⟨hc, g2⟩ := g2
      obtain ⟨fa, fb, h3, h3', h4⟩ := o2_some h2
      cases h4
      exact ve_lrange (c.calm hc).1 (c.gl hg) (c.blt _ (by decide +kernel)) (c.gl g2) (c.blt _ (by decide +kernel)) (ih _ _ h3) (ih _ _ h3') e3
    split at h2
    · rename_i bs hb
      obtain ⟨e1, e2, e3, p', q', e', es', e4, e5⟩ := zipArg_ok hb
      subst e1; subst e2; subst e4; subst e5
      obtain ⟨g2, h2⟩ := gd_some h2
      rw [Bool.and_eq_true] at g2
      obtain ⟨hc, g2⟩ := g2
      obtain ⟨g, h3, h4⟩ := o1_some h2
      cases h4
      exact ve_lzip c.K (c.calm hc).1 (c.gl hg) (c.blt _ (by decide +kernel)) (c.gl g2) (c.blt _ (by decide +kernel)) (compEs_ok ih e3 h3) e3
    split at h2
    · rename_i b hb
      obtain ⟨e1, e2, e3, p', q', e4⟩ := setArg_ok hb
      subst e1; subst e2; subst e4
      obtain ⟨g2, h2⟩ := gd_some h2
      rw [Bool.and_eq_true] at g2
      obtain ⟨hc, g2⟩ := g2
      obtain ⟨fb, h3, h4⟩ := o1_some h2
      cases h4
      exact ve_sortSet (c.calm hc).1 (c.gl hg) (c.blt _ (by decide +kernel)) (c.gl g2) (c.blt _ (by decide +kernel)) (ih _ _ h3) e3
    · obtain ⟨hc, h2⟩ := gd_some h2
      split at h2
      · rename_i kk hk
        obtain ⟨g, h3, h4⟩ := o1_some h2
        cases h4
        have e := bkOf_ok hk
        subst e
        exact ve_bk c.K c.units (c.calm hc).1 (c.gl hg) (c.blt _ (by cases kk <;> decide +kernel)) (compEs_ok ih hs h3) hs
      · obtain ⟨sem, g, h3, h4, h5⟩ := o2_some h2
        cases h5
        have F : FnAt X T k fn sem := by
          split at h3
          · exact c.fnsM _ _ h3
          · exact c.fns _ _ h3
        exact ve_call F (c.room hc) (c.gl hg) c.pass (compEs_ok ih hs h4) n1 hs
theorem compKw_ok {E : Expr → Option (Envd → M D)} (ih : ∀ e f, E e = some f → VE T X W e f) : ∀ {ks : List Keyword} {g : Envd → M (List D)}, compKw E ks = some g → VK' T X W ks g
  | [], g, h => by cases h; exact vk_nil
  | ⟨_, e, _⟩ :: ks, g, h => by
    obtain ⟨a, b, h1, h2, h3⟩ := o2_some h
    cases h3
    exact vk_cons (ih e a h1) (compKw_ok ih h2)
theorem compCallK_ok (c : CtxOk C T k X W) {E : Expr → Option (Envd → M D)} (ih : ∀ e f, E e = some f → VE T X W e f) {fn : Str} {kw : Keyword} {ks : List Keyword} {f : Envd → M D} {p : Pos} (h : compCallK C E fn kw ks = some f) : VE T X W (.Call (.Name fn p) [] (kw :: ks) pos) f := by
  obtain ⟨h1, h2⟩ := gd_some h
  rw [Bool.and_eq_true, Bool.and_eq_true, Bool.and_eq_true] at h1
  obtain ⟨⟨⟨hc, h1⟩, hg⟩, hs⟩ := h1
  obtain ⟨n1, n2, n3⟩ := okName_ok h1
  obtain ⟨sem, g, h3, h4, h5⟩ := o2_some h2
  cases h5
  exact ve_callK0 (c.kfns _ _ _ h3) (c.room hc) (c.gl hg) c.pass (compKw_ok ih h4) n1 hs (List.cons_ne_nil _ _)
theorem CtxOk.prp (c : CtxOk C T k X W) {p : Pos} {x : Str} {q : Nat × (List D → M D)} (h : C.prp p x = some q) : ∃ j, j + 1 ≤ k ∧ PrpAt X T j x q.1 q.2 := by
  unfold CC.prp at h
  split at h
  · exact c.prpsM _ _ h
  · exact c.prps _ _ h
theorem CtxOk.mth (c : CtxOk C T k X W) {p : Pos} {x : Str} {q : Nat × (List D → M D)} (h : C.mth p x = some q) : MthAt X T k x q.1 q.2 := by
  unfold CC.mth at h
  split at h
  · exact c.mthsM _ _ h
  · exact c.mths _ _ h
theorem compAtt_ok (c : CtxOk C T k X W) {E : Expr → Option (Envd → M D)} (ih : ∀ e f, E e = some f → VE T X W e f) {o : Expr} {x : Str} {p : Pos} {f : Envd → M D} (h : compAtt C E o x p = some f) : VE T X W (.Attribute o x pos) f := by
  obtain ⟨h1, h2⟩ := gd_some h
  split at h2
  · rename_i q hq
    obtain ⟨fo, h3, h4⟩ := o1_some h2
    cases h4
    split at hq
    · rename_i hx
      obtain ⟨X0, a0, oe, cls, dx, pn, T0, rfl, rfl, hz, hf⟩ := c.hot hx
      obtain ⟨k1, k2⟩ := c.xfl _ _ hq
      exact ve_xf (X := X0) (T := T0) ⟨k2.isE, k2.xf, k2.no⟩ k1 hz hf (ih _ _ h3) h1
    · cases hq
  · split at h2
    · rename_i q hq
      obtain ⟨fo, h3, h4⟩ := o1_some h2
      cases h4
      exact ve_fld (c.flds _ _ hq) (ih _ _ h3) h1
    · obtain ⟨hc, h2⟩ := gd_some h2
      obtain ⟨q, fo, h3, h4, h5⟩ := o2_some h2
      cases h5
      obtain ⟨j, hj, F⟩ := c.prp h3
      exact ve_prp F ((c.room hc).mono hj) (ih _ _ h4) h1
theorem compCall0_ok (c : CtxOk C T k X W) {fn : Str} {f : Envd → M D} {p : Pos} (h : compCall0 C fn pos = some f) : VE T X W (.Call (.Name fn p) [] [] pos) f := by
  obtain ⟨h1, h2⟩ := gd_some h
  rw [Bool.and_eq_true, Bool.and_eq_true] at h1
  obtain ⟨⟨hc, h1a⟩, h1b⟩ := h1
  obtain ⟨n1, n2, n3⟩ := okName_ok h1a
  obtain ⟨sem, h3, h5⟩ := o1_some h2
  cases h5
  have F : FnAt X T k fn sem := by
    split at h3
    · exact c.fnsM _ _ h3
    · exact c.fns _ _ h3
  exact ve_call0 F (c.room hc) (c.gl h1b) c.pass n1
theorem compMeth0_ok (c : CtxOk C T k X W) {E : Expr → Option (Envd → M D)} (ih : ∀ e f, E e = some f → VE T X W e f) {o : Expr} {m : Str} {ap : Pos} {f : Envd → M D} (h : compMeth0 C E o m ap pos = some f) : VE T X W (.Call (.Attribute o m ap) [] [] pos) f := by
  obtain ⟨h1, h2⟩ := gd_some h
  rw [Bool.and_eq_true] at h1
  split at h2
  · rename_i e
    subst e
    obtain ⟨fo, h3, h4⟩ := o1_some h2
    cases h4
    exact ve_pop c.K (ih _ _ h3) h1.1 h1.2
  · split at h2
    · rename_i e
      subst e
      obtain ⟨fo, h3, h4⟩ := o1_some h2
      cases h4
      exact ve_bits (ih _ _ h3) h1.1 h1.2
    · obtain ⟨hc, h2⟩ := gd_some h2
      obtain ⟨q, fo, h3, h4, h5⟩ := o2_some h2
      cases h5
      exact ve_mth0 (c.mth h3) (c.room hc) c.pass (ih _ _ h4) h1.1 h1.2
theorem compMeth_ok (c : CtxOk C T k X W) {E : Expr → Option (Envd → M D)} (ih : ∀ e f, E e = some f → VE T X W e f) {o a : Expr} {as : List Expr} {m : Str} {ap : Pos} {f : Envd → M D} (h : compMeth C E o m ap a as pos = some f) :
    VE T X W (.Call (.Attribute o m ap) (a :: as) [] pos) f := by
  obtain ⟨h1, h2⟩ := gd_some h
  simp only [Bool.and_eq_true, decide_eq_true_eq] at h1
  obtain ⟨⟨⟨h1, h1'⟩, hs⟩, hl⟩ := h1
  split at h2
  · rename_i kk hk
    obtain ⟨fo, fa, h4, h5, h6⟩ := o2_some h2
    cases h6
    have e := mkOf_ok hk
    subst e
    exact ve_mk c.K c.units (ih _ _ h4) (compEs_ok ih hs h5) h1 hs hl h1'
  · obtain ⟨hc, h2⟩ := gd_some h2
    obtain ⟨q, h3, h2⟩ := o1_some h2
    obtain ⟨fo, fa, h4, h5, h6⟩ := o2_some h2
    cases h6
    exact ve_mth (c.mth h3) (c.room hc) c.pass (ih _ _ h4) (compEs_ok ih hs h5) h1 hs hl h1'
theorem plainIx_of {b : Expr} (h : noSlice b = true) : PlainIx b := by
  intro o i
  cases b <;> first | rfl | (simp only [noSlice] at h; cases h)
theorem compSub_ok (c : CtxOk C T k X W) {E : Expr → Option (Envd → M D)} (ih : ∀ e f, E e = some f → VE T X W e f) {a b : Expr} {f : Envd → M D} (h : compSub C E a b pos = some f) : VE T X W (.Subscript a b pos) f := by
  unfold compSub at h
  split at h
  · obtain ⟨fa, h1, h2⟩ := o1_some h
    obtain ⟨fl, fh, h3, h4, h5⟩ := o2_some h2
    cases h5
    exact ve_slice c.K (ih _ _ h1) (compPart_ok ih h3) (compPart_ok ih h4)
  · obtain ⟨fa, h1, h2⟩ := o1_some h
    cases h2
    exact ve_rev (ih _ _ h1)
  · obtain ⟨h0, h⟩ := gd_some h
    obtain ⟨fa, fb, h1, h2, h3⟩ := o2_some h
    cases h3
    exact ve_ix c.K (plainIx_of h0) (ih _ _ h1) (ih _ _ h2)
theorem compIfs_ok {Tb : Expr → Option (Envd → M Bool)} (ih : ∀ e f, Tb e = some f → VT T X W e f) : ∀ {ifs : List Expr} {f : Envd → M Bool}, compIfs Tb ifs = some f → VTs T X W ifs f
  | [], f, h => by cases h; exact vts_nil
  | [c], f, h => vts_one (ih c f h)
  | c :: d :: r, f, h => by cases h
theorem compLc_ok (c : CtxOk C T k X W) {I : Expr → Expr → Option (Envd → M (List D))} {Tb : Expr → Option (Envd → M Bool)} {Eb : Expr → Option (Envd → M D)} {elt tg iter : Expr} {ifs : List Expr} {scope : Scope} {mu : Bool}
    (iI : ∀ tg e f, I tg e = some f → VI T X W tg e f)
    (iT : C.calm = true → ∀ (s : Shared) (H : Hp) (D : Addr) (cl : List (Str × Addr)) (fp : List Addr) e f, Tb e = some f → VT T (X.blk s H scope (compEnvC scope cl D X.env) fp) WF e f)
    (iE : C.calm = true → ∀ (s : Shared) (H : Hp) (D : Addr) (cl : List (Str × Addr)) (fp : List Addr) e f, Eb e = some f → VE T (X.blk s H scope (compEnvC scope cl D X.env) fp) WF e f) {f : Envd → M D}
    (h : compLc C I Tb Eb elt tg iter ifs scope mu = some f) : VE T X W (.ListComp elt [⟨tg, iter, ifs, 0⟩] scope pos) f := by
  obtain ⟨h0, h⟩ := gd_some h
  rw [Bool.and_eq_true, Bool.and_eq_true] at h0
  obtain ⟨hc, h0⟩ := h0
  obtain ⟨it, t, h1, h2, h3⟩ := o2_some h
  obtain ⟨h4, h5⟩ := gd_some h3
  obtain ⟨ft, fe, h6, h7, h8⟩ := o2_some h5
  cases h8
  refine ve_comp (c.calm hc).1 c.nodup (iI _ _ _ h1) ?_ (fun s H D cl fp => compTg_ok (c.blk hc scope s H D cl fp) h2) (fun s H D cl fp => compIfs_ok (iT hc s H D cl fp) h6) (fun s H D cl fp => iE hc s H D cl fp _ _ h7) (nofold h0.1) (fun i hi => ?_)
  · rw [c.N, c.sc]; exact blkOk_by h0.2
  · have := List.all_eq_true.mp h4 i hi
    simpa using this
theorem isTupE_ok {e : Expr} (h : isTupE e = true) : ∃ es k p, e = .Tuple es k p := by
  cases e <;> first | exact ⟨_, _, _, rfl⟩ | (simp only [isTupE] at h; cases h)
theorem plainT_ok {e : Expr} {env : Env} (h : plainT e = true) : ∀ whole, isTrue e env whole = (do let v ← whole; standAt e.pos; holding [v] (truthy v)) := by
  cases e <;> first | (intro w; rfl) | (simp only [plainT] at h; cases h)
end

theorem comp_ok : ∀ (n : Nat) {C : CC} {T : Kit} {k : Nat} {X : Cx} {W : WX}, CtxOk C T k X W →
    (∀ e f, compE C n e = some f → VE T X W e f) ∧ (∀ e f, compT C n e = some f → VT T X W e f) ∧ (∀ tg e f, compI C n tg e = some f → VI T X W tg e f)
  | 0, C, T, k, X, W, c => ⟨fun e f h => (by unfold compE at h; cases h), fun e f h => (by unfold compT at h; cases h), fun tg e f h => (by unfold compI at h; cases h)⟩
  | n + 1, C, T, k, X, W, c => by
    obtain ⟨iE, iT, iI⟩ := comp_ok n c
    have hE : ∀ e f, compE C (n + 1) e = some f → VE T X W e f := fun e f h => by
      unfold compE at h
      split at h
      · cases h; exact ve_int
      · cases h; exact ve_bl
      · cases h; exact ve_non
      · cases h; exact ve_str
      · exact compName_ok c h
      · obtain ⟨fa, fb, h1, h2, h3⟩ := o2_some h
        exact compBin_ok (iE _ _ h1) (iE _ _ h2) h3
      · obtain ⟨fa, h1, h2⟩ := o1_some h
        cases h2
        exact ve_neg (iE _ _ h1)
      · obtain ⟨fa, h1, h2⟩ := o1_some h
        cases h2
        exact ve_not (iE _ _ h1)
      · obtain ⟨fs, h1, h2⟩ := o1_some h
        exact foldV_ok (forall2_imp (fun a b h => iE a b h) (allSome_ok h1)) h2
      · obtain ⟨fc, h1, h2⟩ := o1_some h
        obtain ⟨fa, fb, h3, h4, h5⟩ := o2_some h2
        cases h5
        exact ve_if (iT _ _ h1) (iE _ _ h3) (iE _ _ h4)
      · rename_i a op b p
        obtain ⟨h0, h⟩ := gd_some h
        obtain ⟨fa, fb, h1, h2, h3⟩ := o2_some h
        cases h3
        obtain ⟨r, k1, k2⟩ := cmpC_ok c op
        exact ve_cmp k1 (nobeh h0) k2 (iE _ _ h1) (iE _ _ h2)
      · rename_i a op op' b c' p
        obtain ⟨h0, h⟩ := gd_some h
        obtain ⟨fa, h1, h⟩ := o1_some h
        obtain ⟨fb, fc, h2, h3, h4⟩ := o2_some h
        cases h4
        obtain ⟨r, k1, k2⟩ := cmp_ok c op
        obtain ⟨r', k3, k4⟩ := cmp_ok c op'
        exact ve_chain k1 k3 k2 k4 (nobeh h0) (iE _ _ h1) (iE _ _ h2) (iE _ _ h3)
      · obtain ⟨g, h1, h2⟩ := o1_some h
        cases h2
        exact ve_lst (compEsS_ok c iE h1)
      · obtain ⟨g, h1, h2⟩ := o1_some h
        cases h2
        exact ve_tup (compEsS_ok c iE h1)
      · cases h; exact ve_dict0
      · exact compSub_ok c iE h
      · exact compAtt_ok c iE h
      · exact compCall0_ok c h
      · exact compCall_ok c iE h
      · exact compCallK_ok c iE h
      · exact compMeth0_ok c iE h
      · exact compMeth_ok c iE h
      · rename_i elt tg iter ifs scope p
        exact compLc_ok c iI (fun hc s H D cl fp => (comp_ok n (c.blk hc scope s H D cl fp)).2.1) (fun hc s H D cl fp => (comp_ok n (c.blk hc scope s H D cl fp)).1) h
      · cases h
    refine ⟨hE, fun e f h => ?_, fun tg e f h => ?_⟩
    · unfold compT at h
      split at h
      · obtain ⟨fa, h1, h2⟩ := o1_some h
        cases h2
        exact vt_not (iT _ _ h1)
      · obtain ⟨fs, h1, h2⟩ := o1_some h
        exact PW.pt (foldT_ok (forall2_imp (fun a b h => iT a b h) (allSome_ok h1)) h2)
      · rename_i a op b p
        obtain ⟨h0, h⟩ := gd_some h
        obtain ⟨fa, fb, h1, h2, h3⟩ := o2_some h
        cases h3
        obtain ⟨r, k1, k2⟩ := cmpC_ok c op
        exact vt_cmp k1 (nobeh h0) k2 (iE _ _ h1) (iE _ _ h2)
      · rename_i a op op' b c' p
        obtain ⟨h0, h⟩ := gd_some h
        obtain ⟨fa, h1, h⟩ := o1_some h
        obtain ⟨fb, fc, h2, h3, h4⟩ := o2_some h
        cases h4
        obtain ⟨r, k1, k2⟩ := cmp_ok c op
        obtain ⟨r', k3, k4⟩ := cmp_ok c op'
        exact vt_chain k1 k3 k2 k4 (nobeh h0) (iE _ _ h1) (iE _ _ h2) (iE _ _ h3)
      · obtain ⟨h0, h⟩ := gd_some h
        obtain ⟨fa, h1, h2⟩ := o1_some h
        cases h2
        exact vt_val (iE _ _ h1) (plainT_ok h0)
    · unfold compI at h
      split at h
      · rename_i fn p' a as p
        split at h
        · rename_i e
          subst e
          obtain ⟨h0, h⟩ := gd_some h
          rw [Bool.and_eq_true] at h0
          obtain ⟨g, h1, h2⟩ := o1_some h
          have hv := compEs_ok iE h0.2 h1
          split at h2
          · cases h2; exact vi_range1 (c.gl h0.1) (c.blt _ (by decide +kernel)) hv h0.2
          · cases h2; exact vi_range2 (c.gl h0.1) (c.blt _ (by decide +kernel)) hv h0.2
          · cases h2; exact vi_range3 (c.gl h0.1) (c.blt _ (by decide +kernel)) hv h0.2
          · cases h2
        · split at h
          · rename_i e
            subst e
            split at h
            · obtain ⟨h0, h⟩ := gd_some h
              obtain ⟨fe, h1, h2⟩ := o1_some h
              cases h2
              exact vi_zipS c.K (c.gl h0) (c.blt _ (by decide +kernel)) (iE _ _ h1)
            · obtain ⟨h0, h⟩ := gd_some h
              rw [Bool.and_eq_true] at h0
              obtain ⟨g, h1, h2⟩ := o1_some h
              have hv := compEs_ok iE h0.2 h1
              split at h2
              · rename_i hl
                cases h2
                obtain ⟨hl, ht⟩ := hl
                obtain ⟨elts, kk, tp, rfl⟩ := isTupE_ok ht
                cases as with
                | nil => simp at hl
                | cons b r =>
                  cases r with
                  | nil => exact vi_zip c.K (c.gl h0.1) (c.blt _ (by decide +kernel)) hv h0.2
                  | cons b2 r => simp at hl
              · cases h2
                exact vi_zipN c.K (c.gl h0.1) (c.blt _ (by decide +kernel)) hv h0.2
          · split at h
            · rename_i e
              subst e
              obtain ⟨h0, h⟩ := gd_some h
              rw [Bool.and_eq_true, Bool.and_eq_true] at h0
              obtain ⟨g, h1, h2⟩ := o1_some h
              have hv := compEs_ok iE h0.1.2 h1
              split at h2
              · cases h2
                obtain ⟨elts, kk, tp, rfl⟩ := isTupE_ok h0.2
                exact vi_enum (c.gl h0.1.1) (c.blt _ (by decide +kernel)) hv h0.1.2
              · cases h2
            · obtain ⟨g, h1, h2⟩ := o1_some h
              cases h2
              exact vi_seq c.K (iE _ _ h1)
      · obtain ⟨g, h1, h2⟩ := o1_some h
        cases h2
        exact vi_seq c.K (iE _ _ h1)
end Ev

set_option Elab.async false
set_option linter.all false
set_option maxRecDepth 100000
set_option maxHeartbeats 4000000
/-! EvL: the statements' compiler, and that it is right. -/
namespace Ev
open PySem PySem.Spec PyProof.Rows L2

/-! ### what a store does with what stands before it -/
def bkS (sc : Scope) : ScopeKind := if sc.kind.isAnnotationScope then ScopeKind.function else sc.kind
def swN (sc : Scope) (ts : List Expr) : List Str := ts.filterMap fun
  | .Name id pos => if sc.names.lookup id == some .local && pos.line == (ts.head?.map (·.pos.line)).getD 0 then some id else none
  | _ => none
def swC (sc : Scope) (ts vs : List Expr) : Option (Option (List Str)) :=
  if (!(ts.length == 2 || ts.length == 3) || vs.length != ts.length || bkS sc != .function) = true then some none
  else if (vs.any fun | .Starred .. => true | _ => false) = true then some none
  else if ((swN sc ts).length != ts.length || (swN sc ts).eraseDups.length != (swN sc ts).length) = true then some none
  else if vs.all (foldedForSure 8) = true then some none
  else if vs.all (constantsAlone 8) = true then none
  else some (some (swN sc ts))
theorem swC_ok {sc : Scope} {env : Env} {ts vs : List Expr} {k1 k2 : Nat} {p1 p2 : Pos} {r : Option (List Str)} (hs : env.scope = sc) (h : swC sc ts vs = some r) : swappedStores [.Tuple ts k1 p1] (.Tuple vs k2 p2) env = pure r := by
  subst hs
  have e : swappedStores [.Tuple ts k1 p1] (.Tuple vs k2 p2) env = (
    if (!(ts.length == 2 || ts.length == 3) || vs.length != ts.length || bkS env.scope != .function) = true then pure none
    else if (vs.any fun | .Starred .. => true | _ => false) = true then pure none
    else if ((swN env.scope ts).length != ts.length || (swN env.scope ts).eraseDups.length != (swN env.scope ts).length) = true then pure none
    else if vs.all (foldedForSure 8) = true then pure none
    else if vs.all (constantsAlone 8) = true then (do unsupported "assign.tuple-of-constant-expressions:order-of-the-stores"; pure (some (swN env.scope ts)))
    else pure (some (swN env.scope ts))) := rfl
  rw [e]
  unfold swC at h
  split at h
  · rename_i c; cases h; rw [if_pos c]
  · rename_i c
    rw [if_neg c]
    split at h
    · rename_i c; cases h; rw [if_pos c]
    · rename_i c
      rw [if_neg c]
      split at h
      · rename_i c; cases h; rw [if_pos c]
      · rename_i c
        rw [if_neg c]
        split at h
        · rename_i c; cases h; rw [if_pos c]
        · rename_i c
          rw [if_neg c]
          split at h
          · cases h
          · rename_i c; cases h; rw [if_neg c]
def swQ (sc : Scope) : List Expr → Expr → Option (Option (List Str))
  | [.Tuple ts _ _], .Tuple vs _ _ => swC sc ts vs
  | _, _ => none
theorem swQ_ok {sc : Scope} {env : Env} {targets : List Expr} {value : Expr} {r : Option (List Str)} (hs : env.scope = sc) (h : swQ sc targets value = some r) : swappedStores targets value env = pure r := by
  unfold swQ at h
  split at h
  · exact swC_ok hs h
  · cases h
theorem sw_name {y : Str} {py : Pos} {v : Expr} {env : Env} : swappedStores [.Name y py] v env = pure none := by cases v <;> rfl
theorem sw_sub {a b : Expr} {py : Pos} {v : Expr} {env : Env} : swappedStores [.Subscript a b py] v env = pure none := by cases v <;> rfl
theorem sw_tup {ts : List Expr} {kt : Nat} {pt : Pos} {v : Expr} {env : Env} (h : isTupE v = false) : swappedStores [.Tuple ts kt pt] v env = pure none := by
  cases v <;> first | rfl | (exact absurd h (by simp [isTupE]))
/-- an own comprehension goes into a name without a step between -/
def swB (sc : Scope) (y : Str) (py : Pos) (value : Expr) : Bool := match value with
  | .ListComp _ _ s p => ((if sc.kind.isAnnotationScope then ScopeKind.function else sc.kind) == .function && sc.names.lookup y == some .local && py.line == p.line) && !(s.names.any fun (n, k) => n == y && (k == .local || k == .cell))
  | _ => false
theorem swB_ok {sc : Scope} {env : Env} {y : Str} {py p : Pos} {el : Expr} {gs : List Comprehension} {s : Scope} {line : Nat} {b : Bool} (hs : env.scope = sc) (h : swB sc y py (.ListComp el gs s p) = b) : swapsWith (.ListComp el gs s p) (some (.Name y py)) line env = pure b := by
  subst hs
  unfold swB at h
  subst h
  rfl
theorem noSw {value : Expr} {t : Option Expr} {line : Nat} {env : Env} (h : isComp value = false) : swapsWith value t line env = pure false := by
  cases value <;> first | rfl | (exact absurd h (by simp [isComp]))
theorem noSw1 {value t : Expr} {line : Nat} {env : Env} (h : isComp value = false) : swapsWithSole [t] value line env = pure false := noSw h

/-! ### statements -/
def sRaise (c : Nat) : MS := fun env S => .exc c [] env S
def isLc : Expr → Bool
  | .ListComp _ [⟨_, _, _, 0⟩] _ _ => true
  | _ => false
def tgNames (C : CC) (es : List Expr) : Option (List Nat) := allSome (es.map fun e => match e with
      | .Name x _ => gd (stOk C x) (slotOf x C.N)
      | _ => none)
def compAsg (C : CC) (n : Nat) (tg v : Expr) (p : Pos) : Option MS := match tg with
  | .Name y py => match v with
    | .ListComp elt [⟨tg', iter, ifs, 0⟩] scope pc =>
      if swB C.sc y py v = true then gd (isLocal C.sc y) (o1 (slotOf y C.N) fun i => o1 (compLc C (compI C n) (compT (C.blk scope) n) (compE (C.blk scope) n) elt tg' iter ifs scope (C.mu pc)) fun f => some (sAsg (.nm i) f))
      else o2 (compTg C tg) (compE C n v) fun t f => some (sAsg t f)
    | v => gd (!isComp v) (o2 (compTg C tg) (compE C n v) fun t f => some (sAsg t f))
  | .Tuple es _ _ => match v with
    | .Tuple vs k2 p2 => gd (C.calm && noStar vs) (o1 (compEs (compE C n) vs) fun f => match swQ C.sc [tg] v with
      | some none => o1 (tgNames C es) fun is => gd (decide (is.length ≤ sizeLine)) (some (sTup is f))
      | some (some _) => match es, vs with
        | [.Name x _, .Name y _], [_, _] => o2 (slotOf x C.N) (slotOf y C.N) fun i j => gd (isLocal C.sc x && isLocal C.sc y && decide (i ≠ j) && decide (swQ C.sc [tg] v = some (some [x, y]))) (some (sTup [i, j] f))
        | [.Name x _, .Name y _, .Name z _], [_, _, _] => o2 (slotOf x C.N) (slotOf y C.N) fun i j => o1 (slotOf z C.N) fun l => gd (isLocal C.sc x && isLocal C.sc y && isLocal C.sc z && decide (i ≠ j) && decide (i ≠ l) && decide (j ≠ l) && decide (swQ C.sc [tg] v = some (some [x, y, z]))) (some (sTup [i, j, l] f))
        | _, _ => none
      | none => none)
    | v => gd (!isComp v && !isTupE v) (o2 (compTg C tg) (compE C n v) fun t f => some (sAsg t f))
  | .Subscript o i _ => gd (noSlice i && !isComp v && !isTupE tg) (o1 (compE C n o) fun fo => o2 (compE C n i) (compE C n v) fun fi fe => some (sSet fo fi fe))
  | .Attribute o x _ => gd (!isComp v) (o1 (C.flds.lookup x) fun q => o2 (compE C n o) (compE C n v) fun fo fe => some (sPut q.1 q.2 fo fe))
  | _ => none
/-! ### try -/
/-- the first clause that takes class c -/
def pickH : List (Nat × MS) → Nat → Option MS
  | [], _ => none
  | (ch, f) :: r, c => if subX c ch = true then some f else pickH r c
def noX : RS → RS
  | .exc _ _ _ _ => .stuck
  | r => r
def sTryM (xcs : List Nat) (hs : List (Nat × MS)) (fb : MS) : MS := fun env S => match fb env S with
  | .exc c ds env1 S1 => if c ∈ xcs then match pickH hs c with
      | some f => noX (f env1 S1)
      | none => .exc c ds env1 S1
    else .stuck
  | r => r
def endX (i : Nat) : RS → RS
  | .nx env S => if nxE (env.set i none) && nxS S then .nx (env.set i none) S else .stuck
  | .bk env S => if nxE (env.set i none) && nxS S then .bk (env.set i none) S else .stuck
  | .ct env S => if nxE (env.set i none) && nxS S then .ct (env.set i none) S else .stuck
  | .rt d S => if nxD d && nxS S then .rt d S else .stuck
  | _ => .stuck
def sTryAs (xcs : List Nat) (ch i : Nat) (fb fs : MS) : MS := fun env S => match fb env S with
  | .exc c ds env1 S1 => if c ∈ xcs then (if subX c ch = true then endX i (fs (env1.set i (some (.exn c ds))) S1) else .exc c ds env1 S1) else .stuck
  | r => r
def compHs (C : CC) (F : List Stmt → Option MS) : List ExceptHandler → Option (List (Nat × MS))
  | [] => some []
  | .ExceptHandler (some (.Name x _)) none (b :: suite) _ :: r => gd (isGl C.sc x) (o1 (C.hds.lookup x) fun ch => o2 (F (b :: suite)) (compHs C F r) fun f hs => some ((ch, f) :: hs))
  | _ => none
/-- one clause that names what it takes -/
def asH : List ExceptHandler → Option (Str × Str × List Stmt)
  | [.ExceptHandler (some (.Name x _)) (some n) (b :: suite) _] => some (x, n, b :: suite)
  | _ => none
theorem asH_ok {hs : List ExceptHandler} {q : Str × Str × List Stmt} (h : asH hs = some q) : ∃ np b suite hp, hs = [.ExceptHandler (some (.Name q.1 np)) (some q.2.1) (b :: suite) hp] ∧ q.2.2 = b :: suite := by
  unfold asH at h
  split at h
  · cases h; exact ⟨_, _, _, _, rfl, rfl⟩
  · cases h
mutual
def compS : CC → Nat → Nat → Stmt → Option MS
  | _, _, 0, _ => none
  | C, m, n + 1, s => match s with
    | .Pass _ => some sPass
    | .Break _ => some sBreak
    | .Continue _ => some sCont
    | .Expr e _ => gd (!isComp e) (o1 (compE C m e) fun f => some (sExpr f))
    | .Return none _ => some sRetN
    | .Return (some e) _ => o1 (compE C m e) fun f => some (sRet f)
    | .If c p q _ => o1 (compT C m c) fun fc => o2 (compSs C m n p) (compSs C m n q) fun f g => some (sIfS fc f g)
    | .Assign [tg] v p => compAsg C m tg v p
    | .For tg it body [] p => gd (C.calm && !isSet it) (o1 (compTg C tg) fun t => o2 (compI C m tg it) (compSs C m n body) fun fi fb => some (sFor t (C.kill p) fi fb))
    | .While c body [] p => o2 (compT C m c) (compSs C m n body) fun fc fb => some (whileL (C.kill p) fc fb C.fuel)
    | .Raise (some (.Call (.Name x _) (a :: as) [] _)) none _ => gd (C.calm && isGl C.sc x) (match C.excF.lookup x with
      | some q => gd (noStar (a :: as)) (o1 (compEs (compE C m) (a :: as)) fun fa => some (sRaiseF q.1 q.2 fa))
      | none => match a, as with
        | .Constant (.str _) _ _, [] => o1 (C.excs.lookup x) fun c => some (sRaise c)
        | _, _ => none)
    | .Try body (h :: hs) [] [] _ => gd C.calm (match asH (h :: hs) with
      | some q => gd (isGl C.sc q.1 && isLocal C.sc q.2.1) (o2 (C.hds.lookup q.1) (slotOf q.2.1 C.N) fun ch i => o2 (compSs C m n body) (compSs (C.hot true) m n q.2.2) fun fb fs => some (sTryAs C.xcs ch i fb fs))
      | none => o2 (compSs C m n body) (compHs C (compSs (C.hot false) m n) (h :: hs)) fun fb hs => some (sTryM C.xcs hs fb))
    | _ => none
def compSs : CC → Nat → Nat → List Stmt → Option MS
  | _, _, 0, _ => none
  | C, m, n + 1, ss => match ss with
    | [] => some sPass
    | [s] => compS C m n s
    | s :: r => o2 (compS C m n s) (compSs C m n r) fun f g => some (sSeq f g)
end
/-- an exception's class under its name -/
structure ExcC (K : PySem.W.Frag) (mg : Str → Option Value) (T : Kit) (x : Str) (c : Nat) : Prop where
  g : mg x = some (.ref (T.cl c))
  ex : PySem.W.excIn K (T.cl c) He.veBase "ValueError.__new__" = true
  kp : PySem.W.keepIn K (.ref (T.cl c)) = true
  sub : PySem.W.subIn K (.ref (T.cl c)) (.type "BaseException") = some true
  ty : PySem.W.typeIn K (.ref (T.cl c)) = some (.type "type")
  db : (x == ("__debug__" : Str)) = false
structure StOk (C : CC) (T : Kit) (k : Nat) (X : Cx) (W : WX) : Prop where
  cx : CtxOk C T k X W
  own : PassesOwn (model X.prog X.w) X.A X.env X.xe
  tk : C.calm = true → Takes X W
  stk : C.calm = true → X.stack = X.env :: X.outer
  frm : X.env.frame = some X.env.locals
  excs : ∀ x c, C.excs.lookup x = some c → ExcC X.K X.mg T x c
  excF : ∀ x q, C.excF.lookup x = some q → XMade X.prog X.w X.K X.mg X.base T k x q.1 q.2
section
variable {C : CC} {T : Kit} {k : Nat} {X : Cx} {W : WX} {pos : Pos}
theorem raise_of {c : Nat} {e : Expr} (hc : X.calm = true) (tk : Takes X W) (h : PMk X e (fun _ H Q => Q (.ref (T.cl c)) none H)) : PS X (.Raise (some e) none pos) (tS T W (sRaise c)) := by
  refine (ps_raise hc tk h).imp fun D' σ H ⟨G, S, env, hE, hH, p⟩ => ?_
  exact p G H σ _ _ .refl hH hE ⟨rfl, .inl ⟨rfl, rfl⟩⟩
theorem assignEach_one {tg : Expr} {env : Env} (h : ∀ t p, tg ≠ .Starred t p) : (assignEach [tg] env).map (·.2) = [assign tg env] := by
  cases tg <;> first | rfl | exact absurd rfl (h _ _)
theorem compAsg_ok (c : CtxOk C T k X W) {n : Nat} {tg v : Expr} {f : MS} (h : compAsg C n tg v pos = some f) : VS T X W (.Assign [tg] v pos) f := by
  obtain ⟨iE, iT, iI⟩ := comp_ok n c
  unfold compAsg at h
  split at h
  · rename_i y py
    split at h
    · rename_i elt tg' iter ifs scope pc
      split at h
      · rename_i hsw
        obtain ⟨hl, h⟩ := gd_some h
        obtain ⟨i, hi, h⟩ := o1_some h
        obtain ⟨f0, hf, h⟩ := o1_some h
        cases h
        obtain ⟨h0, h⟩ := gd_some hf
        rw [Bool.and_eq_true, Bool.and_eq_true] at h0
        obtain ⟨hc, h0⟩ := h0
        obtain ⟨it, t, h1, h2, h3⟩ := o2_some h
        obtain ⟨h4, h5⟩ := gd_some h3
        obtain ⟨ft, fe, h6, h7, h8⟩ := o2_some h5
        cases h8
        refine vs_asgLc (c.calm hc).1 c.nodup (by rw [c.N]; exact slotOf_ok hi) (by rw [c.sc]; exact isLocal_ok hl) (swB_ok c.sc hsw) (iI _ _ _ h1) (by rw [c.N, c.sc]; exact blkOk_by h0.2) (fun s H D cl fp => compTg_ok (c.blk hc scope s H D cl fp) h2)
          (fun s H D cl fp => compIfs_ok (comp_ok n (c.blk hc scope s H D cl fp)).2.1 h6) (fun s H D cl fp => (comp_ok n (c.blk hc scope s H D cl fp)).1 _ _ h7) (nofold h0.1) (fun i hi => ?_)
        have := List.all_eq_true.mp h4 i hi
        simpa using this
      · rename_i hsw
        obtain ⟨t, f0, h1, h2, h3⟩ := o2_some h
        cases h3
        exact vs_asg (iE _ _ h2) (compTg_ok c h1) (swB_ok (line := pos.line) c.sc (Bool.eq_false_iff.mpr hsw)) sw_name rfl
    · obtain ⟨h0, h⟩ := gd_some h
      obtain ⟨t, f0, h1, h2, h3⟩ := o2_some h
      cases h3
      exact vs_asg (iE _ _ h2) (compTg_ok c h1) (noSw1 (by simpa using h0)) sw_name rfl
  · rename_i es kt pt
    split at h
    · rename_i vs k2 p2
      obtain ⟨hs, h⟩ := gd_some h
      rw [Bool.and_eq_true] at hs
      obtain ⟨hc, hs⟩ := hs
      obtain ⟨g, h1, h⟩ := o1_some h
      have hv := compEs_ok iE hs h1
      split at h
      · rename_i hq
        obtain ⟨is, h2, h⟩ := o1_some h
        obtain ⟨h3, h4⟩ := gd_some h
        cases h4
        exact vs_tup c.K (c.calm hc).1 c.nodup (tgNames_ok c (allSome_ok h2)) hv (swQ_ok c.sc hq) (of_decide_eq_true h3)
      · split at h
        · rename_i x px y pyy a b
          obtain ⟨i, j, h2, h3, h4⟩ := o2_some h
          obtain ⟨h5, h6⟩ := gd_some h4
          cases h6
          simp only [Bool.and_eq_true, decide_eq_true_eq] at h5
          obtain ⟨⟨⟨l1, l2⟩, l3⟩, l4⟩ := h5
          exact vs_par2 (c.calm hc).1 c.nodup (by rw [c.N]; exact slotOf_ok h2) (by rw [c.N]; exact slotOf_ok h3) l3 (by rw [c.sc]; exact isLocal_ok l1) (by rw [c.sc]; exact isLocal_ok l2) hv (swQ_ok c.sc l4)
        · rename_i x px y pyy z pz a b cc
          obtain ⟨i, j, h2, h3, h4⟩ := o2_some h
          obtain ⟨l, h7, h4⟩ := o1_some h4
          obtain ⟨h5, h6⟩ := gd_some h4
          cases h6
          simp only [Bool.and_eq_true, decide_eq_true_eq] at h5
          obtain ⟨⟨⟨⟨⟨⟨l1, l2⟩, l3⟩, l4⟩, l5⟩, l6⟩, l7⟩ := h5
          exact vs_par3 (c.calm hc).1 c.nodup (by rw [c.N]; exact slotOf_ok h2) (by rw [c.N]; exact slotOf_ok h3) (by rw [c.N]; exact slotOf_ok h7) l4 l5 l6 (by rw [c.sc]; exact isLocal_ok l1) (by rw [c.sc]; exact isLocal_ok l2) (by rw [c.sc]; exact isLocal_ok l3) hv (swQ_ok c.sc l7)
        · cases h
      · cases h
    · obtain ⟨h0, h⟩ := gd_some h
      rw [Bool.and_eq_true] at h0
      obtain ⟨t, f0, h1, h2, h3⟩ := o2_some h
      cases h3
      exact vs_asg (iE _ _ h2) (compTg_ok c h1) (noSw1 (by simpa using h0.1)) (sw_tup (by simpa using h0.2)) rfl
  · rename_i o i p'
    obtain ⟨h0, h⟩ := gd_some h
    simp only [Bool.and_eq_true] at h0
    obtain ⟨fo, h1, h⟩ := o1_some h
    obtain ⟨fi, fe, h2, h3, h4⟩ := o2_some h
    cases h4
    exact vs_set h0.1.1 (iE _ _ h1) (iE _ _ h2) (iE _ _ h3) (noSw1 (by simpa using h0.1.2)) sw_sub rfl
  · obtain ⟨h0, h⟩ := gd_some h
    obtain ⟨q, h1, h⟩ := o1_some h
    obtain ⟨fo, fe, h2, h3, h4⟩ := o2_some h
    cases h4
    exact vs_put (c.flds _ _ h1) (iE _ _ h2) (iE _ _ h3) (noSw (by simpa using h0))
  · cases h
theorem StOk.tr (c : StOk C T k X W) (hc : C.calm = true) {W' : WX} {pn : List (Addr × Obj)} {xe : Value → Shared → Prop} (tk : Takes (X.tr pn xe) W') (ow : PassesOwn (model X.prog X.w) X.A X.env xe) : StOk C T k (X.tr pn xe) W' := by
  have cx := c.cx
  refine ⟨⟨cx.N, cx.sc, cx.cell, cx.K, cx.room, cx.un, cx.calm, fun h => ?_, cx.xc, cx.xk, cx.xfl, fun x f h => ⟨(cx.eqs x f h).1, (cx.eqs x f h).2.elim fun j z => ⟨j, z.1, z.2.eq, z.2.ne, z.2.ob⟩⟩, cx.iss, cx.iso, fun σ => passAt tk σ, cx.nd, fun x f h => ⟨(cx.fns x f h).ex⟩, fun x f h => ⟨(cx.fnsM x f h).ex⟩, fun x ks f h => ⟨(cx.kfns x ks f h).ex⟩, cx.cons, cx.flds, fun x q h => ?_, fun x q h => ?_, fun x q h => ⟨(cx.mths x q h).cls, (cx.mths x q h).ix, (cx.mths x q h).ex⟩, fun x q h => ⟨(cx.mthsM x q h).cls, (cx.mthsM x q h).ix, (cx.mthsM x q h).ex⟩, cx.blt⟩,
    ow, fun _ => tk, c.stk, c.frm, c.excs, c.excF⟩
  · obtain ⟨X0, a, oe, cls, dx, pn0, T0, e1, e2, _⟩ := cx.hot h
    have := (cx.calm hc).2
    rw [e2] at this
    cases this
  · obtain ⟨j, hj, z⟩ := cx.prps x q h
    exact ⟨j, hj, z.cls, z.ex⟩
  · obtain ⟨j, hj, z⟩ := cx.prpsM x q h
    exact ⟨j, hj, z.cls, z.ex⟩
theorem lk_none {α β : Type} [BEq α] {p : Prop} {x : α} {b : β} (h : ([] : List (α × β)).lookup x = some b) : p := by cases h
/-- the suite of a clause without a name -/
theorem StOk.suite0 (c : StOk C T k X W) (a : Addr) (pn : List (Addr × Obj)) : StOk (C.hot false) T k (X.suite a pn) WF := by
  have cx := c.cx
  refine ⟨⟨cx.N, cx.sc, cx.cell, cx.K, fun h => Bool.noConfusion h, cx.un, fun h => Bool.noConfusion h, fun h => Bool.noConfusion h, cx.xc, cx.xk, cx.xfl, fun _ _ h => lk_none h, cx.iss, cx.iso, fun σ pins H s e s' I z => ?_, cx.nd, fun _ _ h => lk_none h, fun _ _ h => lk_none h, fun _ _ _ h => lk_none h, cx.cons, cx.flds, fun _ _ h => lk_none h, fun _ _ h => lk_none h, fun _ _ h => lk_none h, fun _ _ h => lk_none h, cx.blt⟩,
    PassesOwn.never, fun h => Bool.noConfusion h, fun h => Bool.noConfusion h, c.frm, fun _ _ h => lk_none h, fun _ _ h => lk_none h⟩
  obtain ⟨_, _, _, _, _, _, _, _, _, _, _, _, w⟩ := z
  exact w.elim
theorem ois_at {K : PySem.W.Frag} {a : Addr} {cls : Value} {dx : Option Addr} {c : Nat} (O : OisAt K T c) : OisAt K (T.at a cls dx) c := ⟨O.cls, O.ha, O.hn, O.ht, O.hm, O.tk⟩
/-- .. of a clause that names its exception -/
theorem StOk.suite1 (c : StOk C T k X W) (hc : C.calm = true) {a : Addr} {oe : Obj} {cls : Value} {dx : Option Addr} (pn : List (Addr × Obj)) (hz : Zc cls dx oe) (hf : ∃ vs, oe.data = .fields vs) : StOk (C.hot true) (T.at a cls dx) k (X.suite a ((a, oe) :: pn)) WF := by
  have cx := c.cx
  have h0 := (cx.calm hc).2
  refine ⟨⟨cx.N, cx.sc, cx.cell, cx.K, fun h => Bool.noConfusion h, cx.un, fun h => Bool.noConfusion h, fun h => ⟨X, a, oe, cls, dx, pn, T, rfl, rfl, hz, hf⟩, fun z hz => ⟨(cx.xc z hz).isE, (cx.xc z hz).xf, (cx.xc z hz).no⟩, cx.xk, fun x q h => ⟨(cx.xfl x q h).1, (cx.xfl x q h).2.isE, (cx.xfl x q h).2.xf, (cx.xfl x q h).2.no⟩, fun _ _ h => lk_none h, fun x c h => ⟨(cx.iss x c h).1, (cx.iss x c h).2.1, ois_at (cx.iss x c h).2.2⟩, fun c h => ois_at (cx.iso c h), fun σ pins H s e s' I z => ?_, cx.nd, fun _ _ h => lk_none h, fun _ _ h => lk_none h, fun _ _ _ h => lk_none h, fun x d h => ?_, fun x q h => ⟨(cx.flds x q h).cls, (cx.flds x q h).no, (cx.flds x q h).ix⟩, fun _ _ h => lk_none h, fun _ _ h => lk_none h, fun _ _ h => lk_none h, fun _ _ h => lk_none h, cx.blt⟩,
    PassesOwn.never, fun h => Bool.noConfusion h, fun h => Bool.noConfusion h, c.frm, fun _ _ h => lk_none h, fun _ _ h => lk_none h⟩
  · obtain ⟨_, _, _, _, _, _, _, _, _, _, _, _, w⟩ := z
    exact w.elim
  · obtain ⟨u, v, h1, h2, h3⟩ := cx.cons x d h
    exact ⟨u, v, h1, h2, fun G => rep_x h0 (h3 G)⟩
theorem vs_tryAs (c : StOk C T k X W) (hc : C.calm = true) {x n : Str} {ch i : Nat} {body suite : List Stmt} {b : Stmt} {np hp : Pos} {fb fs : MS} (gx : isGl C.sc x = true) (hch : C.hds.lookup x = some ch) (hi : slotOf n C.N = some i) (hn : isLocal C.sc n = true)
    (hb : ∀ {X : Cx} {W : WX}, StOk C T k X W → VSs T X W body fb) (hs : ∀ {T : Kit} {X : Cx} {W : WX}, StOk (C.hot true) T k X W → VSs T X W (b :: suite) fs) :
    VS T X W (.Try body [.ExceptHandler (some (.Name x np)) (some n) (b :: suite) hp] [] [] pos) (sTryAs C.xcs ch i fb fs) := by
  have cx := c.cx
  obtain ⟨k1, k2, k3⟩ := cx.xk _ _ hch
  have h0 := (cx.calm hc).2
  refine (ps_try_as (i := i) (c := .ref (T.cl ch)) (tb := fun W => tS T W fb) (ts := fun a cls d => tS (T.at a cls d) WF fs) (c.stk hc) c.frm cx.nodup (by rw [cx.N]; exact slotOf_ok hi) (by show X.env.scope.names.lookup n = _; rw [cx.sc]; exact isLocal_ok hn) ⟨cx.gl gx, k2, .inl k1⟩ (c.tk hc)
    (fun W pn xe tk ow => hb (c.tr hc tk ow)) (fun a oe cls d pn hz hf => hs (c.suite1 hc pn hz hf))).imp fun D' σ H ⟨G, S, env, hE, hH, p⟩ => ?_
  refine ⟨G, S, env, hE, hH, ?_⟩
  unfold sTryAs at p
  cases e : fb env S with
  | nx env' S' => rw [e] at p; exact p
  | rt d S' => rw [e] at p; exact p
  | bk env' S' => rw [e] at p; exact p
  | ct env' S' => rw [e] at p; exact p
  | stuck => rw [e] at p; exact p
  | exc cc ds env1 S1 =>
    rw [e] at p
    dsimp only at p
    split at p
    · rename_i hcc
      intro G1 H1 σ1 cls dx st1 hd1 hE1 xr
      obtain ⟨x1, x2⟩ := xr
      refine ⟨subX cc ch, by rw [x1]; exact (k3 cc hcc).2, fun hy a ha => ?_, fun hno => ?_⟩
      · rw [if_pos hy] at p
        refine ⟨G1, S1, env1.set i (some (.exn cc ds)), (envRep_x h0 hE1).set i ?_, held_x h0 hd1, ?_⟩
        · simp only [Rep]
          refine ⟨a, cls, dx, rfl, rfl, x1, ?_⟩
          rcases x2 with h | ⟨h, d, vs, q1, q2, q3, q4⟩
          · exact .inl h
          · exact .inr ⟨h, d, vs, q1, q2, q3, reps_x h0 q4⟩
        · cases e2 : fs (env1.set i (some (.exn cc ds))) S1 with
          | nx env' S' =>
            rw [e2] at p
            unfold endX at p
            dsimp only at p
            split at p
            · rename_i hn
              rw [Bool.and_eq_true] at hn
              exact fun G2 H2 σ2 st2 hd2 hE2 => p G2 H2 _ (st1.trans st2) (held_un hn.2 hd2) (envRep_un hn.1 (hE2.kill2 i none))
            · exact p.elim
          | bk env' S' =>
            rw [e2] at p
            unfold endX at p
            dsimp only at p
            split at p
            · rename_i hn
              rw [Bool.and_eq_true] at hn
              exact fun G2 H2 σ2 st2 hd2 hE2 => p G2 H2 _ (st1.trans st2) (held_un hn.2 hd2) (envRep_un hn.1 (hE2.kill2 i none))
            · exact p.elim
          | ct env' S' =>
            rw [e2] at p
            unfold endX at p
            dsimp only at p
            split at p
            · rename_i hn
              rw [Bool.and_eq_true] at hn
              exact fun G2 H2 σ2 st2 hd2 hE2 => p G2 H2 _ (st1.trans st2) (held_un hn.2 hd2) (envRep_un hn.1 (hE2.kill2 i none))
            · exact p.elim
          | rt d S' =>
            rw [e2] at p
            unfold endX at p
            dsimp only at p
            split at p
            · rename_i hn
              rw [Bool.and_eq_true] at hn
              exact fun G2 H2 v st2 hd2 r2 => p G2 H2 v (st1.trans st2) (held_un hn.2 hd2) (rep_un hn.1 r2)
            · exact p.elim
          | exc c2 d2 env' S' => rw [e2] at p; exact p.elim
          | stuck => rw [e2] at p; exact p.elim
      · rw [if_neg (by rw [hno]; exact Bool.false_ne_true)] at p
        exact p G1 H1 σ1 cls dx st1 hd1 hE1 ⟨x1, x2⟩
    · exact p.elim
theorem compHs_ok (c : StOk C T k X W) {F : List Stmt → Option MS} (hF : ∀ {ss f}, F ss = some f → ∀ {X : Cx} {W : WX}, StOk (C.hot false) T k X W → VSs T X W ss f) : ∀ {hds : List ExceptHandler} {hs : List (Nat × MS)}, compHs C F hds = some hs →
    HdsOk X hds (hs.map fun q => (.ref (T.cl q.1), fun _ _ _ => tS T WF q.2)) ∧ ∀ q ∈ hs, ∀ c ∈ C.xcs, PySem.W.exmOne X.K (.ref (T.cl c)) (.ref (T.cl q.1)) = some (subX c q.1)
  | [], hs, h => by
    unfold compHs at h
    cases h
    exact ⟨.nil, fun q hq => by cases hq⟩
  | hd :: hds, hs, h => by
    unfold compHs at h
    split at h
    · rename_i heq; cases heq
    · rename_i x np b suite hp r heq
      cases heq
      obtain ⟨h1, h⟩ := gd_some h
      obtain ⟨ch, h2, h⟩ := o1_some h
      obtain ⟨f, hs', h3, h4, h5⟩ := o2_some h
      cases h5
      obtain ⟨i1, i2⟩ := compHs_ok c hF h4
      obtain ⟨k1, k2, k3⟩ := c.cx.xk _ _ h2
      refine ⟨.cons ⟨c.cx.gl h1, k2, .inl k1⟩ (fun a oe cls d pn hz hf => hF h3 (c.suite0 a _)) i1, fun q hq => ?_⟩
      rcases List.mem_cons.mp hq with rfl | hq
      · exact fun z hz => (k3 z hz).2
      · exact i2 q hq
    · cases h
theorem many_of {G : Gh} {H H1 : Hp} {D' : Ends} {xcs : List Nat} {K : PySem.W.Frag} {cc : Nat} {ds : List D} {env1 : Envd} {S1 : Store} {G1 : Gh} {σ1 : L2.St} {cls : Value} {dx : Option Addr} (hcc : cc ∈ xcs) (st1 : Step G H G1 H1) (hd1 : Held T G1 S1 H1) (hE1 : EnvRep T G1 env1 σ1) (x1 : ExcRep T G1 cc ds cls dx) :
    ∀ {hs : List (Nat × MS)}, (∀ q ∈ hs, ∀ c ∈ xcs, PySem.W.exmOne K (.ref (T.cl c)) (.ref (T.cl q.1)) = some (subX c q.1)) → PS' T G H W D' (match pickH hs cc with
      | some f => noX (f env1 S1)
      | none => .exc cc ds env1 S1) → wMany K W D' (hs.map fun q => (.ref (T.cl q.1), fun _ _ _ => tS T WF q.2)) cls dx σ1 H1
  | [], _, p => p G1 H1 σ1 cls dx st1 hd1 hE1 x1
  | (ch, f) :: hs, hk, p => by
    refine ⟨subX cc ch, by rw [x1.1]; exact hk (ch, f) List.mem_cons_self cc hcc, fun hy a ha => ?_, fun hno => ?_⟩
    · unfold pickH at p
      rw [if_pos hy] at p
      refine ⟨G1, S1, env1, hE1, hd1, ?_⟩
      dsimp only at p
      cases e2 : f env1 S1 with
      | nx env' S' => rw [e2] at p; show PS' T G1 H1 WF D' (f env1 S1); rw [e2]; exact fun G2 H2 σ2 st2 => p G2 H2 σ2 (st1.trans st2)
      | rt d S' => rw [e2] at p; show PS' T G1 H1 WF D' (f env1 S1); rw [e2]; exact fun G2 H2 v st2 => p G2 H2 v (st1.trans st2)
      | bk env' S' => rw [e2] at p; show PS' T G1 H1 WF D' (f env1 S1); rw [e2]; exact fun G2 H2 σ2 st2 => p G2 H2 σ2 (st1.trans st2)
      | ct env' S' => rw [e2] at p; show PS' T G1 H1 WF D' (f env1 S1); rw [e2]; exact fun G2 H2 σ2 st2 => p G2 H2 σ2 (st1.trans st2)
      | exc c2 d2 env' S' => rw [e2] at p; exact p.elim
      | stuck => rw [e2] at p; exact p.elim
    · unfold pickH at p
      rw [if_neg (by rw [hno]; exact Bool.false_ne_true)] at p
      exact many_of hcc st1 hd1 hE1 x1 (fun q hq => hk q (List.mem_cons_of_mem _ hq)) p
theorem vs_tryM (c : StOk C T k X W) (hc : C.calm = true) {body : List Stmt} {h : ExceptHandler} {hds : List ExceptHandler} {hs : List (Nat × MS)} {fb : MS} {F : List Stmt → Option MS} (hF : ∀ {ss f}, F ss = some f → ∀ {X : Cx} {W : WX}, StOk (C.hot false) T k X W → VSs T X W ss f)
    (hb : ∀ {X : Cx} {W : WX}, StOk C T k X W → VSs T X W body fb) (hh : compHs C F (h :: hds) = some hs) : VS T X W (.Try body (h :: hds) [] [] pos) (sTryM C.xcs hs fb) := by
  obtain ⟨i1, i2⟩ := compHs_ok c hF hh
  refine (ps_try_many (tb := fun W => tS T W fb) (c.stk hc) c.frm (c.tk hc) (fun W pn xe tk ow => hb (c.tr hc tk ow)) i1).imp fun D' σ H ⟨G, S, env, hE, hH, p⟩ => ?_
  refine ⟨G, S, env, hE, hH, ?_⟩
  unfold sTryM at p
  cases e : fb env S with
  | nx env' S' => rw [e] at p; exact p
  | rt d S' => rw [e] at p; exact p
  | bk env' S' => rw [e] at p; exact p
  | ct env' S' => rw [e] at p; exact p
  | stuck => rw [e] at p; exact p
  | exc cc ds env1 S1 =>
    rw [e] at p
    dsimp only at p
    split at p
    · rename_i hcc
      intro G1 H1 σ1 cls dx st1 hd1 hE1 xr
      exact many_of hcc st1 hd1 hE1 xr i2 p
    · exact p.elim
end
theorem compS_ok {m : Nat} : ∀ (n : Nat) {C : CC} {T : Kit} {k : Nat} {X : Cx} {W : WX}, StOk C T k X W → (∀ s f, compS C m n s = some f → VS T X W s f) ∧ (∀ ss f, compSs C m n ss = some f → VSs T X W ss f)
  | 0, C, T, k, X, W, c => ⟨fun e f h => (by unfold compS at h; cases h), fun e f h => (by unfold compSs at h; cases h)⟩
  | n + 1, C, T, k, X, W, c => by
    obtain ⟨iS, iSs⟩ := compS_ok (m := m) n c
    obtain ⟨iE, iT, iI⟩ := comp_ok m c.cx
    refine ⟨fun s f h => ?_, fun ss f h => ?_⟩
    · unfold compS at h
      split at h
      · cases h; exact vs_pass
      · cases h; exact vs_break
      · cases h; exact vs_cont
      · obtain ⟨h0, h⟩ := gd_some h
        obtain ⟨g, h1, h2⟩ := o1_some h
        cases h2
        exact vs_expr (iE _ _ h1) (noSw (by simpa using h0))
      · cases h; exact vs_retN
      · obtain ⟨g, h1, h2⟩ := o1_some h
        cases h2
        exact vs_ret (iE _ _ h1)
      · obtain ⟨fc, h1, h⟩ := o1_some h
        obtain ⟨f1, g1, h2, h3, h4⟩ := o2_some h
        cases h4
        exact vs_if (iT _ _ h1) (iSs _ _ h2) (iSs _ _ h3)
      · exact compAsg_ok c.cx h
      · obtain ⟨h0, h⟩ := gd_some h
        rw [Bool.and_eq_true] at h0
        obtain ⟨t, h1, h⟩ := o1_some h
        obtain ⟨fi, fb, h2, h3, h4⟩ := o2_some h
        cases h4
        exact vs_for c.own (c.cx.calm h0.1).1 (iI _ _ _ h2) (compTg_ok c.cx h1) (iSs _ _ h3) (nofold h0.2)
      · obtain ⟨fc, fb, h2, h3, h4⟩ := o2_some h
        cases h4
        exact vs_while c.own (iT _ _ h2) (iSs _ _ h3)
      · obtain ⟨h0, h⟩ := gd_some h
        rw [Bool.and_eq_true] at h0
        split at h
        · rename_i q hq
          obtain ⟨h1, h⟩ := gd_some h
          obtain ⟨fa, h2, h3⟩ := o1_some h
          cases h3
          exact vs_raisex (c.cx.calm h0.1).1 (c.tk h0.1) (c.excF _ _ hq) (c.cx.room h0.1) (c.cx.gl h0.2) (compEs_ok iE h1 h2) h1
        · split at h
          · obtain ⟨cc, h1, h2⟩ := o1_some h
            cases h2
            have E := c.excs _ _ h1
            exact raise_of (c.cx.calm h0.1).1 (c.tk h0.1) (pmk_own PySem.F.excBase_ValueError E.ex E.g E.kp (raises_own E.sub E.ty) (c.cx.gl h0.2) E.db)
          · cases h
      · obtain ⟨hc, h⟩ := gd_some h
        split at h
        · rename_i q hq
          obtain ⟨np, b, suite, hp, e1, e2⟩ := asH_ok hq
          obtain ⟨h0, h⟩ := gd_some h
          rw [Bool.and_eq_true] at h0
          obtain ⟨ch, i, h1, h2, h⟩ := o2_some h
          obtain ⟨fb, fs, h3, h4, h5⟩ := o2_some h
          cases h5
          rw [e1]
          rw [e2] at h4
          exact vs_tryAs c hc h0.1 h1 h2 h0.2 (fun c' => (compS_ok (m := m) n c').2 _ _ h3) (fun c' => (compS_ok (m := m) n c').2 _ _ h4)
        · obtain ⟨fb, hs, h3, h4, h5⟩ := o2_some h
          cases h5
          exact vs_tryM c hc (fun h _ _ c' => (compS_ok (m := m) n c').2 _ _ h) (fun c' => (compS_ok (m := m) n c').2 _ _ h3) h4
      · cases h
    · unfold compSs at h
      split at h
      · cases h; exact vss_nil
      · exact vss_one (iS _ _ h)
      · obtain ⟨f1, g1, h2, h3, h4⟩ := o2_some h
        cases h4
        exact vss_cons (iS _ _ h2) (iSs _ _ h3)
end Ev

set_option Elab.async false
set_option linter.all false
set_option maxRecDepth 100000
set_option maxHeartbeats 4000000
/-! EvM: data that are frozen; a def that sees only the cells it is given. -/
namespace Ev
open PySem PySem.Spec PyProof.Rows L2

/-! ### data without references -/
mutual
def nrD : D → Bool
  | .ref _ => false
  | .lst xs => nrDs xs
  | .tup xs => nrDs xs
  | .dct _ vs => nrDs vs
  | .obj _ fs => nrDs fs
  | .exn _ _ => false
  | .non => true
  | .bl _ => true
  | .int _ => true
  | .str _ => true
  | .scr _ => true
def nrDs : List D → Bool
  | [] => true
  | d :: ds => nrD d && nrDs ds
end
mutual
theorem rep_m {T : Kit} {Hg : Hp} {m m' : List Addr} : ∀ {d : D} {v : V}, nrD d = true → Rep T ⟨Hg, m⟩ d v → Rep T ⟨Hg, m'⟩ d v
  | .non, v, _, h => by simpa only [Rep] using h
  | .bl b, v, _, h => by simpa only [Rep] using h
  | .int i, v, _, h => by simpa only [Rep] using h
  | .str s, v, _, h => by simpa only [Rep] using h
  | .scr xs, v, _, h => by simpa only [Rep] using h
  | .lst ds, v, n, h => by
    simp only [Rep, nrD] at h n ⊢
    obtain ⟨a, vs, e, q, r⟩ := h
    exact ⟨a, vs, e, q, reps_m n r⟩
  | .tup ds, v, n, h => by
    simp only [Rep, nrD] at h n ⊢
    obtain ⟨a, vs, e, q, r⟩ := h
    exact ⟨a, vs, e, q, reps_m n r⟩
  | .dct ks ds, v, n, h => by
    simp only [Rep, nrD] at h n ⊢
    obtain ⟨a, vs, e, q, z, r⟩ := h
    exact ⟨a, vs, e, q, z, reps_m n r⟩
  | .obj c ds, v, n, h => by
    simp only [Rep, nrD] at h n ⊢
    obtain ⟨a, dx, vs, e, q, z, r⟩ := h
    exact ⟨a, dx, vs, e, q, z, reps_m n r⟩
  | .ref k, v, n, h => by simp only [nrD] at n; cases n
  | .exn c fs, v, n, h => by simp only [nrD] at n; cases n
theorem reps_m {T : Kit} {Hg : Hp} {m m' : List Addr} : ∀ {ds : List D} {vs : List V}, nrDs ds = true → Reps T ⟨Hg, m⟩ ds vs → Reps T ⟨Hg, m'⟩ ds vs
  | [], vs, _, h => by simpa only [Reps] using h
  | d :: ds, vs, n, h => by
    simp only [nrDs, Bool.and_eq_true] at n
    simp only [Reps] at h ⊢
    obtain ⟨v, r, e, q, z⟩ := h
    exact ⟨v, r, e, rep_m n.1 q, reps_m n.2 z⟩
end
def nrC : Cell → Bool
  | .lst xs => nrDs xs
  | .frz xs => nrDs xs
  | .dct _ xs => nrDs xs
  | .ins _ xs => nrDs xs
  | .fro _ xs => nrDs xs
theorem cellRep_m {T : Kit} {Hg : Hp} {m m' : List Addr} {a : Addr} {H : Hp} {c : Cell} (n : nrC c = true) (h : CellRep T ⟨Hg, m⟩ a H c) : CellRep T ⟨Hg, m'⟩ a H c := by
  cases c <;> simp only [CellRep, nrC] at h n ⊢
  · obtain ⟨z, vs, e, r⟩ := h; exact ⟨z, vs, e, reps_m n r⟩
  · obtain ⟨vs, e, r⟩ := h; exact ⟨vs, e, reps_m n r⟩
  · obtain ⟨z, vs, e, y, r⟩ := h; exact ⟨z, vs, e, y, reps_m n r⟩
  · obtain ⟨z, dx, vs, e, y, r⟩ := h; exact ⟨z, dx, vs, e, y, reps_m n r⟩
  · obtain ⟨dx, vs, e, y, r⟩ := h; exact ⟨dx, vs, e, y, reps_m n r⟩

/-! ### to freeze -/
abbrev Fz (α : Type) := Store → Option (α × Store)
mutual
def mapR (f : Nat → Fz D) : D → Fz D
  | .ref k => f k
  | .lst xs => fun S => o1 (mapRs f xs S) fun r => some (.lst r.1, r.2)
  | .tup xs => fun S => o1 (mapRs f xs S) fun r => some (.tup r.1, r.2)
  | .dct ks xs => fun S => o1 (mapRs f xs S) fun r => some (.dct ks r.1, r.2)
  | .obj c xs => fun S => o1 (mapRs f xs S) fun r => some (.obj c r.1, r.2)
  | .exn _ _ => fun _ => none
  | .non => fun S => some (.non, S)
  | .bl b => fun S => some (.bl b, S)
  | .int i => fun S => some (.int i, S)
  | .str s => fun S => some (.str s, S)
  | .scr xs => fun S => some (.scr xs, S)
def mapRs (f : Nat → Fz D) : List D → Fz (List D)
  | [] => fun S => some ([], S)
  | d :: ds => fun S => o1 (mapR f d S) fun r => o1 (mapRs f ds r.2) fun q => some (r.1 :: q.1, q.2)
end
mutual
theorem mapR_nr {f : Nat → Fz D} {S : Store} : ∀ {d : D}, nrD d = true → mapR f d S = some (d, S)
  | .non, _ => by simp only [mapR]
  | .bl b, _ => by simp only [mapR]
  | .int i, _ => by simp only [mapR]
  | .str s, _ => by simp only [mapR]
  | .scr xs, _ => by simp only [mapR]
  | .lst ds, n => by simp only [nrD] at n; simp only [mapR, mapRs_nr n, o1]
  | .tup ds, n => by simp only [nrD] at n; simp only [mapR, mapRs_nr n, o1]
  | .dct ks ds, n => by simp only [nrD] at n; simp only [mapR, mapRs_nr n, o1]
  | .obj c ds, n => by simp only [nrD] at n; simp only [mapR, mapRs_nr n, o1]
  | .ref k, n => by simp only [nrD] at n; cases n
  | .exn c fs, n => by simp only [nrD] at n; cases n
theorem mapRs_nr {f : Nat → Fz D} {S : Store} : ∀ {ds : List D}, nrDs ds = true → mapRs f ds S = some (ds, S)
  | [], _ => by simp only [mapRs]
  | d :: ds, n => by
    simp only [nrDs, Bool.and_eq_true] at n
    simp only [mapRs, mapR_nr n.1, mapRs_nr n.2, o1]
end
def fzC (g : List D → Fz (List D)) (k : Nat) : Fz D := fun S => match S[k]? with
  | some (.lst xs) => o1 (g xs S) fun r => match r.2[k]? with
    | some (.lst _) => some (.lst r.1, r.2.set k (.frz r.1))
    | _ => none
  | some (.frz xs) => o1 (g xs S) fun r => some (.lst r.1, r.2)
  | some (.ins c xs) => o1 (g xs S) fun r => match r.2[k]? with
    | some (.ins c' _) => if c' = c then some (.obj c r.1, r.2.set k (.fro c r.1)) else none
    | _ => none
  | some (.fro c xs) => o1 (g xs S) fun r => some (.obj c r.1, r.2)
  | _ => none
def fzN : Nat → Nat → Fz D
  | 0 => fun _ _ => none
  | n + 1 => fzC (mapRs (fzN n))
/-- how deep lists lie in lists, at most -/
abbrev fzD : D → Fz D := mapR (fzN 8)
abbrev fzDs : List D → Fz (List D) := mapRs (fzN 8)
section
variable {T : Kit} {H : Hp}
/-- what freezing leaves -/
structure Fzd (T : Kit) (H : Hp) (G : Gh) (G' : Gh) (S' : Store) : Prop where
  st : Step G H G' H
  m : G'.m = G.m
  hd : Held T G' S' H
theorem Fzd.trans {G G1 G2 : Gh} {S1 S2 : Store} (a : Fzd T H G G1 S1) (b : Fzd T H G1 G2 S2) : Fzd T H G G2 S2 := ⟨a.st.trans b.st, b.m.trans a.m, b.hd⟩
def FzOk (T : Kit) (H : Hp) (f : Nat → Fz D) : Prop := ∀ (k : Nat) (G : Gh) (S : Store) (d' : D) (S' : Store) (v : V), Held T G S H → Rep T G (.ref k) v → f k S = some (d', S') → ∃ G', Fzd T H G G' S' ∧ Rep T G' d' v ∧ nrD d' = true
mutual
theorem mapR_ok {f : Nat → Fz D} (hf : FzOk T H f) : ∀ {d d' : D} {G : Gh} {S S' : Store} {v : V}, Held T G S H → Rep T G d v → mapR f d S = some (d', S') → ∃ G', Fzd T H G G' S' ∧ Rep T G' d' v ∧ nrD d' = true
  | .ref k, d', G, S, S', v, hd, r, e => hf k G S d' S' v hd r (by simpa only [mapR] using e)
  | .non, d', G, S, S', v, hd, r, e => by simp only [mapR] at e; cases e; exact ⟨G, ⟨.refl, rfl, hd⟩, r, rfl⟩
  | .bl _, d', G, S, S', v, hd, r, e => by simp only [mapR] at e; cases e; exact ⟨G, ⟨.refl, rfl, hd⟩, r, rfl⟩
  | .int _, d', G, S, S', v, hd, r, e => by simp only [mapR] at e; cases e; exact ⟨G, ⟨.refl, rfl, hd⟩, r, rfl⟩
  | .str _, d', G, S, S', v, hd, r, e => by simp only [mapR] at e; cases e; exact ⟨G, ⟨.refl, rfl, hd⟩, r, rfl⟩
  | .scr _, d', G, S, S', v, hd, r, e => by simp only [mapR] at e; cases e; exact ⟨G, ⟨.refl, rfl, hd⟩, r, rfl⟩
  | .lst xs, d', G, S, S', v, hd, r, e => by
    simp only [mapR] at e
    obtain ⟨⟨ys, S1⟩, e1, e2⟩ := o1_some e
    cases e2
    simp only [Rep] at r
    obtain ⟨a, vs, rfl, q, z⟩ := r
    obtain ⟨G', h1, h2, h3⟩ := mapRs_ok hf hd z e1
    exact ⟨G', h1, by simp only [Rep]; exact ⟨a, vs, rfl, h1.st.le.H _ _ q, h2⟩, by simpa only [nrD] using h3⟩
  | .tup xs, d', G, S, S', v, hd, r, e => by
    simp only [mapR] at e
    obtain ⟨⟨ys, S1⟩, e1, e2⟩ := o1_some e
    cases e2
    simp only [Rep] at r
    obtain ⟨a, vs, rfl, q, z⟩ := r
    obtain ⟨G', h1, h2, h3⟩ := mapRs_ok hf hd z e1
    exact ⟨G', h1, by simp only [Rep]; exact ⟨a, vs, rfl, sqT_le h1.st.le.H q, h2⟩, by simpa only [nrD] using h3⟩
  | .dct ks xs, d', G, S, S', v, hd, r, e => by
    simp only [mapR] at e
    obtain ⟨⟨ys, S1⟩, e1, e2⟩ := o1_some e
    cases e2
    simp only [Rep] at r
    obtain ⟨a, vs, rfl, q, l, z⟩ := r
    obtain ⟨G', h1, h2, h3⟩ := mapRs_ok hf hd z e1
    exact ⟨G', h1, by simp only [Rep]; exact ⟨a, vs, rfl, h1.st.le.H _ _ q, l, h2⟩, by simpa only [nrD] using h3⟩
  | .obj c xs, d', G, S, S', v, hd, r, e => by
    simp only [mapR] at e
    obtain ⟨⟨ys, S1⟩, e1, e2⟩ := o1_some e
    cases e2
    simp only [Rep] at r
    obtain ⟨a, dx, vs, rfl, q, l, z⟩ := r
    obtain ⟨G', h1, h2, h3⟩ := mapRs_ok hf hd z e1
    exact ⟨G', h1, by simp only [Rep]; exact ⟨a, dx, vs, rfl, h1.st.le.H _ _ q, l, h2⟩, by simpa only [nrD] using h3⟩
  | .exn c xs, d', G, S, S', v, hd, r, e => by
    simp only [mapR] at e
    cases e
theorem mapRs_ok {f : Nat → Fz D} (hf : FzOk T H f) : ∀ {ds ds' : List D} {G : Gh} {S S' : Store} {vs : List V}, Held T G S H → Reps T G ds vs → mapRs f ds S = some (ds', S') → ∃ G', Fzd T H G G' S' ∧ Reps T G' ds' vs ∧ nrDs ds' = true
  | [], ds', G, S, S', vs, hd, r, e => by simp only [mapRs] at e; cases e; exact ⟨G, ⟨.refl, rfl, hd⟩, r, rfl⟩
  | d :: ds, ds', G, S, S', vs, hd, r, e => by
    simp only [mapRs] at e
    obtain ⟨⟨y, S1⟩, e1, e⟩ := o1_some e
    obtain ⟨⟨ys, S2⟩, e2, e3⟩ := o1_some e
    cases e3
    simp only [Reps] at r
    obtain ⟨v, vs', rfl, r1, r2⟩ := r
    obtain ⟨G1, a1, a2, a3⟩ := mapR_ok hf hd r1 e1
    obtain ⟨G2, b1, b2, b3⟩ := mapRs_ok hf a1.hd (r2.le a1.st.le) e2
    exact ⟨G2, a1.trans b1, reps_cons (a2.le b1.st.le) b2, by simp only [nrDs, a3, b3, Bool.and_self]⟩
end
theorem fzN_ok : ∀ n : Nat, FzOk T H (fzN n)
  | 0 => fun k G S d' S' v hd r e => by unfold fzN at e; cases e
  | n + 1 => fun k G S d' S' v hd r e => by
    have ih := fun {ds ds' : List D} {G : Gh} {S S' : Store} {vs : List V} => mapRs_ok (T := T) (H := H) (fzN_ok n) (ds := ds) (ds' := ds') (G := G) (S := S) (S' := S') (vs := vs)
    unfold fzN fzC at e
    simp only [Rep] at r
    obtain ⟨a, rfl, q⟩ := r
    split at e
    · rename_i xs hk
      obtain ⟨⟨ys, S1⟩, e1, e⟩ := o1_some e
      have c := hd.cell k _ a hk q
      simp only [CellRep] at c
      obtain ⟨c0, vs, c1, c2⟩ := c
      obtain ⟨G1, h1, h2, h3⟩ := ih hd c2 e1
      dsimp only at e
      split at e
      · rename_i zs hk1
        cases e
        have q1 : G1.m[k]? = some a := by rw [h1.m]; exact q
        have c' := h1.hd.cell k _ a hk1 q1
        simp only [CellRep] at c'
        obtain ⟨d0, _⟩ := c'
        have l : Le G1 (G1.put a (.lst vs)) := Gh.put_le d0
        obtain ⟨k1, k2⟩ := h1.hd.freeze (c' := .frz ys) q1 d0 c1 (by simp only [CellRep]; exact ⟨vs, upd_same, h2.le l⟩)
        refine ⟨_, h1.trans ⟨k2, rfl, k1⟩, ?_, by simpa only [nrD] using h3⟩
        simp only [Rep]
        exact ⟨a, vs, rfl, upd_same, h2.le l⟩
      · cases e
    · rename_i xs hk
      obtain ⟨⟨ys, S1⟩, e1, e⟩ := o1_some e
      cases e
      have c := hd.cell k _ a hk q
      simp only [CellRep] at c
      obtain ⟨vs, c1, c2⟩ := c
      obtain ⟨G1, h1, h2, h3⟩ := ih hd c2 e1
      refine ⟨G1, h1, ?_, by simpa only [nrD] using h3⟩
      simp only [Rep]
      exact ⟨a, vs, rfl, h1.st.le.H _ _ c1, h2⟩
    · rename_i cc xs hk
      obtain ⟨⟨ys, S1⟩, e1, e⟩ := o1_some e
      have c := hd.cell k _ a hk q
      simp only [CellRep] at c
      obtain ⟨c0, dx, vs, c1, c3, c2⟩ := c
      obtain ⟨G1, h1, h2, h3⟩ := ih hd c2 e1
      dsimp only at e
      split at e
      · rename_i cc' zs hk1
        split at e
        · rename_i ecc
          subst ecc
          cases e
          have q1 : G1.m[k]? = some a := by rw [h1.m]; exact q
          have c' := h1.hd.cell k _ a hk1 q1
          simp only [CellRep] at c'
          obtain ⟨d0, _⟩ := c'
          have l : Le G1 (G1.put a (.ins (T.cl cc') dx ((T.fn cc').zip vs))) := Gh.put_le d0
          obtain ⟨k1, k2⟩ := h1.hd.freeze (c' := .fro cc' ys) q1 d0 c1 (by simp only [CellRep]; exact ⟨dx, vs, upd_same, c3, h2.le l⟩)
          refine ⟨_, h1.trans ⟨k2, rfl, k1⟩, ?_, by simpa only [nrD] using h3⟩
          simp only [Rep]
          exact ⟨a, dx, vs, rfl, upd_same, c3, h2.le l⟩
        · cases e
      · cases e
    · rename_i cc xs hk
      obtain ⟨⟨ys, S1⟩, e1, e⟩ := o1_some e
      cases e
      have c := hd.cell k _ a hk q
      simp only [CellRep] at c
      obtain ⟨dx, vs, c1, c3, c2⟩ := c
      obtain ⟨G1, h1, h2, h3⟩ := ih hd c2 e1
      refine ⟨G1, h1, ?_, by simpa only [nrD] using h3⟩
      simp only [Rep]
      exact ⟨a, dx, vs, rfl, h1.st.le.H _ _ c1, c3, h2⟩
    · cases e
theorem fzD_ok {d d' : D} {G : Gh} {S S' : Store} {v : V} (hd : Held T G S H) (r : Rep T G d v) (e : fzD d S = some (d', S')) : ∃ G', Fzd T H G G' S' ∧ Rep T G' d' v ∧ nrD d' = true := mapR_ok (fzN_ok 8) hd r e
theorem fzDs_ok {ds ds' : List D} {G : Gh} {S S' : Store} {vs : List V} (hd : Held T G S H) (r : Reps T G ds vs) (e : fzDs ds S = some (ds', S')) : ∃ G', Fzd T H G G' S' ∧ Reps T G' ds' vs ∧ nrDs ds' = true := mapRs_ok (fzN_ok 8) hd r e
end

/-- a cell's inside is frozen, not the cell -/
def cfz (k : Nat) : Fz Unit := fun S => match S[k]? with
  | some (.lst xs) => o1 (fzDs xs S) fun r => match r.2[k]? with
    | some (.lst _) => some ((), r.2.set k (.lst r.1))
    | _ => none
  | some (.ins c xs) => o1 (fzDs xs S) fun r => match r.2[k]? with
    | some (.ins c' _) => if c' = c then some ((), r.2.set k (.ins c r.1)) else none
    | _ => none
  | _ => none
theorem cfz_ok {T : Kit} {H : Hp} {k : Nat} {G : Gh} {S S' : Store} (hd : Held T G S H) (e : cfz k S = some ((), S')) : ∃ G', Fzd T H G G' S' ∧ ∃ c, S'[k]? = some c ∧ nrC c = true := by
  have same : ∀ {G1 : Gh} {S1 : Store} {c c' : Cell} {a : Addr}, Held T G1 S1 H → S1[k]? = some c → G1.m[k]? = some a → CellRep T G1 a H c' → Held T G1 (S1.set k c') H := fun {G1 S1 c c' a} h hk hm hc => by
    refine ⟨h.ext, by rw [List.length_set]; exact h.len, h.nd, fun j d b e1 e2 => ?_⟩
    by_cases hj : j = k
    · subst hj
      rw [List.getElem?_set_self (List.getElem?_eq_some_iff.mp hk).1] at e1
      rw [hm] at e2
      cases e1; cases e2
      exact hc
    · rw [List.getElem?_set_ne (Ne.symm hj)] at e1
      exact h.cell j d b e1 e2
  unfold cfz at e
  split at e
  · rename_i xs hk
    obtain ⟨a, q⟩ := hd.inm (List.getElem?_eq_some_iff.mp hk).1
    obtain ⟨⟨ys, S1⟩, e1, e⟩ := o1_some e
    have c := hd.cell k _ a hk q
    simp only [CellRep] at c
    obtain ⟨c0, vs, c1, c2⟩ := c
    obtain ⟨G1, h1, h2, h3⟩ := fzDs_ok hd c2 e1
    dsimp only at e
    split at e
    · rename_i zs hk1
      cases e
      have q1 : G1.m[k]? = some a := by rw [h1.m]; exact q
      have c' := h1.hd.cell k _ a hk1 q1
      simp only [CellRep] at c'
      refine ⟨G1, ⟨h1.st, h1.m, same h1.hd hk1 q1 (by simp only [CellRep]; exact ⟨c'.1, vs, c1, h2⟩)⟩, .lst ys, List.getElem?_set_self (List.getElem?_eq_some_iff.mp hk1).1, by simpa only [nrC] using h3⟩
    · cases e
  · rename_i cc xs hk
    obtain ⟨a, q⟩ := hd.inm (List.getElem?_eq_some_iff.mp hk).1
    obtain ⟨⟨ys, S1⟩, e1, e⟩ := o1_some e
    have c := hd.cell k _ a hk q
    simp only [CellRep] at c
    obtain ⟨c0, dx, vs, c1, c3, c2⟩ := c
    obtain ⟨G1, h1, h2, h3⟩ := fzDs_ok hd c2 e1
    dsimp only at e
    split at e
    · rename_i cc' zs hk1
      split at e
      · rename_i ecc
        subst ecc
        cases e
        have q1 : G1.m[k]? = some a := by rw [h1.m]; exact q
        have c' := h1.hd.cell k _ a hk1 q1
        simp only [CellRep] at c'
        refine ⟨G1, ⟨h1.st, h1.m, same h1.hd hk1 q1 (by simp only [CellRep]; exact ⟨c'.1, dx, vs, c1, c3, h2⟩)⟩, .ins cc' ys, List.getElem?_set_self (List.getElem?_eq_some_iff.mp hk1).1, by simpa only [nrC] using h3⟩
      · cases e
    · cases e
  · cases e
end Ev

set_option Elab.async false
set_option linter.all false
set_option maxRecDepth 100000
set_option maxHeartbeats 4000000
/-! EvN: a def that sees only the cells it is given (callIO). -/
namespace Ev
open PySem PySem.Spec PyProof.Rows L2

def okC : Cell → Bool
  | .lst xs => nrDs xs
  | .ins _ xs => nrDs xs
  | _ => false
theorem okC_nr {c : Cell} (h : okC c = true) : nrC c = true := by
  cases c <;> simp only [okC, nrC] at h ⊢ <;> first | exact h | cases h
/-- the arguments, frozen, but for the cells that are handed in: these are numbered anew -/
def prep : List Bool → List D → List Nat → Store → Option (List D × List Nat × Store)
  | _, [], ks, S => some ([], ks, S)
  | io, d :: ds, ks, S => match io.headD false, d with
    | true, .ref k => if k ∈ ks then none else o1 (cfz k S) fun r => o1 (prep io.tail ds (ks ++ [k]) r.2) fun q => some (.ref ks.length :: q.1, q.2)
    | _, d => o1 (fzD d S) fun r => o1 (prep io.tail ds ks r.2) fun q => some (r.1 :: q.1, q.2)
def subS : List Nat → Store → Option Store
  | [], _ => some []
  | k :: ks, S => o1 S[k]? fun c => gd (okC c) (o1 (subS ks S) fun S' => some (c :: S'))
def cfzAll : Nat → Fz Unit
  | 0 => fun S => some ((), S)
  | n + 1 => fun S => o1 (cfzAll n S) fun r => cfz n r.2
def backW : List Nat → Nat → Store → Store → Option Store
  | [], _, _, S1 => some S1
  | k :: ks, j, S', S1 => o1 S'[j]? fun c => gd (okC c) (backW ks (j + 1) S' (S1.set k c))
def ioEnd (ks : List Nat) (S1 S' : Store) : Option (Store × Store) := o1 (cfzAll ks.length S') fun r => o1 (backW ks 0 r.2 S1) fun S3 => some (S3, r.2)
def orStuck {α β : Type} (x : Option α) (k : α → R β) : R β := match x with
  | some a => k a
  | none => .stuck
def callIO (io : List Bool) (mr : Bool) (sem : List D → M D) : List D → M D := fun ds S =>
  orStuck (prep io ds [] S) fun p => orStuck (subS p.2.1 p.2.2) fun S0 => match sem p.1 S0 with
    | .stuck => .stuck
    | .exc c fs S' => orStuck (fzDs fs S') fun q => orStuck (ioEnd p.2.1 p.2.2 q.2) fun e => .exc c q.1 e.1
    | .ok d S' => match mr, d with
      | true, .ref j => if j < p.2.1.length then .stuck else orStuck (cfz j S') fun q => orStuck (ioEnd p.2.1 p.2.2 q.2) fun e => orStuck e.2[j]? fun c => if okC c = true then .ok (.ref e.1.length) (e.1 ++ [c]) else .stuck
      | _, d => orStuck (fzD d S') fun q => orStuck (ioEnd p.2.1 p.2.2 q.2) fun e => .ok q.1 e.1

def addrs (G : Gh) (ks : List Nat) : List Addr := ks.map fun k => G.m.getD k 0
section
variable {T : Kit} {H : Hp}
theorem addrs_get {G : Gh} {ks : List Nat} {i k : Nat} {a : Addr} (h : ks[i]? = some k) (hm : G.m[k]? = some a) : (addrs G ks)[i]? = some a := by
  unfold addrs
  rw [List.getElem?_map, h]
  simp [List.getD, hm]
theorem prep_ok : ∀ {io : List Bool} {ds as : List D} {ks ks' : List Nat} {G : Gh} {S S1 : Store} {vs : List V}, Held T G S H → Reps T G ds vs → prep io ds ks S = some (as, ks', S1) → ks.Nodup → (∀ k ∈ ks, k < S.length) →
    ∃ G1, Fzd T H G G1 S1 ∧ (∃ t, ks' = ks ++ t) ∧ ks'.Nodup ∧ (∀ k ∈ ks', k < S1.length) ∧ Reps T ⟨G1.H, addrs G1 ks'⟩ as vs
  | io, [], as, ks, ks', G, S, S1, vs, hd, r, e, nd, lt => by
    unfold prep at e
    cases e
    simp only [Reps] at r
    subst r
    exact ⟨G, ⟨.refl, rfl, hd⟩, ⟨[], by simp⟩, nd, lt, reps_nil⟩
  | io, d :: ds, as, ks, ks', G, S, S1, vs, hd, r, e, nd, lt => by
    simp only [Reps] at r
    obtain ⟨v, vs', rfl, r1, r2⟩ := r
    unfold prep at e
    split at e
    · rename_i k hio
      split at e
      · cases e
      · rename_i hk
        obtain ⟨⟨u, Sa⟩, e1, e⟩ := o1_some e
        obtain ⟨⟨bs, kk, Sb⟩, e2, e3⟩ := o1_some e
        cases e3
        simp only [Rep] at r1
        obtain ⟨a, rfl, q⟩ := r1
        obtain ⟨Ga, h1, c, h2, h3⟩ := cfz_ok hd e1
        have lenS : Sa.length = S.length := by rw [← hd.len, ← h1.hd.len, h1.m]
        obtain ⟨Gb, h4, ⟨t, rfl⟩, h5, h6, h7⟩ := prep_ok h1.hd (r2.le h1.st.le) e2 (by
          refine List.nodup_append.mpr ⟨nd, by simp, fun x hx y hy => ?_⟩
          simp at hy
          subst hy
          exact fun z => hk (z ▸ hx)) (fun j hj => by
          rw [List.mem_append, List.mem_singleton] at hj
          rw [lenS]
          rcases hj with hj | rfl
          · exact lt j hj
          · rw [← hd.len]; exact (List.getElem?_eq_some_iff.mp q).1)
        refine ⟨Gb, h1.trans h4, ⟨k :: t, by simp⟩, h5, h6, reps_cons ?_ h7⟩
        simp only [Rep]
        refine ⟨a, rfl, addrs_get (k := k) ?_ ?_⟩
        · rw [List.append_assoc, List.getElem?_append_right (Nat.le_refl _), Nat.sub_self]; rfl
        · rw [h4.m, h1.m]; exact q
    · obtain ⟨⟨d', Sa⟩, e1, e⟩ := o1_some e
      obtain ⟨⟨bs, kk, Sb⟩, e2, e3⟩ := o1_some e
      cases e3
      obtain ⟨Ga, h1, h2, h3⟩ := fzD_ok hd r1 e1
      have lenS : Sa.length = S.length := by rw [← hd.len, ← h1.hd.len, h1.m]
      obtain ⟨Gb, h4, t, h5, h6, h7⟩ := prep_ok h1.hd (r2.le h1.st.le) e2 nd (fun j hj => by rw [lenS]; exact lt j hj)
      exact ⟨Gb, h1.trans h4, t, h5, h6, reps_cons (rep_m (Hg := Gb.H) (m := Gb.m) h3 (h2.le h4.st.le)) h7⟩
theorem subS_get : ∀ {ks : List Nat} {S S0 : Store}, subS ks S = some S0 → S0.length = ks.length ∧ ∀ (i k : Nat), ks[i]? = some k → ∃ c, S[k]? = some c ∧ okC c = true ∧ S0[i]? = some c
  | [], S, S0, h => by cases h; exact ⟨rfl, fun i k e => by simp at e⟩
  | k :: ks, S, S0, h => by
    obtain ⟨c, h1, h⟩ := o1_some h
    obtain ⟨h2, h⟩ := gd_some h
    obtain ⟨S', h3, h4⟩ := o1_some h
    cases h4
    obtain ⟨l, q⟩ := subS_get h3
    refine ⟨by simp [l], fun i j e => ?_⟩
    cases i with
    | zero => simp at e; subst e; exact ⟨c, h1, h2, rfl⟩
    | succ i => simpa using q i j (by simpa using e)
theorem held_sub {G : Gh} {S S0 : Store} {ks : List Nat} (hd : Held T G S H) (nd : ks.Nodup) (h : subS ks S = some S0) : Held T ⟨G.H, addrs G ks⟩ S0 H := by
  obtain ⟨l, q⟩ := subS_get h
  have get : ∀ {i : Nat} {a : Addr}, (addrs G ks)[i]? = some a → ∃ k, ks[i]? = some k ∧ G.m[k]? = some a := fun {i a} e => by
    have hi : i < ks.length := by
      have := (List.getElem?_eq_some_iff.mp e).1
      unfold addrs at this
      simpa using this
    obtain ⟨c, k1, k2, k3⟩ := q i ks[i] (List.getElem?_eq_getElem hi)
    obtain ⟨b, hb⟩ := hd.inm (List.getElem?_eq_some_iff.mp k1).1
    have := addrs_get (List.getElem?_eq_getElem hi) hb
    rw [e] at this
    cases this
    exact ⟨_, List.getElem?_eq_getElem hi, hb⟩
  refine ⟨hd.ext, by rw [l]; unfold addrs; simp, ?_, fun i c a e1 e2 => ?_⟩
  · show List.Pairwise (· ≠ ·) (addrs G ks)
    rw [List.pairwise_iff_getElem]
    intro i j hi hj hij e
    have hb : (addrs G ks)[j]? = some (addrs G ks)[j] := List.getElem?_eq_getElem hj
    have ha : (addrs G ks)[i]? = some (addrs G ks)[j] := by rw [List.getElem?_eq_getElem hi, e]
    obtain ⟨k1, a1, a2⟩ := get ha
    obtain ⟨k2, b1, b2⟩ := get hb
    have := nodup_get hd.nd a2 b2
    subst this
    have := nodup_get nd a1 b1
    omega
  · obtain ⟨k, k1, k2⟩ := get e2
    obtain ⟨c', c1, c2, c3⟩ := q i k k1
    rw [e1] at c3
    cases c3
    exact cellRep_m (m := G.m) (okC_nr c2) (hd.cell k c a c1 k2)
theorem cfzAll_ok : ∀ {n : Nat} {G : Gh} {S S' : Store}, Held T G S H → cfzAll n S = some ((), S') → ∃ G', Fzd T H G G' S'
  | 0, G, S, S', hd, e => by unfold cfzAll at e; cases e; exact ⟨G, .refl, rfl, hd⟩
  | n + 1, G, S, S', hd, e => by
    unfold cfzAll at e
    obtain ⟨⟨u, S1⟩, e1, e⟩ := o1_some e
    obtain ⟨G1, h1⟩ := cfzAll_ok hd e1
    obtain ⟨G2, h2, _⟩ := cfz_ok h1.hd e
    exact ⟨G2, h1.trans h2⟩
theorem backW_get : ∀ {ks : List Nat} {j : Nat} {S' S1 S5 : Store}, backW ks j S' S1 = some S5 → ks.Nodup → S5.length = S1.length ∧ (∀ (k : Nat), k ∉ ks → S5[k]? = S1[k]?) ∧ ∀ (i k : Nat), ks[i]? = some k → k < S1.length → ∃ c, S'[j + i]? = some c ∧ okC c = true ∧ S5[k]? = some c
  | [], j, S', S1, S5, h, _ => by cases h; exact ⟨rfl, fun _ _ => rfl, fun i k e => by simp at e⟩
  | k :: ks, j, S', S1, S5, h, nd => by
    obtain ⟨c, h1, h⟩ := o1_some h
    obtain ⟨h2, h⟩ := gd_some h
    obtain ⟨n1, n2⟩ := List.nodup_cons.mp nd
    obtain ⟨l, q1, q2⟩ := backW_get h n2
    rw [List.length_set] at l
    refine ⟨l, fun k' hk' => ?_, fun i k' e hl => ?_⟩
    · rw [q1 k' (fun z => hk' (List.mem_cons_of_mem _ z)), List.getElem?_set_ne (fun z => hk' (by subst z; exact List.mem_cons_self))]
    · cases i with
      | zero =>
        simp at e
        subst e
        exact ⟨c, h1, h2, by rw [q1 _ n1, List.getElem?_set_self hl]⟩
      | succ i =>
        obtain ⟨c', z1, z2, z3⟩ := q2 i k' (by simpa using e) (by rw [List.length_set]; exact hl)
        exact ⟨c', by rw [show j + (i + 1) = j + 1 + i by omega]; exact z1, z2, z3⟩
/-- what the callee leaves, seen by the caller -/
theorem io_back {G1 G' G2 : Gh} {S1 S0 S4 S5 : Store} {H' : Hp} {ks : List Nat} (hd : Held T G1 S1 H) (nd : ks.Nodup) (lt : ∀ k ∈ ks, k < S1.length) (hs : subS ks S1 = some S0) (st : Step ⟨G1.H, addrs G1 ks⟩ H G' H') (fz : Fzd T H' G' G2 S4) (hb : backW ks 0 S4 S1 = some S5) :
    Held T ⟨G2.H, G1.m⟩ S5 H' ∧ Step G1 H ⟨G2.H, G1.m⟩ H' ∧ ∀ a, a ∈ G1.m → a ∈ G2.m → a ∈ addrs G1 ks := by
  obtain ⟨bl, b1, b2⟩ := backW_get hb nd
  have sub : ∀ a, a ∈ addrs G1 ks → a ∈ G1.m := fun a ha => by
    unfold addrs at ha
    obtain ⟨k, hk, rfl⟩ := List.mem_map.mp ha
    have := lt k hk
    rw [← hd.len] at this
    rw [List.getD_eq_getElem?_getD, List.getElem?_eq_getElem this]
    exact List.getElem_mem _
  have le : Le G1 ⟨G2.H, G1.m⟩ := ⟨fun a o e => fz.st.le.H a o (st.le.H a o e), [], by simp⟩
  have fr : ∀ a o, H a = some o → a ∉ addrs G1 ks → H' a = some o ∧ a ∉ G2.m ∧ (G1.H a = none → G2.H a = none) := fun a o e n => by
    obtain ⟨x1, x2, x3⟩ := st.fr a o e n
    obtain ⟨y1, y2, y3⟩ := fz.st.fr a o x1 x2
    exact ⟨y1, y2, fun z => y3 (x3 z)⟩
  refine ⟨⟨fz.hd.ext, by rw [bl]; exact hd.len, hd.nd, fun k c a e1 e2 => ?_⟩, ⟨le, fun a o e n => ?_⟩, fun a ha hb' => ?_⟩
  · have e2' : G1.m[k]? = some a := e2
    by_cases hk : k ∈ ks
    · obtain ⟨i, hi⟩ := List.getElem?_of_mem hk
      obtain ⟨c', z1, z2, z3⟩ := b2 i k hi (lt k hk)
      rw [e1] at z3
      cases z3
      rw [Nat.zero_add] at z1
      have ha : G2.m[i]? = some a := by
        rw [fz.m]
        exact st.le.mget (addrs_get hi e2')
      exact cellRep_m (m := G2.m) (okC_nr z2) (fz.hd.cell i c a z1 ha)
    · rw [b1 k hk] at e1
      have x := hd.cell k c a e1 e2'
      obtain ⟨o, ho⟩ := x.there hd
      have na : a ∉ addrs G1 ks := fun z => by
        unfold addrs at z
        obtain ⟨k', hk', e⟩ := List.mem_map.mp z
        have := lt k' hk'
        rw [← hd.len] at this
        rw [List.getD_eq_getElem?_getD, List.getElem?_eq_getElem this] at e
        have e3 : G1.m[k']? = some a := by rw [List.getElem?_eq_getElem this]; exact congrArg some e
        exact hk ((nodup_get hd.nd e2' e3) ▸ hk')
      obtain ⟨f1, f2, f3⟩ := fr a o ho na
      exact x.le le f3 fun _ => f1.trans ho.symm
  · obtain ⟨f1, f2, f3⟩ := fr a o e (fun z => n (sub a z))
    exact ⟨f1, n, f3⟩
  · by_cases h : a ∈ addrs G1 ks
    · exact h
    · obtain ⟨k, hk⟩ := List.getElem?_of_mem ha
      have hl : k < S1.length := by rw [← hd.len]; exact (List.getElem?_eq_some_iff.mp hk).1
      obtain ⟨o, ho⟩ := (hd.cell k _ a (List.getElem?_eq_getElem hl) hk).there hd
      exact absurd hb' (fr a o ho h).2.1
theorem orStuck_pst {α β γ : Type} {rel : Gh → α → β → Prop} {G : Gh} {W : XK} {x : Option γ} {k : γ → R α} {Q : Gh → Store → α → β → Hp → Prop} (h : Pst T rel G H W (orStuck x k) Q) : ∃ a, x = some a ∧ Pst T rel G H W (k a) Q := by
  cases x with
  | none => exact h.elim
  | some a => exact ⟨a, rfl, h⟩
theorem excRep_m {Hg : Hp} {m m' : List Addr} {c : Nat} {fs : List D} {cls : Value} {dx : Option Addr} (n : nrDs fs = true) (h : ExcRep T ⟨Hg, m⟩ c fs cls dx) : ExcRep T ⟨Hg, m'⟩ c fs cls dx := by
  obtain ⟨h1, h2⟩ := h
  refine ⟨h1, ?_⟩
  rcases h2 with h2 | ⟨h3, a, vs, h4, h5, h6, h7⟩
  · exact .inl h2
  · exact .inr ⟨h3, a, vs, h4, h5, h6, reps_m n h7⟩
theorem io_ok {io : List Bool} {mr : Bool} {sem : List D → M D} {vs : List V} {Q : VK} {E : XK} (h : spOf T (callIO io mr sem) vs H Q E) : spOf T sem vs H Q E := by
  obtain ⟨G, S, ds, hd, hr, p⟩ := h
  unfold callIO at p
  obtain ⟨⟨as, ks, S1⟩, e1, p⟩ := orStuck_pst p
  obtain ⟨S0, e2, p⟩ := orStuck_pst p
  dsimp only at e2 p
  obtain ⟨G1, h1, -, nd, lt, ra⟩ := prep_ok hd hr e1 List.nodup_nil (fun k hk => by cases hk)
  refine ⟨⟨G1.H, addrs G1 ks⟩, S0, as, held_sub h1.hd nd e2, ra, ?_⟩
  cases e3 : sem as S0 with
  | stuck => rw [e3] at p; exact p.elim
  | exc c fs S' =>
    rw [e3] at p
    obtain ⟨⟨fs', S2⟩, e4, p2⟩ := orStuck_pst p
    obtain ⟨⟨S3, S4⟩, e5, p3⟩ := orStuck_pst p2
    clear p p2
    intro G' H' cls dx st hd' x
    obtain ⟨⟨u, S4'⟩, e6, e7⟩ := o1_some e5
    obtain ⟨S3', e8, e9⟩ := o1_some e7
    cases e9
    dsimp only at e6 e8 p3
    clear e5 e7
    obtain ⟨x1, x2⟩ := x
    rcases x2 with ⟨rfl, rfl⟩ | ⟨hne, a, ws, rfl, k1, k2, k3⟩
    · have e4' : fs' = [] ∧ S2 = S' := by
        simp only [fzDs, mapRs] at e4
        cases e4
        exact ⟨rfl, rfl⟩
      obtain ⟨rfl, rfl⟩ := e4'
      obtain ⟨G3, h3⟩ := cfzAll_ok hd' e6
      obtain ⟨b1, b2, _⟩ := io_back h1.hd nd lt e2 st h3 e8
      exact p3 _ _ _ _ (h1.st.trans b2) b1 ⟨x1, .inl ⟨rfl, rfl⟩⟩
    · obtain ⟨G2, h2, h4, h5⟩ := fzDs_ok hd' k3 e4
      obtain ⟨G3, h3⟩ := cfzAll_ok h2.hd e6
      obtain ⟨b1, b2, _⟩ := io_back h1.hd nd lt e2 st (h2.trans h3) e8
      refine p3 _ _ _ _ (h1.st.trans b2) b1 ⟨x1, .inr ⟨fun z => ?_, a, ws, rfl, (h2.trans h3).st.le.H _ _ k1, k2, reps_m (m := G3.m) h5 (h4.le h3.st.le)⟩⟩
      have l1 := h4.len
      have l2 := k3.len
      rw [z] at l1
      apply hne
      apply List.eq_nil_of_length_eq_zero
      rw [l2, ← l1]; rfl
  | ok d S' =>
    rw [e3] at p
    have gen : Pst T (Rep T) G H E (orStuck (fzD d S') fun q => orStuck (ioEnd ks S1 q.2) fun e => .ok q.1 e.1) (fun _ _ _ v H' => Q v H') → PV T ⟨G1.H, addrs G1 ks⟩ H E (.ok d S') Q := fun p => by
      obtain ⟨⟨d', S2⟩, e4, p⟩ := orStuck_pst p
      obtain ⟨⟨S3, S4⟩, e5, p⟩ := orStuck_pst p
      intro G' H' v st hd' r
      obtain ⟨⟨u, S4'⟩, e6, e7⟩ := o1_some e5
      obtain ⟨S3', e8, e9⟩ := o1_some e7
      cases e9
      obtain ⟨G2, h2, h4, h5⟩ := fzD_ok hd' r e4
      obtain ⟨G3, h3⟩ := cfzAll_ok h2.hd e6
      obtain ⟨b1, b2, _⟩ := io_back h1.hd nd lt e2 st (h2.trans h3) e8
      exact p _ _ _ (h1.st.trans b2) b1 (rep_m (m := G3.m) h5 (h4.le h3.st.le))
    dsimp only at p
    cases mr with
    | false => exact gen p
    | true =>
     cases d with
     | ref j =>
      dsimp only at p
      split at p
      · exact p.elim
      · rename_i hj
        obtain ⟨⟨u, S2⟩, e4, p⟩ := orStuck_pst p
        obtain ⟨⟨S3, S4⟩, e5, p⟩ := orStuck_pst p
        obtain ⟨c, e10, p⟩ := orStuck_pst p
        split at p
        · rename_i hc
          intro G' H' v st hd' r
          obtain ⟨⟨u, S4'⟩, e6, e7⟩ := o1_some e5
          obtain ⟨S3', e8, e9⟩ := o1_some e7
          cases e9
          simp only [Rep] at r
          obtain ⟨a, rfl, q⟩ := r
          obtain ⟨G2, h2, _⟩ := cfz_ok hd' e4
          obtain ⟨G3, h3⟩ := cfzAll_ok h2.hd e6
          have h23 := h2.trans h3
          obtain ⟨b1, b2, b3⟩ := io_back h1.hd nd lt e2 st h23 e8
          have q3 : G3.m[j]? = some a := by rw [h23.m]; exact q
          have na : a ∉ G1.m := fun z => by
            have := b3 a z (List.mem_of_getElem? q3)
            obtain ⟨i, hi⟩ := List.getElem?_of_mem this
            have hi' : G'.m[i]? = some a := st.le.mget hi
            have := nodup_get hd'.nd hi' q
            subst this
            have hl := (List.getElem?_eq_some_iff.mp hi).1
            unfold addrs at hl
            rw [List.length_map] at hl
            exact hj hl
          have cr : CellRep T (Gh.push ⟨G3.H, G1.m⟩ a) a H' c := cellRep_m (m := G3.m) (okC_nr hc) (h23.hd.cell j c a e10 q3)
          have a1 := b1.adoptC na cr
          refine p _ _ _ (h1.st.trans ⟨b2.le.trans Gh.push_le, fun b o e n => ?_⟩) a1 ?_
          · obtain ⟨f1, f2, f3⟩ := b2.fr b o e n
            refine ⟨f1, ?_, f3⟩
            show b ∉ G1.m ++ [a]
            rw [List.mem_append, List.mem_singleton]
            rintro (z | z)
            · exact f2 z
            · subst z
              have nb : b ∉ addrs G1 ks := fun z => n (by
                unfold addrs at z
                obtain ⟨k, hk, e⟩ := List.mem_map.mp z
                have := lt k hk
                rw [← h1.hd.len] at this
                rw [List.getD_eq_getElem?_getD, List.getElem?_eq_getElem this] at e
                have e : G1.m[k] = b := e
                exact e ▸ List.getElem_mem _)
              exact (st.fr b o e nb).2.1 (List.mem_of_getElem? q)
          · simp only [Rep]
            refine ⟨a, rfl, ?_⟩
            show (G1.m ++ [a])[S3.length]? = some a
            have : S3.length = G1.m.length := by have := b1.len; exact this.symm
            rw [this, List.getElem?_append_right (Nat.le_refl _), Nat.sub_self]; rfl
        · exact p.elim
     | non => exact gen p
     | bl _ => exact gen p
     | int _ => exact gen p
     | str _ => exact gen p
     | scr _ => exact gen p
     | lst _ => exact gen p
     | tup _ => exact gen p
     | dct _ _ => exact gen p
     | obj _ _ => exact gen p
     | exn _ _ => exact gen p
end
end Ev

set_option Elab.async false
set_option linter.all false
set_option maxRecDepth 100000
set_option maxHeartbeats 4000000
/-! EvO: from a def's text to what it promises; what the top has left. -/
namespace Ev
open PySem PySem.Spec PyProof.Rows L2

/-- a body's end is the call's -/
def bodyS (n len : Nat) (g : MS) : List D → M D := fun ds S => if ds.length = n then match g (ds.map some ++ List.replicate (len - n) none) S with
    | .nx _ S' => .ok .non S'
    | .rt d S' => .ok d S'
    | .exc c fs _ S' => .exc c fs S'
    | _ => .stuck
  else .stuck
/-- a def, a class under its name, as a context sees it -/
structure FnC (P : Program) (w : World) (K : PySem.W.Frag) (mg : Str → Option Value) (base : Heap) (T : Kit) (k : Nat) (x : Str) (sem : List D → M D) : Prop where
  ex : (∃ f fd ps, mg x = some (.ref f) ∧ PySem.W.keepIn K (.ref f) = true ∧ FnOk P w K mg base (L2.CX P w) k f fd ps (spOf T sem) ∧ Binds K fd ps []) ∨
    (∃ c f fd ps sem0 j, mg x = some (.ref (T.cl c)) ∧ Mk K (T.cl c) f ∧ FnOk P w K mg base (L2.CX P w) j f fd ps (spOf T sem0) ∧ Binds K fd ps [] ∧ j + 1 ≤ k ∧ MadeBy T c sem0 sem)
/-- a property, a method under its name -/
structure PrpC (P : Program) (w : World) (K : PySem.W.Frag) (mg : Str → Option Value) (base : Heap) (T : Kit) (k : Nat) (x : Str) (c : Nat) (sem : List D → M D) : Prop where
  cls : Cls K (T.cl c)
  ex : ∃ p g fd ps, PropOf K (T.cl c) x p g ∧ FnOk P w K mg base (L2.CX P w) k g fd ps (spOf T sem) ∧ Binds K fd ps []
structure MthC (P : Program) (w : World) (K : PySem.W.Frag) (mg : Str → Option Value) (base : Heap) (T : Kit) (k : Nat) (x : Str) (c : Nat) (sem : List D → M D) : Prop where
  cls : Cls K (T.cl c)
  ix : slotOf x (T.fn c) = none
  ex : ∃ f fd ps, Meth K (T.cl c) x f ∧ FnOk P w K mg base (L2.CX P w) k f fd ps (spOf T sem) ∧ Binds K fd ps []
/-- a class's own == -/
structure EqC (P : Program) (w : World) (K : PySem.W.Frag) (mg : Str → Option Value) (base : Heap) (T : Kit) (k : Nat) (c : Nat) (sem : List D → M D) : Prop where
  eq : ∃ f fd ps, PySem.W.findIn K (.ref (T.cl c)) "__eq__" = some (some (.ref f)) ∧ PySem.W.isFn K (.ref f) = true ∧ FnOk P w K mg base (L2.CX P w) k f fd ps (spOf T sem) ∧ Binds K fd ps []
  ne : PySem.W.findIn K (.ref (T.cl c)) "__ne__" = some (some (.builtin "object.__ne__"))
  ob : PySem.W.mroIn K (T.cl c) (.type "object") = some true
/-- .. called by names alone -/
structure FnKC (P : Program) (w : World) (K : PySem.W.Frag) (mg : Str → Option Value) (base : Heap) (T : Kit) (k : Nat) (x : Str) (ks : List Str) (sem : List D → M D) : Prop where
  ex : ∃ f fd ps perm sem0, mg x = some (.ref f) ∧ PySem.W.keepIn K (.ref f) = true ∧ FnOk P w K mg base (L2.CX P w) k f fd ps (spOf T sem0) ∧ KOnly K fd ps ks perm ∧ sem = fun ds => sem0 (byPerm perm ds)
abbrev blts : List Str := ["len", "abs", "int", "str", "list", "tuple", "sum", "all", "any", "max", "min", "sorted", "range", "zip", "enumerate", "isinstance", "bool", "set"]
/-- what a def's body finds about it -/
structure Around (P : Program) (w : World) (K : PySem.W.Frag) (mg : Str → Option Value) (base : Heap) (T : Kit) (k : Nat) (C : CC) : Prop where
  hK : K = T.K
  fns : ∀ x f, C.fns.lookup x = some f → FnC P w K mg base T k x f
  fnsM : ∀ x f, C.fnsM.lookup x = some f → FnC P w K mg base T k x f
  kfns : ∀ x ks f, C.kfns.lookup (x, ks) = some f → FnKC P w K mg base T k x ks f
  cons : ∀ x d, C.cons.lookup x = some d → ∃ u v, mg x = some u ∧ RelV v u ∧ ∀ G, Rep T G d v
  excs : ∀ x c, C.excs.lookup x = some c → ExcC K mg T x c
  excF : ∀ x q, C.excF.lookup x = some q → XMade P w K mg base T k x q.1 q.2
  xc : ∀ c ∈ C.xcs, XcOk K T c
  xk : ∀ x ch, C.hds.lookup x = some ch → mg x = some (.ref (T.cl ch)) ∧ (x == ("__debug__" : Str)) = false ∧ ∀ c ∈ C.xcs, PySem.W.kitOne K (.ref (T.cl c)) (.ref (T.cl ch)) = some (subX c ch) ∧ PySem.W.exmOne K (.ref (T.cl c)) (.ref (T.cl ch)) = some (subX c ch)
  xfl : ∀ x q, C.xfl.lookup x = some q → slotOf x (T.fn q.1) = some q.2 ∧ XcOk K T q.1
  eqs : ∀ c f, C.eqs.lookup c = some f → C.calm = true ∧ ∃ j, j + 1 ≤ k ∧ EqC P w K mg base T j c f
  iss : ∀ x c, C.iss.lookup x = some c → mg x = some (.ref (T.cl c)) ∧ (x == ("__debug__" : Str)) = false ∧ OisAt K T c
  iso : ∀ c ∈ C.iso, OisAt K T c
  cm : T.x = none ∧ C.hx = false
  flds : ∀ x q, C.flds.lookup x = some q → FldAt K T x q.1 q.2
  prps : ∀ x q, C.prps.lookup x = some q → ∃ j, j + 1 ≤ k ∧ PrpC P w K mg base T j x q.1 q.2
  prpsM : ∀ x q, C.prpsM.lookup x = some q → ∃ j, j + 1 ≤ k ∧ PrpC P w K mg base T j x q.1 q.2
  mths : ∀ x q, C.mths.lookup x = some q → MthC P w K mg base T k x q.1 q.2
  mthsM : ∀ x q, C.mthsM.lookup x = some q → MthC P w K mg base T k x q.1 q.2
  blt : ∀ x ∈ blts, mg x = none
section
variable {P : Program} {w : World} {K : PySem.W.Frag} {mg : Str → Option Value} {base : Heap} {T : Kit} {k : Nat}
theorem FnC.mono {j k : Nat} {x : Str} {sem : List D → M D} (F : FnC P w K mg base T j x sem) (h : j ≤ k) : FnC P w K mg base T k x sem := by
  rcases F.ex with ⟨f, fd, ps, h1, h2, h3, h4⟩ | ⟨c, f, fd, ps, s0, i, h1, h2, h3, h4, h5, h6⟩
  · exact ⟨.inl ⟨f, fd, ps, h1, h2, h3.mono h, h4⟩⟩
  · exact ⟨.inr ⟨c, f, fd, ps, s0, i, h1, h2, h3, h4, by omega, h6⟩⟩
theorem FnC.io {x : Str} {sem : List D → M D} (F : FnC P w K mg base T k x sem) (io : List Bool) (mr : Bool) : FnC P w K mg base T k x (callIO io mr sem) := by
  rcases F.ex with ⟨f, fd, ps, h1, h2, h3, h4⟩ | ⟨c, f, fd, ps, s0, i, h1, h2, h3, h4, h5, h6⟩
  · exact ⟨.inl ⟨f, fd, ps, h1, h2, h3.imp fun _ _ _ _ q => io_ok q, h4⟩⟩
  · exact ⟨.inr ⟨c, f, fd, ps, s0, i, h1, h2, h3, h4, h5, fun q => h6 (io_ok q)⟩⟩
theorem PrpC.mono {j k : Nat} {x : Str} {c : Nat} {sem : List D → M D} (F : PrpC P w K mg base T j x c sem) (h : j ≤ k) : PrpC P w K mg base T k x c sem := by
  obtain ⟨p, g, fd, ps, h1, h2, h3⟩ := F.ex
  exact ⟨F.cls, p, g, fd, ps, h1, h2.mono h, h3⟩
theorem PrpC.io {x : Str} {c : Nat} {sem : List D → M D} (F : PrpC P w K mg base T k x c sem) (io : List Bool) (mr : Bool) : PrpC P w K mg base T k x c (callIO io mr sem) := by
  obtain ⟨p, g, fd, ps, h1, h2, h3⟩ := F.ex
  exact ⟨F.cls, p, g, fd, ps, h1, h2.imp fun _ _ _ _ q => io_ok q, h3⟩
theorem EqC.mono {j k : Nat} {c : Nat} {sem : List D → M D} (F : EqC P w K mg base T j c sem) (h : j ≤ k) : EqC P w K mg base T k c sem := by
  obtain ⟨f, fd, ps, h1, h2, h3, h4⟩ := F.eq
  exact ⟨⟨f, fd, ps, h1, h2, h3.mono h, h4⟩, F.ne, F.ob⟩
theorem EqC.io {c : Nat} {sem : List D → M D} (F : EqC P w K mg base T k c sem) (io : List Bool) (mr : Bool) : EqC P w K mg base T k c (callIO io mr sem) := by
  obtain ⟨f, fd, ps, h1, h2, h3, h4⟩ := F.eq
  exact ⟨⟨f, fd, ps, h1, h2, h3.imp fun _ _ _ _ q => io_ok q, h4⟩, F.ne, F.ob⟩
theorem XMade.mono {j k : Nat} {x : Str} {c ar : Nat} (F : XMade P w K mg base T j x c ar) (h : j ≤ k) : XMade P w K mg base T k x c ar := by
  obtain ⟨fI, fd, ps, i, hi, r⟩ := F.ex
  exact ⟨F.g, F.db, F.len, F.cx, fI, fd, ps, i, by omega, r⟩
theorem MthC.mono {j k : Nat} {x : Str} {c : Nat} {sem : List D → M D} (F : MthC P w K mg base T j x c sem) (h : j ≤ k) : MthC P w K mg base T k x c sem := by
  obtain ⟨f, fd, ps, h1, h2, h3⟩ := F.ex
  exact ⟨F.cls, F.ix, f, fd, ps, h1, h2.mono h, h3⟩
theorem MthC.io {x : Str} {c : Nat} {sem : List D → M D} (F : MthC P w K mg base T k x c sem) (io : List Bool) (mr : Bool) : MthC P w K mg base T k x c (callIO io mr sem) := by
  obtain ⟨f, fd, ps, h1, h2, h3⟩ := F.ex
  exact ⟨F.cls, F.ix, f, fd, ps, h1, h2.imp fun _ _ _ _ q => io_ok q, h3⟩
/-- a weaker promise -/
def LeM {α : Type} (a b : R α) : Prop := a = .stuck ∨ a = b
theorem spOf_le {s s' : List D → M D} (h : ∀ ds S, LeM (s' ds S) (s ds S)) {vs : List V} {H : Hp} {Q : VK} {E : XK} (q : spOf T s' vs H Q E) : spOf T s vs H Q E := by
  obtain ⟨G, S, ds, hd, hr, p⟩ := q
  rcases h ds S with e | e
  · rw [e] at p; exact p.elim
  · rw [e] at p; exact ⟨G, S, ds, hd, hr, p⟩
theorem FnC.le {x : Str} {s s' : List D → M D} (F : FnC P w K mg base T k x s) (h : ∀ ds S, LeM (s' ds S) (s ds S)) : FnC P w K mg base T k x s' := by
  rcases F.ex with ⟨f, fd, ps, h1, h2, h3, h4⟩ | ⟨c, f, fd, ps, s0, i, h1, h2, h3, h4, h5, h6⟩
  · exact ⟨.inl ⟨f, fd, ps, h1, h2, h3.imp fun _ _ _ _ q => spOf_le h q, h4⟩⟩
  · exact ⟨.inr ⟨c, f, fd, ps, s0, i, h1, h2, h3, h4, h5, fun q => h6 (spOf_le h q)⟩⟩
theorem start_rep {G : Gh} {ds : List D} {vs : List V} {N : List Str} (r : Reps T G ds vs) : EnvRep T G (ds.map some ++ List.replicate (N.length - ds.length) none) (L2.start N vs) := by
  have hl := r.len
  refine ⟨by unfold L2.start; simp [hl], fun i d e => ?_⟩
  have hi : i < ds.length := by
    by_cases h : i < ds.length
    · exact h
    · rw [List.getElem?_append_right (by simpa using h), List.getElem?_replicate] at e
      split at e <;> cases e
  rw [List.getElem?_append_left (by simpa using hi), List.getElem?_map] at e
  cases e2 : ds[i]? with
  | none => rw [e2] at e; cases e
  | some d' =>
    rw [e2] at e
    cases e
    obtain ⟨v, h1, h2⟩ := reps_get r e2
    refine ⟨v, ?_, h2⟩
    unfold L2.start
    rw [List.getElem?_append_left (by simpa [← hl] using hi), List.getElem?_map, h1]; rfl
theorem room_un {A : PySem.Around} (r : Room k A) : A.units + 65 < cLine := by have := r.un; omega
/-- THE RULE for a def -/
theorem fn_data {x qual : Str} {st : Stmt} {f : Addr} {fd : FuncData} {N ps : List Str} {m n : Nat} {g : MS} {C : CC} (F : FunD K x qual (defArgs st) (defBody st) (defScope st) [] [] f fd) (Sc : FnScope N ps (defScope st)) (A : Around P w K mg base T k C)
    (hN : C.N = N) (hs : C.sc = defScope st) (hg : compSs C m n (defBody st) = some g) : FnOk P w K mg base (L2.CX P w) (k + 1) f fd ps (spOf T (bodyS ps.length N.length g)) := by
  refine F.ok Sc (fun vs H Q E h => ?_) (fun cdv Ar outer s H vs Q E hr h => ?_)
  · obtain ⟨G, S, ds, hd, r, p⟩ := h
    unfold bodyS at p
    split at p
    · rename_i hl
      rw [← r.len]; exact hl
    · exact p.elim
  · have tk : Takes (cxOf (L2.CX P w) P w K mg base N qual (defScope st) f cdv Ar outer s H E) (fun cls d _ H => E cls d H) := takes_of rfl rfl rfl rfl
    have cx : CtxOk C T k (cxOf (L2.CX P w) P w K mg base N qual (defScope st) f cdv Ar outer s H E) (fun cls d _ H => E cls d H) :=
      ⟨hN.symm, hs.symm, fun _ _ => rfl, A.hK, fun _ => hr, room_un hr, fun _ => ⟨rfl, A.cm.1⟩, fun h => (by rw [A.cm.2] at h; cases h), A.xc, A.xk, A.xfl, fun c f h => ⟨(A.eqs c f h).1, (A.eqs c f h).2.elim fun j z => ⟨j, z.1, z.2.eq, z.2.ne, z.2.ob⟩⟩, A.iss, A.iso, fun σ => passAt tk σ, hN ▸ Sc.nd, fun x f h => ⟨(A.fns x f h).ex⟩, fun x f h => ⟨(A.fnsM x f h).ex⟩, fun x ks f h => ⟨(A.kfns x ks f h).ex⟩, A.cons, A.flds, fun x q h => (A.prps x q h).elim fun j z => ⟨j, z.1, z.2.cls, z.2.ex⟩, fun x q h => (A.prpsM x q h).elim fun j z => ⟨j, z.1, z.2.cls, z.2.ex⟩, fun x q h => ⟨(A.mths x q h).cls, (A.mths x q h).ix, (A.mths x q h).ex⟩, fun x q h => ⟨(A.mthsM x q h).cls, (A.mthsM x q h).ix, (A.mthsM x q h).ex⟩, A.blt⟩
    have so : StOk C T k (cxOf (L2.CX P w) P w K mg base N qual (defScope st) f cdv Ar outer s H E) (fun cls d _ H => E cls d H) :=
      ⟨cx, passes_of rfl, fun _ => tk, fun _ => rfl, rfl, A.excs, A.excF⟩
    refine ⟨_, (compS_ok n so).2 _ _ hg, ?_⟩
    obtain ⟨G, S, ds, hd, r, p⟩ := h
    unfold bodyS at p
    split at p
    · rename_i hl
      refine ⟨G, S, _, start_rep r, hd, ?_⟩
      rw [← hl] at p
      cases e : g (ds.map some ++ List.replicate (N.length - ds.length) none) S with
      | nx env S' =>
        rw [e] at p
        exact fun G' H' σ' st hd' hE => p G' H' .non st hd' (by simp only [Rep])
      | rt d S' =>
        rw [e] at p
        exact fun G' H' v st hd' rv => p G' H' v st hd' rv
      | exc c fs env S' =>
        rw [e] at p
        exact fun G' H' σ' cls dx st hd' hE x => p G' H' cls dx st hd' x
      | bk env S' => rw [e] at p; exact p.elim
      | ct env S' => rw [e] at p; exact p.elim
      | stuck => rw [e] at p; exact p.elim
    · exact p.elim
/-- .. under its name -/
theorem fnC_of {x qual : Str} {st : Stmt} {f : Addr} {fd : FuncData} {N ps : List Str} {m n : Nat} {g : MS} {C : CC} (hm : mg x = some (.ref f)) (F : FunD K x qual (defArgs st) (defBody st) (defScope st) [] [] f fd) (Sc : FnScope N ps (defScope st)) (A : Around P w K mg base T k C)
    (hb : ∀ (kV doc pm : Value) (an : Option Addr) (cdv ct : Value) (us : List Value), us.length = ps.length → bindArgs (PySem.W.fnOf x qual (defArgs st) (defBody st) (defScope st) .none kV doc pm an cdv ct) ⟨us, []⟩ = pure (ps.zip us))
    (hN : C.N = N) (hs : C.sc = defScope st) (hg : compSs C m n (defBody st) = some g) : FnC P w K mg base T (k + 1) x (bodyS ps.length N.length g) :=
  ⟨.inl ⟨f, fd, ps, hm, F.kp, fn_data F Sc A hN hs hg, F.bindsN hb⟩⟩
end
end Ev

set_option Elab.async false
set_option linter.all false
set_option maxRecDepth 100000
set_option maxHeartbeats 4000000
/-! EvP: what the printed texts lean on: lookups, defs by names alone, defs that call themselves, a law's end. -/
namespace Ev
open PySem PySem.Spec PyProof.Rows L2

theorem lk_nil {α β : Type} [BEq α] {Pr : α → β → Prop} : ∀ (x : α) (g : β), ([] : List (α × β)).lookup x = some g → Pr x g := fun _ _ h => by cases h
theorem lk_cons {α β : Type} [BEq α] [LawfulBEq α] {Pr : α → β → Prop} {a : α} {b : β} {l : List (α × β)} (h : Pr a b) (r : ∀ x g, l.lookup x = some g → Pr x g) : ∀ (x : α) (g : β), ((a, b) :: l).lookup x = some g → Pr x g := fun x g e => by
  rw [List.lookup_cons] at e
  cases q : x == a with
  | true =>
    rw [q] at e
    cases e
    rw [eq_of_beq q]
    exact h
  | false =>
    rw [q] at e
    exact r x g e
theorem lk2_nil {α β γ : Type} [BEq α] [BEq β] {Pr : α → β → γ → Prop} : ∀ (x : α) (y : β) (g : γ), ([] : List ((α × β) × γ)).lookup (x, y) = some g → Pr x y g := fun _ _ _ h => by cases h
theorem lk2_cons {α β γ : Type} [BEq α] [LawfulBEq α] [BEq β] [LawfulBEq β] {Pr : α → β → γ → Prop} {a : α} {b : β} {c : γ} {l : List ((α × β) × γ)} (h : Pr a b c) (r : ∀ x y g, l.lookup (x, y) = some g → Pr x y g) :
    ∀ (x : α) (y : β) (g : γ), (((a, b), c) :: l).lookup (x, y) = some g → Pr x y g := fun x y g e => by
  rw [List.lookup_cons] at e
  cases q : (x, y) == (a, b) with
  | true =>
    rw [q] at e
    cases e
    have := eq_of_beq q
    cases this
    exact h
  | false =>
    rw [q] at e
    exact r x y g e
section
variable {P : Program} {w : World} {K : PySem.W.Frag} {mg : Str → Option Value} {base : Heap} {T : Kit} {k : Nat}
theorem FnKC.mono {j k : Nat} {x : Str} {ks : List Str} {sem : List D → M D} (F : FnKC P w K mg base T j x ks sem) (h : j ≤ k) : FnKC P w K mg base T k x ks sem := by
  obtain ⟨f, fd, ps, perm, s0, h1, h2, h3, h4, h5⟩ := F.ex
  exact ⟨f, fd, ps, perm, s0, h1, h2, h3.mono h, h4, h5⟩
/-- .. of a def that is called by names alone -/
theorem fnKC_of {x qual : Str} {st : Stmt} {f : Addr} {fd : FuncData} {N ps ks : List Str} {perm : List Nat} {m n : Nat} {g : MS} {C : CC} (hm : mg x = some (.ref f)) (F : FunD K x qual (defArgs st) (defBody st) (defScope st) [] [] f fd) (Sc : FnScope N ps (defScope st))
    (A : Around P w K mg base T k C) (io : List Bool) (mr : Bool)
    (hb : ∀ (kV doc pm : Value) (an : Option Addr) (cdv ct : Value) (ws : List Value), ws.length = ks.length → bindArgs (PySem.W.fnOf x qual (defArgs st) (defBody st) (defScope st) .none kV doc pm an cdv ct) ⟨[], ks.zip ws⟩ = pure (ps.zip (byPerm perm ws)))
    (hN : C.N = N) (hs : C.sc = defScope st) (hg : compSs C m n (defBody st) = some g) : FnKC P w K mg base T (k + 1) x ks (fun ds => callIO io mr (bodyS ps.length N.length g) (byPerm perm ds)) := by
  have F1 := fn_data (P := P) (w := w) (mg := mg) (base := base) F Sc A hN hs hg
  refine ⟨f, fd, ps, perm, callIO io mr (bodyS ps.length N.length g), hm, F.kp, F1.imp fun _ _ _ _ q => io_ok q, ⟨fun s ws _ hl => ?_⟩, rfl⟩
  obtain ⟨oc, od, dV, kV, doc, pm, an, cdv, ct, osl, rfl, lk, hcd, hD, hK⟩ := F.ex
  rcases hD with ⟨_, rfl⟩ | ⟨e, _⟩
  · exact .of_eq (hb kV doc pm an cdv ct ws hl)
  · exact absurd rfl e
/-- a def of which nothing is promised -/
theorem fnC_stuck {x qual : Str} {st : Stmt} {f : Addr} {fd : FuncData} {ps : List Str} (hm : mg x = some (.ref f)) (F : FunD K x qual (defArgs st) (defBody st) (defScope st) [] [] f fd)
    (hb : ∀ (kV doc pm : Value) (an : Option Addr) (cdv ct : Value) (us : List Value), us.length = ps.length → bindArgs (PySem.W.fnOf x qual (defArgs st) (defBody st) (defScope st) .none kV doc pm an cdv ct) ⟨us, []⟩ = pure (ps.zip us)) :
    FnC P w K mg base T k x (fun _ _ => .stuck) :=
  ⟨.inl ⟨f, fd, ps, hm, F.kp, ⟨fun vs H Q E h => (by obtain ⟨G, S, ds, _, _, p⟩ := h; exact p.elim), fun A outer s H args us vs Q E _ _ _ _ h => (by obtain ⟨G, S, ds, _, _, p⟩ := h; exact p.elim)⟩, F.bindsN hb⟩⟩
end
/-- a law by its sem -/
theorem law_by {l : PySem.W.OpenLaw} {n k : Nat} {q : Program} {loose : List Str} {XP : (Str → Option Value) → Heap → Prop} {YP : World → Heap → Prop} {d : DefRec} (hn : l.most = some n) (hn2 : n ≤ sizeLine) (hdf : d.params.defaults = []) (hr : Room k callerA)
    (F : ∀ (w : World) (mg : Str → Option Value) (fa : Addr) (h : Heap), YP w h → h.Ns mainGlobals mg → mg d.name = some (.ref fa) → ∃ (K : PySem.W.Frag) (T : Kit) (fd : FuncData) (x : Str) (sem : List D → M D), T.K = K ∧ x = "script" ∧
      K.In h ∧ (∀ (s : Shared) (u : Value), BindsTo s fd ⟨[u], []⟩ [("script", u)]) ∧ (∀ ns : List Int, ns.length ≤ n → ∃ S, sem [.scr ns] [] = .ok (.bl true) S) ∧
      ∀ base : Heap, K.In base → base.Ns mainGlobals mg → FnOk l.prog w K mg base (L2.CX l.prog w) k fa fd ["script"] (spOf T sem)) :
    PySem.W.WalkO q loose XP YP l.row.toRowW d [] (fun f vs => PySem.call f vs) := by
  refine Att.attach_call hn hdf fun w s₀ s₁ mg mb fa o pm cd doc a vs ns G Y ho hd hcd hmg hobj hints hlen hg => ?_
  obtain ⟨K, T, fd, x, sem, hK, _, KX, hb, hv, hF⟩ := F w mg fa _ Y G.T.g hmg
  refine law_call KX G.T.g G.T.b G.T.builtins G.T.nolimit hg hobj hints (Nat.le_trans hlen hn2) hr hF hb (fun H _ hS => ?_) fun H e s' h => ?_
  · obtain ⟨S, e⟩ := hv ns hlen
    refine ⟨⟨H, []⟩, [], [.scr ns], ⟨fun _ _ h => h, rfl, List.nodup_nil, fun k c a h => by simp at h⟩, reps_cons ?_ reps_nil, ?_⟩
    · simp only [Rep]
      exact ⟨a, rfl, by rw [hK]; exact hS⟩
    · rw [e]
      intro G' H' v _ _ r
      simpa only [Rep] using r
  · obtain ⟨_, _, _, _, _, _, _, _, _, _, _, _, z⟩ := h
    exact z.elim
end Ev

set_option Elab.async false
set_option linter.all false
set_option maxRecDepth 100000
set_option maxHeartbeats 4000000
/-! EvQ: to evaluate sems: equations for simp, loops, comprehensions, calls. -/
namespace Ev
open PySem PyProof.Rows L2

/-! ### results, one behind another -/
def rb {α β : Type} (r : R α) (k : α → Store → R β) : R β := match r with
  | .ok a S => k a S
  | .exc c fs S => .exc c fs S
  | .stuck => .stuck
@[simp] theorem rb_ok {α β : Type} {a : α} {S : Store} {k : α → Store → R β} : rb (.ok a S) k = k a S := (rfl)
@[simp] theorem rb_exc {α β : Type} {c : Nat} {fs : List D} {S : Store} {k : α → Store → R β} : rb (.exc c fs S) k = .exc c fs S := (rfl)
@[simp] theorem rb_stuck {α β : Type} {k : α → Store → R β} : rb .stuck k = .stuck := (rfl)
theorem rb_if {α β : Type} {c : Prop} [Decidable c] {a b : R α} {k : α → Store → R β} : rb (if c then a else b) k = if c then rb a k else rb b k := by split <;> rfl
@[simp] theorem bnd_ap {α β : Type} {m : M α} {f : α → M β} {S : Store} : bnd m f S = rb (m S) f := (rfl)
@[simp] theorem ret_ap {α : Type} {a : α} {S : Store} : ret a S = .ok a S := (rfl)
@[simp] theorem stk_ap {α : Type} {S : Store} : (stk : M α) S = .stuck := (rfl)
@[simp] theorem eB_ok {α : Type} {a : α} {S : Store} {env : Envd} {k : α → Store → RS} : eB (.ok a S) env k = k a S := (rfl)
@[simp] theorem eB_exc {α : Type} {c : Nat} {fs : List D} {S : Store} {env : Envd} {k : α → Store → RS} : eB (.exc c fs S) env k = .exc c fs env S := (rfl)
@[simp] theorem eB_stuck {α : Type} {env : Envd} {k : α → Store → RS} : eB .stuck env k = .stuck := (rfl)
def rs (r : RS) (g : MS) : RS := match r with
  | .nx env S => g env S
  | r => r
@[simp] theorem rs_nx {env : Envd} {S : Store} {g : MS} : rs (.nx env S) g = g env S := (rfl)
@[simp] theorem rs_rt {d : D} {S : Store} {g : MS} : rs (.rt d S) g = .rt d S := (rfl)
@[simp] theorem rs_bk {env : Envd} {S : Store} {g : MS} : rs (.bk env S) g = .bk env S := (rfl)
@[simp] theorem rs_ct {env : Envd} {S : Store} {g : MS} : rs (.ct env S) g = .ct env S := (rfl)
@[simp] theorem rs_exc {c : Nat} {fs : List D} {env : Envd} {S : Store} {g : MS} : rs (.exc c fs env S) g = .exc c fs env S := (rfl)
@[simp] theorem rs_stuck {g : MS} : rs .stuck g = .stuck := (rfl)
section
variable {env : Envd} {S : Store} {f g : MS} {fa fb : Envd → M D} {d e : D}
@[simp] theorem sSeq_ap : sSeq f g env S = rs (f env S) g := by unfold sSeq rs; cases f env S <;> rfl
@[simp] theorem sPass_ap : sPass env S = .nx env S := (rfl)
@[simp] theorem sBreak_ap : sBreak env S = .bk env S := (rfl)
@[simp] theorem sCont_ap : sCont env S = .ct env S := (rfl)
@[simp] theorem sExpr_ap : sExpr fa env S = eB (fa env S) env fun _ S' => .nx env S' := (rfl)
@[simp] theorem sRet_ap : sRet fa env S = eB (fa env S) env fun d S' => .rt d S' := (rfl)
@[simp] theorem sRetN_ap : sRetN env S = .rt .non S := (rfl)
@[simp] theorem sRaise_ap {c : Nat} : sRaise c env S = .exc c [] env S := (rfl)
@[simp] theorem sIfS_ap {c : Envd → M Bool} : sIfS c f g env S = eB (c env S) env fun b S' => if b = true then f env S' else g env S' := (rfl)
@[simp] theorem sAsg_nm {i : Nat} : sAsg (.nm i) fa env S = eB (fa env S) env fun d S' => .nx (env.set i (some d)) S' := (rfl)
@[simp] theorem sAsg_tp {is : List Nat} : sAsg (.tp is) fa env S = eB (fa env S) env fun d S' => eB ((Tg.tp is).bind d env S') env fun env' S'' => .nx env' S'' := (rfl)
@[simp] theorem sTup_ap {is : List Nat} {fl : Envd → M (List D)} : sTup is fl env S = eB (fl env S) env fun ds S' => if ds.length = is.length then .nx (setAll is ds env) S' else .stuck := (rfl)
@[simp] theorem sSet_ap {fo fi fe : Envd → M D} : sSet fo fi fe env S = eB (fe env S) env fun e S1 => eB (fo env S1) env fun d S2 => eB (fi env S2) env fun i S3 => eB (dSet d i e S3) env fun _ S4 => .nx env S4 := (rfl)
@[simp] theorem sFor_ap {t : Tg} {kill : List Nat} {it : Envd → M (List D)} : sFor t kill it f env S = eB (it env S) env fun items S1 => forL t kill f items env S1 := (rfl)
@[simp] theorem sC_ap : sC d env S = .ok d S := (rfl)
@[simp] theorem s1_ap {α β : Type} {h : Envd → M α} {k : α → M β} : s1 h k env S = rb (h env S) k := (rfl)
@[simp] theorem s2_ap {k : D → D → M D} : s2 fa fb k env S = rb (fa env S) fun d S1 => rb (fb env S1) fun e S2 => k d e S2 := (rfl)
def vr : Option (Option D) → M D
  | some (some d) => ret d
  | _ => stk
@[simp] theorem sVar_ap {i : Nat} : sVar i env S = vr env[i]? S := by
  unfold sVar vr
  cases env[i]? with
  | none => rfl
  | some o => cases o <;> rfl
@[simp] theorem vr_some : vr (some (some d)) S = .ok d S := (rfl)
@[simp] theorem sNil_ap : sNil env S = .ok [] S := (rfl)
@[simp] theorem sCons_ap {fl : Envd → M (List D)} : sCons fa fl env S = rb (fa env S) fun d S1 => rb (fl env S1) fun ds S2 => .ok (d :: ds) S2 := (rfl)
@[simp] theorem sTest_ap : sTest fa env S = rb (fa env S) asB := (rfl)
@[simp] theorem asB_ap {b : Bool} : asB (.bl b) S = .ok b S := (rfl)
@[simp] theorem sAnd_ap {a b : Envd → M Bool} : sAnd a b env S = rb (a env S) fun c S1 => if c = true then b env S1 else .ok false S1 := by
  unfold sAnd; simp only [bnd_ap]; congr; funext c S1; split <;> rfl
@[simp] theorem sOr_ap {a b : Envd → M Bool} : sOr a b env S = rb (a env S) fun c S1 => if c = true then .ok true S1 else b env S1 := by
  unfold sOr; simp only [bnd_ap]; congr; funext c S1; split <;> rfl
@[simp] theorem sNot_ap {a : Envd → M Bool} : sNot a env S = rb (a env S) fun c S1 => .ok (!c) S1 := (rfl)
@[simp] theorem vAnd_ap : vAnd fa fb env S = rb (fa env S) fun x S1 => rb (asB x S1) fun c S2 => if c = true then fb env S2 else .ok (.bl false) S2 := by
  unfold vAnd; simp only [bnd_ap]; congr; funext x S1; congr; funext c S2; split <;> rfl
@[simp] theorem vOr_ap : vOr fa fb env S = rb (fa env S) fun x S1 => rb (asB x S1) fun c S2 => if c = true then .ok (.bl true) S2 else fb env S2 := by
  unfold vOr; simp only [bnd_ap]; congr; funext x S1; congr; funext c S2; split <;> rfl
@[simp] theorem vNot_ap : vNot fa env S = rb (fa env S) fun x S1 => rb (asB x S1) fun c S2 => .ok (.bl (!c)) S2 := (rfl)
@[simp] theorem sIf_ap {α : Type} {c : Envd → M Bool} {h k : Envd → M α} : sIf c h k env S = rb (c env S) fun b S1 => if b = true then h env S1 else k env S1 := by
  unfold sIf; simp only [bnd_ap]; congr; funext b S1; split <;> rfl
@[simp] theorem sChain_ap {k k' : D → D → M D} {fc : Envd → M D} : sChain k k' fa fb fc env S = rb (fa env S) fun x S1 => rb (fb env S1) fun y S2 => rb (k x y S2) fun z S3 => rb (asB z S3) fun c S4 => if c = true then rb (fc env S4) (fun w => k' y w) else .ok (.bl false) S4 := by
  unfold sChain; simp only [bnd_ap]; congr; funext x S1; congr; funext y S2; congr; funext z S3; congr; funext c S4; split <;> rfl
@[simp] theorem sPart_none : sPart none env S = .ok none S := (rfl)
@[simp] theorem sPart_some : sPart (some fa) env S = rb (fa env S) asI := (rfl)
@[simp] theorem asI_int {i : Int} : asI (.int i) S = .ok (some i) S := (rfl)
@[simp] theorem sSl_ap {mu : Bool} {fl fh : Envd → M (Option Int)} : sSl mu fa fl fh env S = rb (fa env S) fun d S1 => rb (fl env S1) fun l S2 => rb (fh env S2) fun h S3 => dSl mu d l h S3 := (rfl)
@[simp] theorem sBM_ap {chk : D → M Unit} {fl : Envd → M (List D)} {k : D → List D → M D} : sBM chk fa fl k env S = rb (fa env S) fun d S1 => rb (chk d S1) fun _ S2 => rb (fl env S2) fun ds S3 => k d ds S3 := (rfl)
def wk (d : D) : M (List D) := fun S => match d with
  | .tup xs => .ok xs S
  | .str z => .ok (chars z) S
  | d => shz d S
@[simp] theorem iSeq_ap : iSeq fa env S = rb (fa env S) wk := (rfl)
def wkc (k : Nat) : Option Cell → M (List D)
  | some (.lst xs) => fun S => .ok xs (S.set k (.frz xs))
  | some (.frz xs) => fun S => .ok xs S
  | _ => stk
@[simp] theorem wk_tup {xs : List D} : wk (.tup xs) S = .ok xs S := (rfl)
@[simp] theorem wk_lst {xs : List D} : wk (.lst xs) S = .ok xs S := (rfl)
@[simp] theorem wk_str {z : Str} : wk (.str z) S = .ok (chars z) S := (rfl)
@[simp] theorem wk_ref {k : Nat} : wk (.ref k) S = wkc k S[k]? S := by
  unfold wk shz
  dsimp only
  unfold wkc
  cases S[k]? with
  | none => rfl
  | some c => cases c <;> rfl
@[simp] theorem wkc_lst {k : Nat} {xs : List D} : wkc k (some (.lst xs)) S = .ok xs (S.set k (.frz xs)) := (rfl)
@[simp] theorem wkc_frz {k : Nat} {xs : List D} : wkc k (some (.frz xs)) S = .ok xs S := (rfl)
def cl : Option Cell → Option (List D)
  | some (.lst xs) => some xs
  | some (.frz xs) => some xs
  | _ => none
@[simp] theorem seqL_ref {k : Nat} : seqL S (.ref k) = cl S[k]? := by
  simp only [seqL]
  unfold cl
  cases S[k]? with
  | none => rfl
  | some c => cases c <;> rfl
@[simp] theorem cl_lst {xs : List D} : cl (some (.lst xs)) = some xs := (rfl)
@[simp] theorem cl_frz {xs : List D} : cl (some (.frz xs)) = some xs := (rfl)
def ato : Option D → M D
  | some d => ret d
  | none => stk
@[simp] theorem ato_some : ato (some d) S = .ok d S := (rfl)
def ixo : Option (List D) → Int → M D
  | some xs, i => ato (L2.atI xs i)
  | none, _ => stk
@[simp] theorem ixo_some {xs : List D} {i : Int} : ixo (some xs) i S = ato (L2.atI xs i) S := (rfl)
@[simp] theorem dIx_tup {xs : List D} {i : Int} : dIx (.tup xs) (.int i) S = ato (L2.atI xs i) S := by
  unfold dIx ato
  dsimp only
  cases L2.atI xs i <;> rfl
@[simp] theorem dIx_lst {xs : List D} {i : Int} : dIx (.lst xs) (.int i) S = ato (L2.atI xs i) S := by
  unfold dIx ato
  simp only [seqL]
  cases L2.atI xs i <;> rfl
@[simp] theorem dIx_ref {k : Nat} {i : Int} : dIx (.ref k) (.int i) S = ixo (cl S[k]?) i S := by
  unfold dIx
  simp only [seqL_ref]
  cases cl S[k]? with
  | none => rfl
  | some xs =>
    simp only [ixo_some]
    unfold ato
    cases L2.atI xs i <;> rfl
def cko : Option (List D) → M Unit
  | some _ => ret ()
  | none => stk
@[simp] theorem cko_some {xs : List D} : cko (some xs) S = .ok () S := (rfl)
@[simp] theorem chkL_ap : chkL d S = cko (seqL S d) S := by
  unfold chkL cko
  cases seqL S d <;> rfl
@[simp] theorem chkS_str {z : Str} : chkS (.str z) S = .ok () S := (rfl)
@[simp] theorem mkchk_append : MK.chk .append = chkL := (rfl)
@[simp] theorem mkchk_extend : MK.chk .extend = chkL := (rfl)
@[simp] theorem mkchk_insert : MK.chk .insert = chkL := (rfl)
@[simp] theorem mkchk_popAt : MK.chk .popAt = chkL := (rfl)
@[simp] theorem mkchk_index : MK.chk .index = chkL := (rfl)
@[simp] theorem mkchk_split : MK.chk .split = chkS := (rfl)
@[simp] theorem mkchk_join : MK.chk .join = chkS := (rfl)
@[simp] theorem mkchk_starts : MK.chk .starts = chkS := (rfl)
def apc (k : Nat) (e : D) : Option Cell → M D
  | some (.lst xs) => fun S => if xs.length < sizeLine then .ok .non (S.set k (.lst (xs ++ [e]))) else .stuck
  | _ => stk
@[simp] theorem mk_append {mu : Bool} {k : Nat} : MK.sem mu .append (.ref k) [e] S = apc k e S[k]? S := by
  show dAppend (.ref k) [e] S = _
  unfold dAppend apc
  dsimp only
  cases S[k]? with
  | none => rfl
  | some c => cases c <;> rfl
theorem apc_ok {k : Nat} {xs : List D} (h : xs.length < sizeLine) : apc k e (some (.lst xs)) S = .ok .non (S.set k (.lst (xs ++ [e]))) := by unfold apc; simp [h]
def stc (k : Nat) (i : Int) (e : D) : Option Cell → M Unit
  | some (.lst xs) => fun S => match L2.ixN xs.length i with
    | some n => .ok () (S.set k (.lst (xs.set n e)))
    | none => .stuck
  | _ => stk
@[simp] theorem dSet_ref {k : Nat} {i : Int} : dSet (.ref k) (.int i) e S = stc k i e S[k]? S := by
  unfold dSet stc
  dsimp only
  cases S[k]? with
  | none => rfl
  | some c => cases c <;> rfl
theorem stc_ok {k n : Nat} {i : Int} {xs : List D} (h : L2.ixN xs.length i = some n) : stc k i e (some (.lst xs)) S = .ok () (S.set k (.lst (xs.set n e))) := by unfold stc; simp [h]
@[simp] theorem bk_len {mu : Bool} : BK.sem mu .len = dLen := (rfl)
@[simp] theorem bk_abs {mu : Bool} : BK.sem mu .abs = dAbs := (rfl)
@[simp] theorem bk_int {mu : Bool} : BK.sem mu .int = dInt := (rfl)
@[simp] theorem bk_str {mu : Bool} : BK.sem mu .str = dStr := (rfl)
@[simp] theorem bk_list {mu : Bool} : BK.sem mu .list = dList mu := (rfl)
@[simp] theorem bk_tuple {mu : Bool} : BK.sem mu .tuple = dTuple := (rfl)
@[simp] theorem bk_sum {mu : Bool} : BK.sem mu .sum = dSum := (rfl)
@[simp] theorem bk_all {mu : Bool} : BK.sem mu .all = dAll false := (rfl)
@[simp] theorem bk_any {mu : Bool} : BK.sem mu .any = dAll true := (rfl)
@[simp] theorem bk_max {mu : Bool} : BK.sem mu .max = dMax := (rfl)
@[simp] theorem bk_min {mu : Bool} : BK.sem mu .min = dMin := (rfl)
@[simp] theorem bk_sorted {mu : Bool} : BK.sem mu .sorted = dSorted mu := (rfl)
def lno : Option (List D) → M D
  | some xs => ret (.int xs.length)
  | none => stk
@[simp] theorem lno_some {xs : List D} : lno (some xs) S = .ok (.int xs.length) S := (rfl)
@[simp] theorem dLen_ref {k : Nat} : dLen [.ref k] S = lno (cl S[k]?) S := by
  unfold dLen
  simp only [seqL_ref]
  cases cl S[k]? <;> rfl
end

/-! ### operators -/
section
variable {S : Store} {mu : Bool} {i j : Int}
@[simp] theorem dAdd_int : dAdd mu (.int i) (.int j) S = .ok (.int (i + j)) S := (rfl)
@[simp] theorem dSub_int : dSub (.int i) (.int j) S = .ok (.int (i - j)) S := (rfl)
theorem dMul_int (h : i.natAbs.log2 + j.natAbs.log2 < 1000000) : dMul mu (.int i) (.int j) S = .ok (.int (i * j)) S := by unfold dMul; simp [h]
theorem dDiv_int (h : 0 < j) (h2 : j.natAbs.log2 < 9000) : dDiv (.int i) (.int j) S = .ok (.int (i / j)) S := by unfold dDiv; simp [h, h2]
theorem dMod_int (h : 0 < j) : dMod (.int i) (.int j) S = .ok (.int (i % j)) S := by unfold dMod; simp [h]
theorem dPow_int (h : 0 ≤ j) (h2 : (Builtin.Int.intBits i : Int) * j ≤ 2 ^ 27) : dPow (.int i) (.int j) S = .ok (.int (i ^ j.toNat)) S := by show (if 0 ≤ j ∧ (Builtin.Int.intBits i : Int) * j ≤ 2 ^ 27 then ret (D.int (i ^ j.toNat)) else stk) S = _; rw [if_pos ⟨h, h2⟩]; rfl
@[simp] theorem dNeg_int : dNeg (.int i) S = .ok (.int (-i)) S := (rfl)
@[simp] theorem dLt_int : cmpSem .Lt (.int i) (.int j) S = .ok (.bl (decide (i < j))) S := (rfl)
@[simp] theorem dLe_int : cmpSem .LtE (.int i) (.int j) S = .ok (.bl (decide (i ≤ j))) S := (rfl)
@[simp] theorem dGt_int : cmpSem .Gt (.int i) (.int j) S = .ok (.bl (decide (j < i))) S := (rfl)
@[simp] theorem dGe_int : cmpSem .GtE (.int i) (.int j) S = .ok (.bl (decide (j ≤ i))) S := (rfl)
@[simp] theorem dIsN_non {neg : Bool} : dIsN neg .non .non S = .ok (.bl (!neg)) S := (rfl)
@[simp] theorem dIsN_int {neg : Bool} : dIsN neg (.int i) .non S = .ok (.bl neg) S := (rfl)
@[simp] theorem dIsN_lst {neg : Bool} {xs : List D} : dIsN neg (.lst xs) .non S = .ok (.bl neg) S := (rfl)
@[simp] theorem dIsN_tup {neg : Bool} {xs : List D} : dIsN neg (.tup xs) .non S = .ok (.bl neg) S := (rfl)
theorem shaped_int : SeqAt.shaped (.int i) = true := rfl
@[simp] theorem dEq_int {neg : Bool} : dEq neg (.int i) (.int j) S = .ok (.bl (if neg = true then !decide (i = j) else decide (i = j))) S := by
  unfold dEq
  simp only [toP_non, toP_bl, toP_int, toP_str, toP_scr, toP_dct, toP_obj, toP_l0, toP_t0, toP_r0, toP_lst, toP_tup, toP_ref]
  rw [if_pos ⟨rfl, rfl⟩]
  have : PyData.eqv (.int i) (.int j) = decide (i = j) := by unfold PyData.eqv; rfl
  rw [this]
@[simp] theorem dEq_bl {neg a b : Bool} : dEq neg (.bl a) (.bl b) S = .ok (.bl (if neg = true then !(a == b) else a == b)) S := by
  unfold dEq
  simp only [toP_non, toP_bl, toP_int, toP_str, toP_scr, toP_dct, toP_obj, toP_l0, toP_t0, toP_r0, toP_lst, toP_tup, toP_ref]
  rw [if_pos ⟨rfl, rfl⟩]
  rfl
@[simp] theorem seqL_lst {xs : List D} : seqL S (.lst xs) = some xs := (rfl)
@[simp] theorem dLen_lst {xs : List D} : dLen [.lst xs] S = .ok (.int xs.length) S := (rfl)
@[simp] theorem dLen_tup {xs : List D} : dLen [.tup xs] S = .ok (.int xs.length) S := (rfl)
@[simp] theorem dInt_int : dInt [.int i] S = .ok (.int i) S := (rfl)
@[simp] theorem dInt_bl {b : Bool} : dInt [.bl b] S = .ok (.int (if b then 1 else 0)) S := (rfl)
@[simp] theorem dAbs_int : dAbs [.int i] S = .ok (.int (i.natAbs : Int)) S := (rfl)
@[simp] theorem dBits_int : dBits (.int i) S = .ok (.int (Builtin.Int.intBits i)) S := (rfl)
@[simp] theorem dMax_two : dMax [.int i, .int j] S = .ok (.int (max i j)) S := (rfl)
@[simp] theorem dMin_two : dMin [.int i, .int j] S = .ok (.int (min i j)) S := (rfl)
@[simp] theorem intsOf_map {xs : List Int} : intsOf (xs.map D.int) = some xs := by
  induction xs with
  | nil => rfl
  | cons x xs ih => simp [intsOf, ih]
@[simp] theorem blsOf_map {xs : List Bool} : blsOf (xs.map D.bl) = some xs := by
  induction xs with
  | nil => rfl
  | cons x xs ih => simp [blsOf, ih]
@[simp] theorem strsOf_map {xs : List Str} : strsOf (xs.map D.str) = some xs := by
  induction xs with
  | nil => rfl
  | cons x xs ih => simp [strsOf, ih]
@[simp] theorem dSum_ints {xs : List Int} : dSum [.lst (xs.map D.int)] S = .ok (.int xs.sum) S := by unfold dSum; simp
@[simp] theorem dAll_bls {any : Bool} {xs : List Bool} : dAll any [.lst (xs.map D.bl)] S = .ok (.bl (if any then xs.any id else xs.all id)) S := by unfold dAll; simp
theorem dMax_ints {xs : List Int} (h : xs ≠ []) : dMax [.lst (xs.map D.int)] S = .ok (.int (lmax xs)) S := by
  cases xs with
  | nil => exact absurd rfl h
  | cons x xs => unfold dMax; simp [intsOf]
theorem dMin_ints {xs : List Int} (h : xs ≠ []) : dMin [.lst (xs.map D.int)] S = .ok (.int (lmin xs)) S := by
  cases xs with
  | nil => exact absurd rfl h
  | cons x xs => unfold dMin; simp [intsOf]
@[simp] theorem newL_f {xs : List D} : newL false xs S = .ok (.lst xs) S := (rfl)
@[simp] theorem newL_t {xs : List D} : newL true xs S = .ok (.ref S.length) (S ++ [.lst xs]) := (rfl)
theorem newLs_ap {xs : List D} (h : xs.length ≤ sizeLine) : newLs mu xs S = newL mu xs S := by unfold newLs; rw [if_pos h]
theorem newTs_ap {xs : List D} (h : xs.length ≤ sizeLine) : newTs xs S = .ok (.tup xs) S := by unfold newTs; rw [if_pos h]; rfl
end
theorem sizeL : sizeLine = 16777216 := by exact sizeLine_eq

/-! ### loops -/
/-- what a turn of a loop leaves -/
def Turn (kill : List Nat) (Out : RS → Prop) (Nx : Envd → Store → Prop) (r : RS) : Prop := match r with
  | .nx e2 S2 => Nx (wipeD e2 kill) S2
  | .ct e2 S2 => Nx (wipeD e2 kill) S2
  | .bk e2 S2 => Out (.nx (wipeD e2 kill) S2)
  | r => Out r
theorem forL_gen {kill : List Nat} {body : MS} {t : Tg} (Out : RS → Prop) : ∀ {items : List D} {env : Envd} {S : Store} (Iv : Nat → Envd → Store → Prop), Iv 0 (wipeD env kill) S →
    (∀ (i : Nat) (d : D) (e : Envd) (S : Store), items[i]? = some d → Iv i e S → ∃ e1, t.bind d e S = .ok e1 S ∧ Turn kill Out (Iv (i + 1)) (body e1 S)) →
    (∀ e S, Iv items.length e S → Out (.nx e S)) → Out (forL t kill body items env S)
  | [], env, S, Iv, h0, hs, he => he _ _ h0
  | d :: ds, env, S, Iv, h0, hs, he => by
    obtain ⟨e1, b1, b2⟩ := hs 0 d _ _ rfl h0
    unfold forL
    rw [b1, eB_ok]
    have step : ∀ e2 S2, Iv 1 (wipeD e2 kill) S2 → Out (forL t kill body ds e2 S2) := fun e2 S2 h1 =>
      forL_gen Out (fun i => Iv (i + 1)) h1 (fun i d' e S hi h => hs (i + 1) d' e S (by simpa using hi) h) fun e S h => he e S h
    cases h : body e1 S with
    | nx e2 S2 => rw [h] at b2; exact step e2 S2 b2
    | ct e2 S2 => rw [h] at b2; exact step e2 S2 b2
    | bk e2 S2 => rw [h] at b2; exact b2
    | rt d' S2 => rw [h] at b2; exact b2
    | exc c fs e2 S2 => rw [h] at b2; exact b2
    | stuck => rw [h] at b2; exact b2
/-- a loop that runs to its end -/
theorem forL_run {kill : List Nat} {body : MS} {t : Tg} {items : List D} {env : Envd} {S : Store} (E : Nat → Envd) (St : Nat → Store) (h0 : wipeD env kill = E 0) (hS : S = St 0)
    (hs : ∀ (i : Nat) (d : D), items[i]? = some d → ∃ e1, t.bind d (E i) (St i) = .ok e1 (St i) ∧ ∃ e2, body e1 (St i) = .nx e2 (St (i + 1)) ∧ wipeD e2 kill = E (i + 1)) : forL t kill body items env S = .nx (E items.length) (St items.length) := by
  refine forL_gen (fun r => r = .nx (E items.length) (St items.length)) (fun i e S => e = E i ∧ S = St i) ⟨h0, hS⟩ (fun i d e S hi ⟨a, b⟩ => ?_) fun e S ⟨a, b⟩ => by rw [a, b]
  subst a; subst b
  obtain ⟨e1, b1, e2, b2, b3⟩ := hs i d hi
  refine ⟨e1, b1, ?_⟩
  rw [b2]
  exact ⟨b3, rfl⟩
theorem whileL_gen {kill : List Nat} {c : Envd → M Bool} {body : MS} (Out : RS → Prop) (Iv : Nat → Envd → Store → Prop) : ∀ {n m : Nat} {env : Envd} {S : Store}, m < n → Iv m (wipeD env kill) S →
    (∀ (m : Nat) (e : Envd) (S : Store), Iv m e S → ∃ b S1, c e S = .ok b S1 ∧ if b = true then Turn kill Out (fun e2 S2 => ∃ m', m' < m ∧ Iv m' e2 S2) (body e S1) else Out (.nx e S1)) → Out (whileL kill c body n env S)
  | 0, m, env, S, hm, _, _ => absurd hm (Nat.not_lt_zero _)
  | n + 1, m, env, S, hm, h0, hs => by
    obtain ⟨b, S1, b1, b2⟩ := hs m _ _ h0
    unfold whileL
    rw [b1, eB_ok]
    cases b with
    | false => simpa using b2
    | true =>
      simp only [if_true] at b2 ⊢
      cases h : body (wipeD env kill) S1 with
      | nx e2 S2 => rw [h] at b2; obtain ⟨m', l, q⟩ := b2; exact whileL_gen Out Iv (by omega) q hs
      | ct e2 S2 => rw [h] at b2; obtain ⟨m', l, q⟩ := b2; exact whileL_gen Out Iv (by omega) q hs
      | bk e2 S2 => rw [h] at b2; exact b2
      | rt d' S2 => rw [h] at b2; exact b2
      | exc c fs e2 S2 => rw [h] at b2; exact b2
      | stuck => rw [h] at b2; exact b2
/-! ### comprehensions -/
theorem compL_gen {t : Tg} {test : Envd → M Bool} {elt : Envd → M D} {env : Envd} (Rl : Nat → D → Prop) : ∀ {items : List D} {S : Store} (Iv : Nat → Store → Prop), Iv 0 S →
    (∀ (i : Nat) (d : D) (S : Store), items[i]? = some d → Iv i S → ∃ e1, t.bind d env S = .ok e1 S ∧ test e1 S = .ok true S ∧ ∃ y S2, elt e1 S = .ok y S2 ∧ Rl i y ∧ Iv (i + 1) S2) →
    ∃ ys S', compL t test elt env items S = .ok ys S' ∧ ys.length = items.length ∧ (∀ i y, ys[i]? = some y → Rl i y) ∧ Iv items.length S'
  | [], S, Iv, h0, hs => ⟨[], S, rfl, rfl, fun i y h => by simp at h, h0⟩
  | d :: ds, S, Iv, h0, hs => by
    obtain ⟨e1, b1, b2, y, S2, b3, b4, b5⟩ := hs 0 d S rfl h0
    obtain ⟨ys, S3, c1, c2, c3, c4⟩ := compL_gen (t := t) (test := test) (elt := elt) (env := env) (fun i => Rl (i + 1)) (items := ds) (fun i => Iv (i + 1)) b5 (fun i d' S hi h => hs (i + 1) d' S (by simpa using hi) h)
    refine ⟨y :: ys, S3, ?_, by simp [c2], fun i z h => ?_, c4⟩
    · unfold compL
      simp [b1, nx, b2, b3, c1]
    · cases i with
      | zero => simp at h; subst h; exact b4
      | succ i => exact c3 i z (by simpa using h)
/-- .. that change nothing -/
theorem compL_map {t : Tg} {test : Envd → M Bool} {elt : Envd → M D} {env : Envd} {S : Store} {f : D → D} : ∀ {items : List D},
    (∀ d ∈ items, ∃ e1, t.bind d env S = .ok e1 S ∧ test e1 S = .ok true S ∧ elt e1 S = .ok (f d) S) → compL t test elt env items S = .ok (items.map f) S
  | [], _ => rfl
  | d :: ds, h => by
    obtain ⟨e1, b1, b2, b3⟩ := h d List.mem_cons_self
    have ih := compL_map (t := t) (test := test) (elt := elt) (env := env) (S := S) (f := f) (items := ds) fun d' hd => h d' (List.mem_cons_of_mem _ hd)
    unfold compL
    simp [b1, nx, b2, b3, ih]
theorem compL_filter {t : Tg} {test : Envd → M Bool} {elt : Envd → M D} {env : Envd} {S : Store} {f : D → D} {p : D → Bool} : ∀ {items : List D},
    (∀ d ∈ items, ∃ e1, t.bind d env S = .ok e1 S ∧ test e1 S = .ok (p d) S ∧ (p d = true → elt e1 S = .ok (f d) S)) → compL t test elt env items S = .ok ((items.filter p).map f) S
  | [], _ => rfl
  | d :: ds, h => by
    obtain ⟨e1, b1, b2, b3⟩ := h d List.mem_cons_self
    have ih := compL_filter (t := t) (test := test) (elt := elt) (env := env) (S := S) (f := f) (p := p) (items := ds) fun d' hd => h d' (List.mem_cons_of_mem _ hd)
    unfold compL
    cases hp : p d with
    | true => simp [b1, nx, b2, hp, b3 hp, ih]
    | false => simp [b1, nx, b2, hp, ih]
/-- the same, by the items' own type -/
theorem compL_mapOf {α : Type} {t : Tg} {test : Envd → M Bool} {elt : Envd → M D} {env : Envd} {S : Store} {c : α → D} {f : α → D} {xs : List α}
    (h : ∀ x ∈ xs, ∃ e1, t.bind (c x) env S = .ok e1 S ∧ test e1 S = .ok true S ∧ elt e1 S = .ok (f x) S) : compL t test elt env (xs.map c) S = .ok (xs.map f) S := by
  induction xs with
  | nil => rfl
  | cons x xs ih =>
    obtain ⟨e1, b1, b2, b3⟩ := h x List.mem_cons_self
    rw [List.map_cons, List.map_cons]
    unfold compL
    simp [b1, nx, b2, b3, ih fun y hy => h y (List.mem_cons_of_mem _ hy)]
theorem compL_filtOf {α : Type} {t : Tg} {test : Envd → M Bool} {elt : Envd → M D} {env : Envd} {S : Store} {c : α → D} {f : α → D} {p : α → Bool} {xs : List α}
    (h : ∀ x ∈ xs, ∃ e1, t.bind (c x) env S = .ok e1 S ∧ test e1 S = .ok (p x) S ∧ (p x = true → elt e1 S = .ok (f x) S)) : compL t test elt env (xs.map c) S = .ok ((xs.filter p).map f) S := by
  induction xs with
  | nil => rfl
  | cons x xs ih =>
    obtain ⟨e1, b1, b2, b3⟩ := h x List.mem_cons_self
    have ih := ih fun y hy => h y (List.mem_cons_of_mem _ hy)
    rw [List.map_cons]
    unfold compL
    cases hp : p x with
    | true => simp [b1, nx, b2, hp, b3 hp, ih]
    | false => simp [b1, nx, b2, hp, ih]
theorem sComp_of {mu : Bool} {it : Envd → M (List D)} {t : Tg} {own : List Nat} {test : Envd → M Bool} {elt : Envd → M D} {env : Envd} {S S1 S2 : Store} {items ys : List D} (h1 : it env S = .ok items S1) (hz : items.length ≤ sizeLine)
    (h2 : compL t test elt (wipeD env own) items S1 = .ok ys S2) : sComp mu it t own test elt env S = newL mu ys S2 := by
  unfold sComp
  simp [h1, hz, nx, h2]
@[simp] theorem bind_nm {i : Nat} {d : D} {env : Envd} {S : Store} : (Tg.nm i).bind d env S = .ok (env.set i (some d)) S := (rfl)
@[simp] theorem bind_tp2 {i j : Nat} {a b : D} {env : Envd} {S : Store} : (Tg.tp [i, j]).bind (.tup [a, b]) env S = .ok (setAll [i, j] [a, b] env) S := (rfl)
@[simp] theorem bind_tp3 {i j k : Nat} {a b c : D} {env : Envd} {S : Store} : (Tg.tp [i, j, k]).bind (.tup [a, b, c]) env S = .ok (setAll [i, j, k] [a, b, c] env) S := (rfl)
@[simp] theorem bind_tp4 {i j k l : Nat} {a b c d : D} {env : Envd} {S : Store} : (Tg.tp [i, j, k, l]).bind (.tup [a, b, c, d]) env S = .ok (setAll [i, j, k, l] [a, b, c, d] env) S := (rfl)
@[simp] theorem setAll_nil {env : Envd} : setAll [] [] env = env := (rfl)
@[simp] theorem setAll_cons {i : Nat} {is : List Nat} {d : D} {ds : List D} {env : Envd} : setAll (i :: is) (d :: ds) env = setAll is ds (env.set i (some d)) := (rfl)
@[simp] theorem wipeD_nil {env : Envd} : wipeD env [] = env := (rfl)
@[simp] theorem wipeD_cons {env : Envd} {v : Nat} {vs : List Nat} : wipeD env (v :: vs) = (wipeD env vs).set v none := (rfl)

/-! ### calls -/
theorem prep_nr {ds : List D} {ks : List Nat} {S : Store} (h : nrDs ds = true) : prep [] ds ks S = some (ds, ks, S) := by
  induction ds with
  | nil => rfl
  | cons d ds ih =>
    simp only [nrDs, Bool.and_eq_true] at h
    have e : mapR (fzN 8) d S = some (d, S) := mapR_nr h.1
    unfold prep
    simp only [List.headD_nil, fzD, e, o1, List.tail_nil, ih h.2]
/-- a def that is handed plain data, and hands plain data back -/
theorem io_pure {n len : Nat} {g : MS} {ds : List D} {d d' : D} {S S' S'' : Store} (h : nrDs ds = true) (hl : ds.length = n) (hg : g (ds.map some ++ List.replicate (len - n) none) [] = .rt d S') (hf : fzD d S' = some (d', S'')) : callIO [] false (bodyS n len g) ds S = .ok d' S := by
  unfold callIO
  rw [prep_nr h]
  simp only [orStuck, subS]
  unfold bodyS
  rw [if_pos hl]
  simp only [hg, hf, ioEnd, cfzAll, List.length_nil, o1, backW]
theorem io_exc {n len : Nat} {g : MS} {ds : List D} {c : Nat} {env : Envd} {S S' : Store} (h : nrDs ds = true) (hl : ds.length = n) (hg : g (ds.map some ++ List.replicate (len - n) none) [] = .exc c [] env S') : callIO [] false (bodyS n len g) ds S = .exc c [] S := by
  unfold callIO
  rw [prep_nr h]
  simp only [orStuck, subS]
  unfold bodyS
  rw [if_pos hl]
  simp only [hg, fzDs, mapRs, ioEnd, cfzAll, List.length_nil, o1, backW]
theorem io_none {n len : Nat} {g : MS} {ds : List D} {env : Envd} {S S' : Store} (h : nrDs ds = true) (hl : ds.length = n) (hg : g (ds.map some ++ List.replicate (len - n) none) [] = .nx env S') : callIO [] false (bodyS n len g) ds S = .ok .non S := by
  unfold callIO
  rw [prep_nr h]
  simp only [orStuck, subS]
  unfold bodyS
  rw [if_pos hl]
  simp only [hg, fzD, mapR, ioEnd, cfzAll, List.length_nil, o1, backW]
theorem fz_nr {d : D} {S : Store} (h : nrD d = true) : fzD d S = some (d, S) := mapR_nr h
theorem fz_ref {k : Nat} {xs : List D} {S : Store} (h : S[k]? = some (.lst xs)) (n : nrDs xs = true) : fzD (.ref k) S = some (.lst xs, S.set k (.frz xs)) := by
  show fzN 8 k S = _
  unfold fzN fzC
  simp only [h, mapRs_nr n, o1]
@[simp] theorem nrDs_nil : nrDs [] = true := (rfl)
@[simp] theorem nrDs_cons {d : D} {ds : List D} : nrDs (d :: ds) = (nrD d && nrDs ds) := (rfl)
@[simp] theorem nrD_non : nrD .non = true := (rfl)
@[simp] theorem nrD_bl {b : Bool} : nrD (.bl b) = true := (rfl)
@[simp] theorem nrD_int {b : Int} : nrD (.int b) = true := (rfl)
@[simp] theorem nrD_str {b : Str} : nrD (.str b) = true := (rfl)
@[simp] theorem nrD_scr {b : List Int} : nrD (.scr b) = true := (rfl)
@[simp] theorem nrD_lst {b : List D} : nrD (.lst b) = nrDs b := (rfl)
@[simp] theorem nrD_tup {b : List D} : nrD (.tup b) = nrDs b := (rfl)
@[simp] theorem nrD_obj {c : Nat} {b : List D} : nrD (.obj c b) = nrDs b := (rfl)
@[simp] theorem nrDs_app {xs ys : List D} : nrDs (xs ++ ys) = (nrDs xs && nrDs ys) := by
  induction xs with
  | nil => simp
  | cons x xs ih => simp [ih, Bool.and_assoc]
@[simp] theorem nr_ints {xs : List Int} : nrDs (xs.map D.int) = true := by
  induction xs with
  | nil => rfl
  | cons x xs ih => simp [nrDs, nrD, ih]
theorem nr_all {xs : List D} (h : ∀ d ∈ xs, nrD d = true) : nrDs xs = true := by
  induction xs with
  | nil => rfl
  | cons x xs ih => simp [nrDs, h x List.mem_cons_self, ih fun d hd => h d (List.mem_cons_of_mem _ hd)]
end Ev

set_option Elab.async false
set_option linter.all false
set_option maxRecDepth 100000
set_option maxHeartbeats 1000000
/-! EvR: == of plain data. -/
namespace Ev
open PySem L2

mutual
def toPd : D → PyData
  | .bl b => .bool b
  | .int i => .int i
  | .str x => .str x
  | .lst xs => .list (toPds xs)
  | .tup xs => .tuple (toPds xs)
  | _ => .none
def toPds : List D → List PyData
  | [] => []
  | d :: ds => toPd d :: toPds ds
end
mutual
/-- plain, at most n deep -/
def plD : Nat → D → Bool
  | _, .non => true
  | _, .bl _ => true
  | _, .int _ => true
  | _, .str x => PyData.strOk x
  | n + 1, .lst xs => plDs n xs
  | n + 1, .tup xs => plDs n xs
  | _, _ => false
def plDs : Nat → List D → Bool
  | _, [] => true
  | n, d :: ds => plD n d && plDs n ds
end
mutual
theorem toP_pl {S : Store} : ∀ {n m : Nat} {d : D}, plD n d = true → n ≤ m → toP S m d = some (toPd d)
  | n, m, .non, h, l => by simp only [toP_non, toP_bl, toP_int, toP_str, toP_scr, toP_dct, toP_obj, toP_l0, toP_t0, toP_r0, toP_lst, toP_tup, toP_ref, toPd]
  | n, m, .bl b, h, l => by simp only [toP_non, toP_bl, toP_int, toP_str, toP_scr, toP_dct, toP_obj, toP_l0, toP_t0, toP_r0, toP_lst, toP_tup, toP_ref, toPd]
  | n, m, .int b, h, l => by simp only [toP_non, toP_bl, toP_int, toP_str, toP_scr, toP_dct, toP_obj, toP_l0, toP_t0, toP_r0, toP_lst, toP_tup, toP_ref, toPd]
  | n, m, .str b, h, l => by simp only [toP_non, toP_bl, toP_int, toP_str, toP_scr, toP_dct, toP_obj, toP_l0, toP_t0, toP_r0, toP_lst, toP_tup, toP_ref, toPd]
  | n + 1, m + 1, .lst xs, h, l => by
    simp only [plD] at h
    simp only [toP_non, toP_bl, toP_int, toP_str, toP_scr, toP_dct, toP_obj, toP_l0, toP_t0, toP_r0, toP_lst, toP_tup, toP_ref, toPd, toPs_pl h (by omega : n ≤ m), Option.map_some]
  | n + 1, m + 1, .tup xs, h, l => by
    simp only [plD] at h
    simp only [toP_non, toP_bl, toP_int, toP_str, toP_scr, toP_dct, toP_obj, toP_l0, toP_t0, toP_r0, toP_lst, toP_tup, toP_ref, toPd, toPs_pl h (by omega : n ≤ m), Option.map_some]
  | n + 1, 0, d, h, l => by omega
  | 0, m, .lst xs, h, l => by simp only [plD] at h; cases h
  | 0, m, .tup xs, h, l => by simp only [plD] at h; cases h
  | 0, m, .scr xs, h, l => by simp only [plD] at h; cases h
  | 0, m, .dct ks xs, h, l => by simp only [plD] at h; cases h
  | 0, m, .obj c xs, h, l => by simp only [plD] at h; cases h
  | 0, m, .ref k, h, l => by simp only [plD] at h; cases h
  | 0, m, .exn c xs, h, l => by simp only [plD] at h; cases h
  | n + 1, m + 1, .scr xs, h, l => by simp only [plD] at h; cases h
  | n + 1, m + 1, .dct ks xs, h, l => by simp only [plD] at h; cases h
  | n + 1, m + 1, .obj c xs, h, l => by simp only [plD] at h; cases h
  | n + 1, m + 1, .ref k, h, l => by simp only [plD] at h; cases h
  | n + 1, m + 1, .exn c xs, h, l => by simp only [plD] at h; cases h
theorem toPs_pl {S : Store} : ∀ {n m : Nat} {ds : List D}, plDs n ds = true → n ≤ m → toPs S m ds = some (toPds ds)
  | n, m, [], h, l => by simp only [toPs_nil, toPs_cons, toPds]
  | n, m, d :: ds, h, l => by
    simp only [plDs, Bool.and_eq_true] at h
    simp only [toPs_nil, toPs_cons, toPds, toP_pl h.1 l, toPs_pl h.2 l]
end
mutual
theorem lay_pl : ∀ {n : Nat} {d : D}, plD n d = true → (toPd d).canLay0 = true ∧ (toPd d).depth ≤ n
  | n, .non, h => by simp [toPd, PyData.canLay0, PyData.depth]
  | n, .bl b, h => by simp [toPd, PyData.canLay0, PyData.depth]
  | n, .int b, h => by simp [toPd, PyData.canLay0, PyData.depth]
  | n, .str b, h => by
    simp only [plD] at h
    simp [toPd, PyData.canLay0, PyData.depth, h]
  | n + 1, .lst xs, h => by
    simp only [plD] at h
    obtain ⟨h1, h2⟩ := lays_pl h
    simp only [toPd, PyData.canLay0, PyData.depth]
    exact ⟨h1, by omega⟩
  | n + 1, .tup xs, h => by
    simp only [plD] at h
    obtain ⟨h1, h2⟩ := lays_pl h
    simp only [toPd, PyData.canLay0, PyData.depth]
    exact ⟨h1, by omega⟩
  | 0, .lst xs, h => by simp only [plD] at h; cases h
  | 0, .tup xs, h => by simp only [plD] at h; cases h
  | n, .scr xs, h => by cases n <;> (simp only [plD] at h; cases h)
  | n, .dct ks xs, h => by cases n <;> (simp only [plD] at h; cases h)
  | n, .obj c xs, h => by cases n <;> (simp only [plD] at h; cases h)
  | n, .ref k, h => by cases n <;> (simp only [plD] at h; cases h)
  | n, .exn c xs, h => by cases n <;> (simp only [plD] at h; cases h)
theorem lays_pl : ∀ {n : Nat} {ds : List D}, plDs n ds = true → PyData.canLayAll0 (toPds ds) = true ∧ PyData.depthAll (toPds ds) ≤ n
  | n, [], h => by simp [toPds, PyData.canLayAll0, PyData.depthAll]
  | n, d :: ds, h => by
    simp only [plDs, Bool.and_eq_true] at h
    obtain ⟨a1, a2⟩ := lay_pl h.1
    obtain ⟨b1, b2⟩ := lays_pl h.2
    simp only [toPds, PyData.canLayAll0, PyData.depthAll, a1, b1, Bool.and_self]
    exact ⟨trivial, by omega⟩
end
theorem shaped_pl {n : Nat} {d : D} (h : plD n d = true) (l : n ≤ 60) : SeqAt.shaped (toPd d) = true := by
  obtain ⟨h1, h2⟩ := lay_pl h
  unfold SeqAt.shaped
  rw [h1, decide_eq_true (by omega)]; rfl
/-- == -/
def eqvD (d e : D) : Bool := PyData.eqv (toPd d) (toPd e)
theorem dEq_pl {n : Nat} {d e : D} {neg : Bool} {S : Store} (h1 : plD n d = true) (h2 : plD n e = true) (l : n ≤ 12) : dEq neg d e S = .ok (.bl (if neg = true then !eqvD d e else eqvD d e)) S := by
  unfold dEq
  simp only [toP_pl h1 l, toP_pl h2 l]
  rw [if_pos ⟨shaped_pl h1 (by omega), shaped_pl h2 (by omega)⟩]
  rfl
theorem dEq_refl {k : Nat} {xs : List D} {e : D} {neg : Bool} {S : Store} (h : cl S[k]? = some xs) : dEq neg (.ref k) e S = dEq neg (.lst xs) e S := by
  unfold dEq
  have : toP S 12 (.ref k) = toP S 12 (.lst xs) := by simp only [toP_non, toP_bl, toP_int, toP_str, toP_scr, toP_dct, toP_obj, toP_l0, toP_t0, toP_r0, toP_lst, toP_tup, toP_ref, seqL_ref, h]
  rw [this]
theorem dEq_refr {k : Nat} {xs : List D} {e : D} {neg : Bool} {S : Store} (h : cl S[k]? = some xs) : dEq neg e (.ref k) S = dEq neg e (.lst xs) S := by
  unfold dEq
  have : toP S 12 (.ref k) = toP S 12 (.lst xs) := by simp only [toP_non, toP_bl, toP_int, toP_str, toP_scr, toP_dct, toP_obj, toP_l0, toP_t0, toP_r0, toP_lst, toP_tup, toP_ref, seqL_ref, h]
  rw [this]
mutual
theorem eqvD_same : ∀ {n : Nat} {d : D}, plD n d = true → eqvD d d = true
  | n, .non, h => rfl
  | n, .bl b, h => by show (b == b) = true; simp
  | n, .int b, h => by show (b == b) = true; simp
  | n, .str b, h => by show (b == b) = true; simp
  | n + 1, .lst xs, h => by simp only [plD] at h; exact eqvDs_same h
  | n + 1, .tup xs, h => by simp only [plD] at h; exact eqvDs_same h
  | 0, .lst xs, h => by simp only [plD] at h; cases h
  | 0, .tup xs, h => by simp only [plD] at h; cases h
  | n, .scr xs, h => by cases n <;> (simp only [plD] at h; cases h)
  | n, .dct ks xs, h => by cases n <;> (simp only [plD] at h; cases h)
  | n, .obj c xs, h => by cases n <;> (simp only [plD] at h; cases h)
  | n, .ref k, h => by cases n <;> (simp only [plD] at h; cases h)
  | n, .exn c xs, h => by cases n <;> (simp only [plD] at h; cases h)
theorem eqvDs_same : ∀ {n : Nat} {ds : List D}, plDs n ds = true → PyData.eqvAll (toPds ds) (toPds ds) = true
  | n, [], h => by simp only [toPds, PyData.eqvAll]
  | n, d :: ds, h => by
    simp only [plDs, Bool.and_eq_true] at h
    have := eqvD_same h.1
    unfold eqvD at this
    simp only [toPds, PyData.eqvAll, this, eqvDs_same h.2, Bool.and_self]
end
@[simp] theorem eqvD_int {i j : Int} : eqvD (.int i) (.int j) = decide (i = j) := by
  show (i == j) = _
  by_cases h : i = j <;> simp [h]
@[simp] theorem eqvD_str {i j : Str} : eqvD (.str i) (.str j) = decide (i = j) := by
  show (i == j) = _
  by_cases h : i = j <;> simp [h]
@[simp] theorem eqvD_bl {i j : Bool} : eqvD (.bl i) (.bl j) = (i == j) := rfl
@[simp] theorem eqvD_non : eqvD .non .non = true := rfl
@[simp] theorem eqvD_ni {i : Int} : eqvD .non (.int i) = false := rfl
@[simp] theorem eqvD_in {i : Int} : eqvD (.int i) .non = false := rfl
theorem eqvAll_cons {d e : D} {ds es : List D} : PyData.eqvAll (toPds (d :: ds)) (toPds (e :: es)) = (eqvD d e && PyData.eqvAll (toPds ds) (toPds es)) := by simp only [toPds, PyData.eqvAll, eqvD]
theorem eqvD_lst {ds es : List D} : eqvD (.lst ds) (.lst es) = PyData.eqvAll (toPds ds) (toPds es) := rfl
theorem eqvD_tup {ds es : List D} : eqvD (.tup ds) (.tup es) = PyData.eqvAll (toPds ds) (toPds es) := rfl
theorem eqvAll_map {α : Type} [DecidableEq α] {c : α → D} (h : ∀ a b, eqvD (c a) (c b) = decide (a = b)) : ∀ {xs ys : List α}, PyData.eqvAll (toPds (xs.map c)) (toPds (ys.map c)) = decide (xs = ys)
  | [], [] => rfl
  | [], y :: ys => rfl
  | x :: xs, [] => rfl
  | x :: xs, y :: ys => by
    rw [List.map_cons, List.map_cons, eqvAll_cons, h, eqvAll_map h]
    by_cases e : x = y <;> by_cases f : xs = ys <;> simp [e, f]
/-- lists by their items -/
theorem eqvD_map {α : Type} [DecidableEq α] {c : α → D} (h : ∀ a b, eqvD (c a) (c b) = decide (a = b)) {xs ys : List α} : eqvD (.lst (xs.map c)) (.lst (ys.map c)) = decide (xs = ys) := eqvAll_map h
@[simp] theorem eqvD_ints {xs ys : List Int} : eqvD (.lst (xs.map D.int)) (.lst (ys.map D.int)) = decide (xs = ys) := eqvD_map fun _ _ => eqvD_int
theorem plDs_all {n : Nat} {ds : List D} (h : ∀ d ∈ ds, plD n d = true) : plDs n ds = true := by
  induction ds with
  | nil => simp only [plDs]
  | cons d ds ih => simp only [plDs, h d List.mem_cons_self, ih fun e he => h e (List.mem_cons_of_mem _ he), Bool.and_self]
theorem plDs_mem {n : Nat} {ds : List D} (h : plDs n ds = true) : ∀ d ∈ ds, plD n d = true := by
  induction ds with
  | nil => intro d hd; cases hd
  | cons e ds ih =>
    simp only [plDs, Bool.and_eq_true] at h
    intro d hd
    rcases List.mem_cons.mp hd with rfl | hd
    · exact h.1
    · exact ih h.2 d hd
theorem plD_int {n : Nat} {i : Int} : plD n (.int i) = true := by cases n <;> simp only [plD]
theorem plD_bl {n : Nat} {i : Bool} : plD n (.bl i) = true := by cases n <;> simp only [plD]
theorem plD_non {n : Nat} : plD n .non = true := by cases n <;> simp only [plD]
theorem plD_ints {n : Nat} {xs : List Int} : plD (n + 1) (.lst (xs.map D.int)) = true := by
  simp only [plD]
  exact plDs_all fun d hd => by
    obtain ⟨i, _, rfl⟩ := List.mem_map.mp hd
    exact plD_int
@[simp] theorem dEq_ints {xs ys : List Int} {neg : Bool} {S : Store} : dEq neg (.lst (xs.map D.int)) (.lst (ys.map D.int)) S = .ok (.bl (if neg = true then !decide (xs = ys) else decide (xs = ys))) S := by
  rw [dEq_pl (n := 1) plD_ints plD_ints (by decide), eqvD_ints]
@[simp] theorem dEq_ints_nil {xs : List Int} {neg : Bool} {S : Store} : dEq neg (.lst (xs.map D.int)) (.lst []) S = .ok (.bl (if neg = true then !decide (xs = []) else decide (xs = []))) S := dEq_ints (ys := [])
mutual
theorem plD_nr : ∀ {n : Nat} {d : D}, plD n d = true → nrD d = true
  | n, .non, h => rfl
  | n, .bl b, h => rfl
  | n, .int b, h => rfl
  | n, .str b, h => rfl
  | n + 1, .lst xs, h => by simp only [plD] at h; exact plDs_nr h
  | n + 1, .tup xs, h => by simp only [plD] at h; exact plDs_nr h
  | 0, .lst xs, h => by simp only [plD] at h; cases h
  | 0, .tup xs, h => by simp only [plD] at h; cases h
  | n, .scr xs, h => rfl
  | n, .dct ks xs, h => by cases n <;> (simp only [plD] at h; cases h)
  | n, .obj c xs, h => by cases n <;> (simp only [plD] at h; cases h)
  | n, .ref k, h => by cases n <;> (simp only [plD] at h; cases h)
  | n, .exn c xs, h => by cases n <;> (simp only [plD] at h; cases h)
theorem plDs_nr : ∀ {n : Nat} {ds : List D}, plDs n ds = true → nrDs ds = true
  | n, [], h => rfl
  | n, d :: ds, h => by
    simp only [plDs, Bool.and_eq_true] at h
    simp only [nrDs_cons, plD_nr h.1, plDs_nr h.2, Bool.and_self]
end
/-! isinstance -/
def isio (ks : List TK) : Option String → M D
  | some t => ret (.bl (ks.any fun k => isB t k.name))
  | none => stk
@[simp] theorem dIsi_ap {ks : List TK} {d : D} {S : Store} : dIsi ks d S = isio ks (tyD S d) S := by
  unfold dIsi isio
  cases tyD S d <;> rfl
@[simp] theorem isio_some {ks : List TK} {t : String} {S : Store} : isio ks (some t) S = .ok (.bl (ks.any fun k => isB t k.name)) S := (rfl)
@[simp] theorem tyD_non {S : Store} : tyD S .non = some "NoneType" := (rfl)
@[simp] theorem tyD_bl {S : Store} {b : Bool} : tyD S (.bl b) = some "bool" := (rfl)
@[simp] theorem tyD_int {S : Store} {b : Int} : tyD S (.int b) = some "int" := (rfl)
@[simp] theorem tyD_str {S : Store} {b : Str} : tyD S (.str b) = some "str" := (rfl)
@[simp] theorem tyD_scr {S : Store} {b : List Int} : tyD S (.scr b) = some "list" := (rfl)
@[simp] theorem tyD_lst {S : Store} {b : List D} : tyD S (.lst b) = some "list" := (rfl)
@[simp] theorem tyD_tup {S : Store} {b : List D} : tyD S (.tup b) = some "tuple" := (rfl)
@[simp] theorem dAll_rep {n : Nat} {S : Store} : dAll false [.lst (List.replicate n (.bl true))] S = .ok (.bl true) S := by
  have : List.replicate n (D.bl true) = (List.replicate n true).map D.bl := by simp
  rw [this, dAll_bls]
  simp
end Ev

set_option Elab.async false
set_option linter.all false
set_option maxRecDepth 100000
set_option maxHeartbeats 4000000
/-! EvU: a new object of an own class whose fields change no more. -/
namespace Ev
open PySem PySem.Spec PyProof.Rows L2

/-- C(..): its own __init__ on a new cell; the object is data then -/
def dMake (c : Nat) (sem0 : List D → M D) : List D → M D := fun ds S => orStuck (fzDs ds S) fun q => match sem0 (.ref 0 :: q.1) [.ins c []] with
  | .ok .non [.ins c' fs] => if c' = c ∧ nrDs fs = true then .ok (.obj c fs) q.2 else .stuck
  | .exc c' fs _ => if fs = [] then .exc c' [] q.2 else .stuck
  | _ => .stuck
section
variable {T : Kit}
theorem made_held {G1 : Gh} {S1 : Store} {H : Hp} {x dx : Addr} {c : Nat} (hd : Held T G1 S1 H) (hx : H x = none) (hdx : H dx = none) (ne : dx ≠ x) :
    Held T ⟨G1.H, [x]⟩ [.ins c []] (upd (upd H dx (.own x)) x (.ins (T.cl c) dx [])) := by
  have gx := hd.fresh hx
  refine ⟨fun a o e => ?_, rfl, by simp, fun k cc a e1 e2 => ?_⟩
  · have h := hd.ext a o e
    rw [upd_ne (ne_of_none h hx), upd_ne (ne_of_none h hdx)]; exact h
  · cases k with
    | succ k => simp at e1
    | zero =>
      have e2' : ([x] : List Addr)[0]? = some a := e2
      simp at e1 e2'
      subst e1; subst e2'
      simp only [CellRep]
      exact ⟨gx, dx, [], by rw [upd_same, List.zip_nil_right], Nat.zero_le _, reps_nil⟩
theorem made_step {G1 G2 : Gh} {H H2 : Hp} {x dx : Addr} {S1 : Store} {o : HO} (hd : Held T G1 S1 H) (hx : H x = none) (hdx : H dx = none) (ne : dx ≠ x) (st : Step ⟨G1.H, [x]⟩ (upd (upd H dx (.own x)) x o) G2 H2) :
    ∀ a u, H a = some u → a ∉ G1.m → H2 a = some u ∧ a ∉ G1.m ∧ (G1.H a = none → G2.H a = none) := fun a u e n => by
  have h1 : upd (upd H dx (.own x)) x o a = some u := by rw [upd_ne (ne_of_none e hx), upd_ne (ne_of_none e hdx)]; exact e
  obtain ⟨f1, f2, f3⟩ := st.fr a u h1 (by
    show a ∉ [x]
    rw [List.mem_singleton]
    exact ne_of_none e hx)
  exact ⟨f1, n, f3⟩
theorem made_by {c : Nat} {sem0 : List D → M D} : MadeBy T c sem0 (dMake c sem0) := by
  intro vs H Q E ⟨G, S, ds, hd, hr, p⟩ x dx hx hdx ne
  unfold dMake at p
  obtain ⟨⟨ds', S1⟩, e1, p⟩ := orStuck_pst p
  obtain ⟨G1, f1, r1, n1⟩ := fzDs_ok hd hr e1
  dsimp only at p
  have hd0 := made_held (c := c) f1.hd hx hdx ne
  refine ⟨⟨G1.H, [x]⟩, [.ins c []], .ref 0 :: ds', hd0, reps_cons (by simp only [Rep]; exact ⟨x, rfl, rfl⟩) (reps_m (m := G1.m) n1 r1), ?_⟩
  have back : ∀ {G2 : Gh} {H2 : Hp}, Step ⟨G1.H, [x]⟩ (upd (upd H dx (.own x)) x (.ins (T.cl c) dx [])) G2 H2 → (∀ a o, G2.H a = some o → H2 a = some o) → Held T ⟨G2.H, G1.m⟩ S1 H2 ∧ Step G H ⟨G2.H, G1.m⟩ H2 := fun {G2 H2} st ext => by
    have fr := made_step f1.hd hx hdx ne st
    have nx : ∀ {k : Nat} {a : Addr}, G1.m[k]? = some a → a ∉ ([x] : List Addr) := fun {k a} e z => by
      rw [List.mem_singleton] at z
      subst z
      exact f1.hd.notm hx (List.mem_of_getElem? e)
    have le : Le G1 ⟨G2.H, G1.m⟩ := ⟨fun a o e => st.le.H a o e, [], by simp⟩
    refine ⟨⟨ext, f1.hd.len, f1.hd.nd, fun k cc a e1 e2 => ?_⟩, f1.st.trans ⟨le, fr⟩⟩
    have cr := f1.hd.cell k cc a e1 e2
    obtain ⟨o, ho⟩ := cr.there f1.hd
    have h1 : upd (upd H dx (.own x)) x (.ins (T.cl c) dx []) a = some o := by rw [upd_ne (ne_of_none ho hx), upd_ne (ne_of_none ho hdx)]; exact ho
    obtain ⟨k1, _, k3⟩ := st.fr a o h1 (nx e2)
    exact cr.le le k3 fun _ => k1.trans ho.symm
  cases e2 : sem0 (.ref 0 :: ds') [.ins c []] with
  | stuck => rw [e2] at p; exact p.elim
  | exc c' fs S2 =>
    rw [e2] at p
    try dsimp only at p
    split at p
    · rename_i hf
      subst hf
      intro G2 H2 cls dx' st hd2 xr
      obtain ⟨b1, b2⟩ := back st hd2.ext
      obtain ⟨x1, x2⟩ := xr
      refine p _ _ _ _ b2 b1 ⟨x1, ?_⟩
      rcases x2 with h | ⟨h, _⟩
      · exact .inl h
      · exact absurd rfl h
    · exact p.elim
  | ok d S2 =>
    rw [e2] at p
    try dsimp only at p
    split at p
    · rename_i d0 S0 c' fs hq
      cases hq
      split at p
      · rename_i hc
        obtain ⟨hc, hn⟩ := hc
        subst hc
        intro G2 H2 v st hd2 rv
        simp only [Rep] at rv
        refine ⟨rv, ?_⟩
        obtain ⟨t, et⟩ := st.le.m
        have hm : G2.m[0]? = some x := by rw [et]; rfl
        have cr := hd2.cell 0 _ x rfl hm
        simp only [CellRep] at cr
        obtain ⟨c0, dx', ws, q1, q2, q3⟩ := cr
        obtain ⟨b1, b2⟩ := back st hd2.ext
        have nm : x ∉ G1.m := f1.hd.notm hx
        have ad := b1.adopt (p := x) q1 c0 nm
        refine p ((⟨G2.H, G1.m⟩ : Gh).put x (.ins (T.cl c') dx' ((T.fn c').zip ws))) H2 (.ref x) ⟨b2.le.trans (Gh.put_le c0), fun a o e n => ?_⟩ ad ?_
        · obtain ⟨k1, k2, k3⟩ := b2.fr a o e n
          refine ⟨k1, k2, fun z => ?_⟩
          show upd G2.H x _ a = none
          rw [upd_ne (ne_of_none e hx)]
          exact k3 z
        · simp only [Rep]
          refine ⟨x, dx', ws, rfl, upd_same, q2, ?_⟩
          exact (reps_m (m := G2.m) (m' := G1.m) hn q3).le (G := ⟨G2.H, G1.m⟩) (Gh.put_le c0)
      · exact p.elim
    · rename_i hq; cases hq
    · exact p.elim
end
end Ev

set_option Elab.async false
set_option linter.all false
set_option maxRecDepth 100000
set_option maxHeartbeats 4000000
/-! EvX: the head's Hook, widened: properties and their getters, exceptions with fields. -/
namespace Ev
open PySem PySem.Spec PyProof.Rows L2

/-- where a def stands: the module's name; a class's method; a class's getter -/
inductive Pth where
  | glo (x : Str) | mth (c m : Str) | get (c m : Str)
def prAd (K : PySem.W.Frag) (c m : Str) : Addr := match PySem.W.findIn K (.ref (He.ga K c)) m with
  | some (some (.ref p)) => p
  | _ => 0
def geAd (K : PySem.W.Frag) (c m : Str) : Addr := match PySem.W.recIn K (prAd K c m) "property" with
  | some (.ref g :: _) => g
  | _ => 0
def Pth.ad (K : PySem.W.Frag) : Pth → Addr
  | .glo x => He.ga K x
  | .mth c m => He.ma K (He.ga K c) m
  | .get c m => geAd K c m
structure DefX where
  at_ : Pth
  name : Str
  qual : Str
  params : Arguments
  body : List Stmt
  scope : Scope
def DefX.val (d : DefX) : He.FnW := some (d.name, d.qual, d.params, .stmts d.body, d.scope, mainGlobals, [], builtinsNs)
def fnX (K : PySem.W.Frag) (p : Pth) : He.FnW := match K.lookup (p.ad K) with
  | some o => (match o.data with
    | .func fd => some (fd.name, fd.qualname, fd.params, fd.body, fd.scope, fd.globals, fd.closure, fd.builtins)
    | _ => none)
  | none => none
def noDfl : Value → Bool
  | .none => true
  | _ => false
def DefX.ok (K : PySem.W.Frag) (d : DefX) : Bool := PySem.W.keepIn K (.ref (d.at_.ad K)) && (match K.lookup (d.at_.ad K) with
  | some o => (match o.data with
    | .func fd => PySem.W.codeIn K fd.code d.qual && noDfl fd.defaults
    | _ => false)
  | none => false)
theorem DefX.funD {K : PySem.W.Frag} {d : DefX} (e : fnX K d.at_ = d.val) (c : d.ok K = true) : ∃ fd, FunD K d.name d.qual d.params d.body d.scope [] [] (d.at_.ad K) fd := by
  unfold DefX.ok at c
  rw [Bool.and_eq_true] at c
  obtain ⟨kp, c⟩ := c
  unfold fnX at e
  cases q : K.lookup (d.at_.ad K) with
  | none => rw [q] at c; cases c
  | some o =>
    rw [q] at c e
    obtain ⟨oc, od, dt, osl⟩ := o
    cases dt with
    | func fd =>
      obtain ⟨n1, n2, n3, n4, n5, n6, n7, n8, n9, n10, n11, n12, n13, n14, n15⟩ := fd
      have e' : (some (n1, n2, n3, n4, n5, n6, n7, n15) : He.FnW) = d.val := e
      unfold DefX.val at e'
      simp only [Option.some.injEq, Prod.mk.injEq] at e'
      obtain ⟨rfl, rfl, rfl, rfl, rfl, rfl, rfl, rfl⟩ := e'
      have c' : (PySem.W.codeIn K n13 d.qual && noDfl n8) = true := c
      rw [Bool.and_eq_true] at c'
      refine ⟨_, ⟨oc, od, n8, n9, n10, n11, n12, n13, n14, osl, rfl, q, c'.1, ?_, .inl rfl⟩, kp⟩
      cases n8 <;> first | exact .inl ⟨rfl, rfl⟩ | (exact absurd c'.2 (by simp [noDfl]))
    | _ => cases c
/-- further facts -/
inductive Fx where
  | prop (c m : Str)
  | xini (c : Str)
  | xsee (c : Str) (fs : List Str)
  | xsub (c ch : Str) (b : Bool)
  | einit (c : Str)
  | eq (c : Str)
  | ois (c : Str)
/-- a class over ValueError with an __init__ of its own -/
def oexB (K : PySem.W.Frag) (C : Addr) : Bool := match K.lookup C with
  | some ⟨.type "type", _, .cls cd, sl⟩ => (match cd.mro, sl.toList with
    | .ref C' :: bm, [_, _, _, _, some (.builtin n), _] => C' == C && n == "ValueError.__new__" && !cd.hasDel && cd.hasDict && PySem.HandSPX.refsVE bm
    | _, _ => false)
  | _ => false
theorem oexB_ok {K : PySem.W.Frag} {C : Addr} (q : oexB K C = true) : ∃ nm q N bs bm sn sub ab col dd k0 k1 k2 k3 k5, K.lookup C = some (excClassObj nm q C N bs bm true sn sub ab col dd k0 k1 k2 k3 k5 "ValueError.__new__") ∧ PySem.HandSPX.refsVE bm = true := by
  unfold oexB at q
  split at q
  · rename_i dd cd sl ho
    split at q
    · rename_i C' bm k0 k1 k2 k3 n k5 hm hs
      simp only [Bool.and_eq_true, beq_iff_eq, Bool.not_eq_true'] at q
      obtain ⟨⟨⟨⟨rfl, rfl⟩, hdel⟩, hd⟩, hr⟩ := q
      obtain ⟨nm, bs, mro, ns, qn, hdd, sn, sub, ab, col, del⟩ := cd
      dsimp only at hm hdel hd
      subst hm hdel hd
      have hsl : sl = #[k0, k1, k2, k3, some (.builtin "ValueError.__new__"), k5] := by
        obtain ⟨l⟩ := sl
        simp only at hs
        rw [hs]
      subst hsl
      exact ⟨nm, qn, ns, bs, bm, sn, sub, ab, col, dd, k0, k1, k2, k3, k5, ho, hr⟩
    · cases q
  · cases q
def iniAd (K : PySem.W.Frag) (c : Str) : Addr := He.ma K (He.ga K c) "__init__"
def tkB (K : PySem.W.Frag) (C : Addr) : Bool := [TK.int, .bool, .str, .list, .tuple].all fun k => decide (PySem.W.kitOne K (.ref C) (.type k.name) = some false)
def Fx.ok (K : PySem.W.Frag) : Fx → Bool
  | .prop c m => decide (PySem.W.findIn K (.ref (He.ga K c)) m = some (some (.ref (prAd K c m)))) && (decide (PySem.W.specialIn K (.ref (prAd K c m)) "__get__" = some (some (.builtin "property.__get__"))) && (decide (PySem.W.takesIn K (.ref (prAd K c m)) = some true) && (match PySem.W.recIn K (prAd K c m) "property" with
    | some (.ref g :: _) => decide (g = geAd K c m)
    | _ => false)))
  | .xini c => oexB K (He.ga K c) && (decide (PySem.W.findIn K (.ref (He.ga K c)) "__setattr__" = some (some (.builtin "object.__setattr__"))) && (decide (PySem.W.subIn K (.ref (He.ga K c)) (.type "BaseException") = some true) && (decide (PySem.W.typeIn K (.ref (He.ga K c)) = some (.type "type")) &&
      (PySem.W.keepIn K (.ref (He.ga K c)) && (decide (PySem.W.findIn K (.ref (He.ga K c)) "__init__" = some (some (.ref (iniAd K c)))) && decide (PySem.W.typeIn K (.ref (iniAd K c)) = some (.type "function")))))))
  | .xsee c fs => decide (PySem.W.findIn K (.ref (He.ga K c)) "__getattribute__" = some (some (.builtin "BaseException.__getattribute__"))) && (decide (PySem.W.findIn K (.ref (He.ga K c)) "__getattr__" = some none) && (decide (PySem.W.subIn K (.ref (He.ga K c)) (.type "BaseException") = some true) && (PySem.W.hasDictIn K (He.ga K c) &&
      (decide (PySem.W.findIn K (.ref (He.ga K c)) "__class__" = some (some (.builtin "object.__class__"))) && (decide (PySem.W.specialIn K (.builtin "object.__class__") "__get__" = some (some (.builtin "getset_descriptor.__get__"))) && (decide (PySem.W.takesIn K (.builtin "object.__class__") = some true) &&
      (decide (PySem.W.mroIn K (He.ga K c) (.type "object") = some true) && fs.all fun f => decide (PySem.W.findIn K (.ref (He.ga K c)) f = some none))))))))
  | .xsub c ch b => decide (PySem.W.kitOne K (.ref (He.ga K c)) (.ref (He.ga K ch)) = some b) && decide (PySem.W.exmOne K (.ref (He.ga K c)) (.ref (He.ga K ch)) = some b)
  | .einit c => PySem.W.readsIn K (He.ga K c) (.type "type") && (decide (PySem.W.specialIn K (.ref (He.ga K c)) "__getattribute__" = some (some (.builtin "type.__getattribute__"))) && (match PySem.W.findCls K (.ref (He.ga K c)) (.type "type") "__init__" with
    | some (.val v) => decide (v = .builtin "ValueError.__init__")
    | _ => false))
  | .eq c => decide (PySem.W.findIn K (.ref (He.ga K c)) "__eq__" = some (some (.ref (He.ma K (He.ga K c) "__eq__")))) && (PySem.W.isFn K (.ref (He.ma K (He.ga K c) "__eq__")) && (decide (PySem.W.findIn K (.ref (He.ga K c)) "__ne__" = some (some (.builtin "object.__ne__"))) && decide (PySem.W.mroIn K (He.ga K c) (.type "object") = some true)))
  | .ois c => decide (PySem.W.findIn K (.ref (He.ga K c)) "__class__" = some (some (.builtin "object.__class__"))) && (decide (PySem.W.specialIn K (.builtin "object.__class__") "__get__" = some (some (.builtin "getset_descriptor.__get__"))) && (decide (PySem.W.takesIn K (.builtin "object.__class__") = some true) &&
      (decide (PySem.W.mroIn K (He.ga K c) (.type "object") = some true) && tkB K (He.ga K c))))
theorem prop_ok {K : PySem.W.Frag} {c m : Str} (h : (Fx.prop c m).ok K = true) : PropOf K (He.ga K c) m (prAd K c m) (geAd K c m) := by
  unfold Fx.ok at h
  rw [Bool.and_eq_true, Bool.and_eq_true, Bool.and_eq_true] at h
  obtain ⟨h1, h2, h3, h4⟩ := h
  refine ⟨of_decide_eq_true h1, of_decide_eq_true h2, of_decide_eq_true h3, ?_⟩
  split at h4
  · rename_i g rest hr
    exact ⟨rest, by rw [hr, of_decide_eq_true h4]⟩
  · cases h4
theorem xini_ok {K : PySem.W.Frag} {c : Str} (h : (Fx.xini c).ok K = true) : OexC K (He.ga K c) ∧ PySem.W.findIn K (.ref (He.ga K c)) "__init__" = some (some (.ref (iniAd K c))) ∧ PySem.W.typeIn K (.ref (iniAd K c)) = some (.type "function") := by
  simp only [Fx.ok, Bool.and_eq_true, decide_eq_true_eq] at h
  obtain ⟨h1, h2, h3, h4, h5, h6, h7⟩ := h
  exact ⟨⟨oexB_ok h1, h2, h3, h4, h5⟩, h6, h7⟩
theorem xsee_ok {K : PySem.W.Frag} {T : Kit} {c : Str} {fs : List Str} {n : Nat} (h : (Fx.xsee c fs).ok K = true) (hc : T.cl n = He.ga K c) (hf : T.fn n = fs) : XcOk K T n := by
  simp only [Fx.ok, Bool.and_eq_true, decide_eq_true_eq] at h
  obtain ⟨h1, h2, h3, h4, h5, h6, h7, h8, h9⟩ := h
  refine ⟨?_, ?_, fun f hm => ?_⟩
  · rw [hc]; exact ⟨h1, h2, h3, h4, h5, h6, h7, h8⟩
  · rw [hc]; exact ⟨h1, h2, h3, h4⟩
  · rw [hf] at hm
    rw [hc]
    exact of_decide_eq_true (List.all_eq_true.mp h9 f hm)
theorem xsub_ok {K : PySem.W.Frag} {c ch : Str} {b : Bool} (h : (Fx.xsub c ch b).ok K = true) : PySem.W.kitOne K (.ref (He.ga K c)) (.ref (He.ga K ch)) = some b ∧ PySem.W.exmOne K (.ref (He.ga K c)) (.ref (He.ga K ch)) = some b := by
  simp only [Fx.ok, Bool.and_eq_true, decide_eq_true_eq] at h
  exact h
theorem einit_ok {K : PySem.W.Frag} {c : Str} (h : (Fx.einit c).ok K = true) : EInit K (He.ga K c) := by
  simp only [Fx.ok, Bool.and_eq_true, decide_eq_true_eq] at h
  obtain ⟨h1, h2, h3⟩ := h
  refine ⟨h1, h2, ?_⟩
  split at h3
  · rename_i v hv
    rw [hv, of_decide_eq_true h3]
  · cases h3
theorem eqx_ok {K : PySem.W.Frag} {c : Str} (h : (Fx.eq c).ok K = true) : PySem.W.findIn K (.ref (He.ga K c)) "__eq__" = some (some (.ref (He.ma K (He.ga K c) "__eq__"))) ∧ PySem.W.isFn K (.ref (He.ma K (He.ga K c) "__eq__")) = true ∧
    PySem.W.findIn K (.ref (He.ga K c)) "__ne__" = some (some (.builtin "object.__ne__")) ∧ PySem.W.mroIn K (He.ga K c) (.type "object") = some true := by
  simp only [Fx.ok, Bool.and_eq_true, decide_eq_true_eq] at h
  exact h
theorem ois_ok {K : PySem.W.Frag} {T : Kit} {c : Str} {n : Nat} (h : (Fx.ois c).ok K = true) (cl : Cls K (He.ga K c)) (hc : T.cl n = He.ga K c) : OisAt K T n := by
  simp only [Fx.ok, Bool.and_eq_true, decide_eq_true_eq] at h
  obtain ⟨h1, h2, h3, h4, h5⟩ := h
  refine ⟨?_, ?_, h2, h3, ?_, fun k => ?_⟩
  · rw [hc]; exact cl
  · rw [hc]; exact h1
  · rw [hc]; exact h4
  · rw [hc]
    have := List.all_eq_true.mp h5 k (by cases k <;> simp)
    exact of_decide_eq_true this
/-- the statements of a class -/
def clsBody : Stmt → List Stmt
  | .ClassDef _ _ _ b _ _ _ _ _ _ _ => b
  | _ => []
abbrev AlX : Type := Bool × List He.FnW
def obsX (fa : List He.Fa) (fx : List Fx) (fn : List DefX) (K : PySem.W.Frag) : AlX := ((fa.all fun f => f.ok K) && ((fx.all fun f => f.ok K) && fn.all fun d => d.ok K), fn.map fun d => fnX K d.at_)
def valX (fn : List DefX) : AlX := (true, fn.map DefX.val)
def SaysX (fa : List He.Fa) (fx : List Fx) (fn : List DefX) (K : PySem.W.Frag) : Prop := obsX fa fx fn K = valX fn
def obsXG (n : Nat) (fa : List He.Fa) (fx : List Fx) (fn : List DefX) (g : Addr → Option Obj) : AlX := obsX fa fx fn (He.frG g (He.asD g n ++ [cStatics]))
def hookX (n : Nat) (fa : List He.Fa) (fx : List Fx) (fn : List DefX) : PySem.W.Hook where
  α := AlX
  obs := fun s => obsXG n fa fx fn s.heap.get?
  val := fun _ => valX fn
  says := fun _ h => ∃ K : PySem.W.Frag, K.In h ∧ SaysX fa fx fn K
  of := fun _ _ e => ⟨_, He.frG_in, e⟩
  keeps := fun _ _ _ ⟨K, hK, c⟩ k => ⟨K, PySem.W.Frag.In.keeps hK k, c⟩
theorem obsXG_eq {n : Nat} {fa : List He.Fa} {fx : List Fx} {fn : List DefX} {g : Addr → Option Obj} {s : Shared} (h : ∀ a, g a = s.heap.get? a) : obsXG n fa fx fn g = (hookX n fa fx fn).obs s := by
  rw [show g = s.heap.get? from funext h]; rfl
section
variable {fa : List He.Fa} {fx : List Fx} {fn : List DefX} {K : PySem.W.Frag}
theorem SaysX.all (c : SaysX fa fx fn K) : (fa.all fun f => f.ok K) = true ∧ (fx.all fun f => f.ok K) = true ∧ (fn.all fun d => d.ok K) = true := by
  have h : ((fa.all fun f => f.ok K) && ((fx.all fun f => f.ok K) && fn.all fun d => d.ok K)) = true := congrArg Prod.fst c
  rw [Bool.and_eq_true, Bool.and_eq_true] at h
  exact h
theorem SaysX.fact (c : SaysX fa fx fn K) (i : Nat) {f : He.Fa} (h : fa[i]? = some f := by rfl) : f.ok K = true := List.all_eq_true.mp c.all.1 f (List.mem_of_getElem? h)
theorem SaysX.fxt (c : SaysX fa fx fn K) (i : Nat) {f : Fx} (h : fx[i]? = some f := by rfl) : f.ok K = true := List.all_eq_true.mp c.all.2.1 f (List.mem_of_getElem? h)
theorem SaysX.def_ (c : SaysX fa fx fn K) (i : Nat) {d : DefX} (h : fn[i]? = some d := by rfl) : ∃ fd, FunD K d.name d.qual d.params d.body d.scope [] [] (d.at_.ad K) fd := by
  have e : fn.map (fun d => fnX K d.at_) = fn.map DefX.val := congrArg Prod.snd c
  have e2 : (fn.map fun d => fnX K d.at_)[i]? = (fn.map DefX.val)[i]? := by rw [e]
  rw [List.getElem?_map, List.getElem?_map, h] at e2
  exact DefX.funD (Option.some.inj e2) (List.all_eq_true.mp c.all.2.2 d (List.mem_of_getElem? h))
end
/-! ### properties, methods, classes, own == from their texts -/
section
variable {P : Program} {w : World} {K : PySem.W.Frag} {mg : Str → Option Value} {base : Heap} {T : Kit} {k : Nat}
abbrev HBind (x qual : Str) (st : Stmt) (ps : List Str) : Prop := ∀ (kV doc pm : Value) (an : Option Addr) (cdv ct : Value) (us : List Value), us.length = ps.length → bindArgs (PySem.W.fnOf x qual (defArgs st) (defBody st) (defScope st) .none kV doc pm an cdv ct) ⟨us, []⟩ = pure (ps.zip us)
theorem prpC_of {x nm qual : Str} {st : Stmt} {p f : Addr} {fd : FuncData} {N ps : List Str} {m n c : Nat} {g : MS} {C : CC} (cl : Cls K (T.cl c)) (hp : PropOf K (T.cl c) x p f) (F : FunD K nm qual (defArgs st) (defBody st) (defScope st) [] [] f fd) (Sc : FnScope N ps (defScope st)) (A : Around P w K mg base T k C)
    (hb : HBind nm qual st ps) (hN : C.N = N) (hs : C.sc = defScope st) (hg : compSs C m n (defBody st) = some g) : PrpC P w K mg base T (k + 1) x c (bodyS ps.length N.length g) :=
  ⟨cl, p, f, fd, ps, hp, fn_data F Sc A hN hs hg, F.bindsN hb⟩
theorem mthC_of {x nm qual : Str} {st : Stmt} {f : Addr} {fd : FuncData} {N ps : List Str} {m n c : Nat} {g : MS} {C : CC} (cl : Cls K (T.cl c)) (hs0 : slotOf x (T.fn c) = none) (hp : Meth K (T.cl c) x f) (F : FunD K nm qual (defArgs st) (defBody st) (defScope st) [] [] f fd) (Sc : FnScope N ps (defScope st)) (A : Around P w K mg base T k C)
    (hb : HBind nm qual st ps) (hN : C.N = N) (hs : C.sc = defScope st) (hg : compSs C m n (defBody st) = some g) : MthC P w K mg base T (k + 1) x c (bodyS ps.length N.length g) :=
  ⟨cl, hs0, f, fd, ps, hp, fn_data F Sc A hN hs hg, F.bindsN hb⟩
theorem clsC_of {x nm qual : Str} {st : Stmt} {f : Addr} {fd : FuncData} {N ps : List Str} {m n c : Nat} {g : MS} {C : CC} (hm : mg x = some (.ref (T.cl c))) (hp : Mk K (T.cl c) f) (F : FunD K nm qual (defArgs st) (defBody st) (defScope st) [] [] f fd) (Sc : FnScope N ps (defScope st)) (A : Around P w K mg base T k C)
    (hb : HBind nm qual st ps) (hN : C.N = N) (hs : C.sc = defScope st) (hg : compSs C m n (defBody st) = some g) : FnC P w K mg base T (k + 2) x (dMake c (bodyS ps.length N.length g)) :=
  ⟨.inr ⟨c, f, fd, ps, _, k + 1, hm, hp, fn_data F Sc A hN hs hg, F.bindsN hb, Nat.le_refl _, made_by⟩⟩
theorem eqC_of {nm qual : Str} {st : Stmt} {f : Addr} {fd : FuncData} {N ps : List Str} {m n c : Nat} {g : MS} {C : CC} (h1 : PySem.W.findIn K (.ref (T.cl c)) "__eq__" = some (some (.ref f))) (h2 : PySem.W.isFn K (.ref f) = true)
    (h3 : PySem.W.findIn K (.ref (T.cl c)) "__ne__" = some (some (.builtin "object.__ne__"))) (h4 : PySem.W.mroIn K (T.cl c) (.type "object") = some true) (F : FunD K nm qual (defArgs st) (defBody st) (defScope st) [] [] f fd) (Sc : FnScope N ps (defScope st)) (A : Around P w K mg base T k C)
    (hb : HBind nm qual st ps) (hN : C.N = N) (hs : C.sc = defScope st) (hg : compSs C m n (defBody st) = some g) : EqC P w K mg base T (k + 1) c (bodyS ps.length N.length g) :=
  ⟨⟨f, fd, ps, h1, h2, fn_data F Sc A hN hs hg, F.bindsN hb⟩, h3, h4⟩
theorem xmade1 {x nm qual sf f1 B : Str} {st : Stmt} {C0 f : Addr} {c : Nat} {fd : FuncData} (gx : mg x = some (.ref (T.cl c))) (dx : (x == ("__debug__" : Str)) = false) (h : OexC K (T.cl c) ∧ PySem.W.findIn K (.ref (T.cl c)) "__init__" = some (some (.ref f)) ∧ PySem.W.typeIn K (.ref f) = some (.type "function"))
    (F : FunD K nm qual (defArgs st) (defBody st) (defScope st) [] [] f fd) (Sc : FnScope [sf, f1] [sf, f1] (defScope st)) (hb : xinit1 sf f1 (defBody st) = some B) (hbi : HBind nm qual st [sf, f1])
    (hN : (okN (defScope st) sf && okN (defScope st) f1) = true) (gB : (defScope st).names.lookup B = some .globalImplicit) (dB : (B == ("__debug__" : Str)) = false) (mB : mg B = some (.ref C0)) (V : EInit K C0) (X : XcOk K T c) (hf : T.fn c = [f1]) : XMade P w K mg base T 2 x c 1 :=
  ⟨gx, dx, by rw [hf]; rfl, h.1, f, fd, _, 1, Nat.le_refl _, h.2.1, h.2.2, xinit1_ok (k := 0) F Sc hb hN gB dB mB V h.1 (X.no f1 (by rw [hf]; simp)) hf, F.bindsN hbi⟩
theorem xmade2 {x nm qual sf f1 f2 B : Str} {st : Stmt} {C0 f : Addr} {c : Nat} {fd : FuncData} (gx : mg x = some (.ref (T.cl c))) (dx : (x == ("__debug__" : Str)) = false) (h : OexC K (T.cl c) ∧ PySem.W.findIn K (.ref (T.cl c)) "__init__" = some (some (.ref f)) ∧ PySem.W.typeIn K (.ref f) = some (.type "function"))
    (F : FunD K nm qual (defArgs st) (defBody st) (defScope st) [] [] f fd) (Sc : FnScope [sf, f1, f2] [sf, f1, f2] (defScope st)) (hb : xinit2 sf f1 f2 (defBody st) = some B) (hbi : HBind nm qual st [sf, f1, f2])
    (hN : (okN (defScope st) sf && (okN (defScope st) f1 && okN (defScope st) f2)) = true) (gB : (defScope st).names.lookup B = some .globalImplicit) (dB : (B == ("__debug__" : Str)) = false) (mB : mg B = some (.ref C0)) (V : EInit K C0) (X : XcOk K T c) (hf : T.fn c = [f2, f1]) : XMade P w K mg base T 2 x c 2 :=
  ⟨gx, dx, by rw [hf]; rfl, h.1, f, fd, _, 1, Nat.le_refl _, h.2.1, h.2.2, xinit2_ok (k := 0) F Sc hb hN gB dB mB V h.1 (X.no f1 (by rw [hf]; simp)) (X.no f2 (by rw [hf]; simp)) hf, F.bindsN hbi⟩
end
end Ev

set_option Elab.async false
set_option linter.all false
set_option maxRecDepth 100000
set_option maxHeartbeats 1000000
/-! EvY: more equations for simp: fields, properties, objects, exceptions, slices. -/
namespace Ev
open PySem L2

section
variable {S : Store} {env : Envd} {d e : D} {xs ys fs : List D} {c i k : Nat} {mu : Bool}
@[simp] theorem dFld_obj : dFld c i (.obj c fs) S = ato fs[i]? S := by
  unfold dFld
  simp only [insOf, if_true]
  cases fs[i]? <;> rfl
def nxr {α : Type} (r : R α) : R α := match r with
  | .ok a S => .ok a S
  | _ => .stuck
@[simp] theorem nxr_ok {α : Type} {a : α} : nxr (.ok a S) = .ok a S := (rfl)
@[simp] theorem dPrp_obj {sem : List D → M D} : dPrp c sem (.obj c fs) S = nxr (sem [.obj c fs] S) := by
  unfold dPrp isI
  simp only [bnd_ap, insOf, if_true, rb_ok]
  unfold nx nxr
  cases sem [.obj c fs] S <;> rfl
@[simp] theorem sMth_ap {sem : List D → M D} {fo : Envd → M D} {fa : Envd → M (List D)} : sMth c sem fo fa env S = rb (fo env S) fun d S1 => rb (isI c d S1) fun _ S2 => rb (fa env S2) fun ds S3 => sem (d :: ds) S3 := (rfl)
@[simp] theorem isI_obj : isI c (.obj c fs) S = .ok () S := by unfold isI; simp [insOf]
@[simp] theorem dList_tup : dList mu [.tup xs] S = newL mu xs S := (rfl)
@[simp] theorem dList_lst : dList mu [.lst xs] S = newL mu xs S := (rfl)
@[simp] theorem dTuple_lst : dTuple [.lst xs] S = .ok (.tup xs) S := (rfl)
@[simp] theorem dTuple_tup : dTuple [.tup xs] S = .ok (.tup xs) S := (rfl)
@[simp] theorem dZip_ll : dZip [.lst xs, .lst ys] S = .ok (zipD xs ys) S := (rfl)
@[simp] theorem dZip_tt : dZip [.tup xs, .tup ys] S = .ok (zipD xs ys) S := (rfl)
@[simp] theorem shz_lst : shz (.lst xs) S = .ok xs S := (rfl)
theorem zipD_map {α β : Type} {f : α → D} {g : β → D} : ∀ {as : List α} {bs : List β}, zipD (as.map f) (bs.map g) = (as.zip bs).map fun p => .tup [f p.1, g p.2]
  | [], _ => by simp [zipD]
  | _ :: _, [] => by simp [zipD]
  | a :: as, b :: bs => by
    have := zipD_map (f := f) (g := g) (as := as) (bs := bs)
    unfold zipD at this ⊢
    simp only [List.map_cons, List.zip_cons_cons, this]
@[simp] theorem dSl_lst {lo hi : Option Int} : dSl mu (.lst xs) lo hi S = newL mu (cutD xs lo hi) S := (rfl)
@[simp] theorem dSl_tup {lo hi : Option Int} : dSl mu (.tup xs) lo hi S = .ok (.tup (cutD xs lo hi)) S := (rfl)
@[simp] theorem dRev_lst : dRev mu (.lst xs) S = newL mu xs.reverse S := (rfl)
theorem cut_tail : cutD xs (some 1) none = xs.tail := by
  unfold cutD HT.sIx
  cases xs with
  | nil => rfl
  | cons x xs => simp
theorem cut_init : cutD xs none (some (-1)) = xs.dropLast := by
  unfold cutD HT.sIx
  simp only [List.drop_zero, Nat.sub_zero]
  rw [if_pos (by decide), List.dropLast_eq_take]
  congr 1
  omega
theorem cut_from {i : Nat} (h : i ≤ xs.length) : cutD xs (some (i : Int)) none = xs.drop i := by
  unfold cutD
  rw [HT.sIx_nat, HT.sIx_none, Nat.min_eq_left h, List.take_of_length_le (by simp)]
theorem cut_to {i : Nat} : cutD xs none (some (i : Int)) = xs.take i := by
  unfold cutD
  rw [HT.sIx_nat, HT.sIx_none]
  simp only [List.drop_zero, Nat.sub_zero]
  by_cases h : i ≤ xs.length
  · rw [Nat.min_eq_left h]
  · rw [Nat.min_eq_right (by omega), List.take_of_length_le (Nat.le_refl _), List.take_of_length_le (by omega)]
theorem dMul_rep {x : D} {n : Nat} (h : n ≤ 16777216) : dMul mu (.lst [x]) (.int n) S = newL mu (List.replicate n x) S := by
  show (match seqL S (.lst [x]) with
    | some xs => if -(2 ^ 63) ≤ (n : Int) ∧ (n : Int) < 2 ^ 63 ∧ xs.length * (n : Int).toNat ≤ sizeLine then newL mu (List.replicate (n : Int).toNat xs).flatten S else .stuck
    | none => .stuck) = _
  simp only [seqL_lst, Int.toNat_natCast]
  rw [if_pos ⟨by omega, by omega, by rw [sizeLine_eq]; simp; omega⟩]
  simp
theorem dAdd_ll (h : xs.length + ys.length ≤ 16777216) : dAdd mu (.lst xs) (.lst ys) S = newL mu (xs ++ ys) S := by
  show (match seqL S (.lst xs), seqL S (.lst ys) with
    | some xs, some ys => if xs.length + ys.length ≤ sizeLine then newL mu (xs ++ ys) S else .stuck
    | _, _ => .stuck) = _
  simp only [seqL_lst]
  rw [if_pos (by rw [sizeLine_eq]; exact h)]
/-! exceptions -/
@[simp] theorem sRaiseF_ap {ar : Nat} {fa : Envd → M (List D)} : sRaiseF c ar fa env S = eB (fa env S) env fun ds S1 => if ds.length = ar ∧ 0 < ar ∧ ar ≤ 900 then .exc c ds.reverse env S1 else .stuck := (rfl)
def tryr (xcs : List Nat) (hs : List (Nat × MS)) : RS → RS
  | .exc c ds env1 S1 => if c ∈ xcs then match pickH hs c with
      | some f => noX (f env1 S1)
      | none => .exc c ds env1 S1
    else .stuck
  | r => r
@[simp] theorem sTryM_ap {xcs : List Nat} {hs : List (Nat × MS)} {fb : MS} : sTryM xcs hs fb env S = tryr xcs hs (fb env S) := by
  unfold sTryM tryr
  cases fb env S <;> rfl
@[simp] theorem tryr_nx {xcs : List Nat} {hs : List (Nat × MS)} : tryr xcs hs (.nx env S) = .nx env S := (rfl)
@[simp] theorem tryr_rt {xcs : List Nat} {hs : List (Nat × MS)} : tryr xcs hs (.rt d S) = .rt d S := (rfl)
theorem tryr_exc {xcs : List Nat} {hs : List (Nat × MS)} (h : c ∈ xcs) : tryr xcs hs (.exc c fs env S) = match pickH hs c with
      | some f => noX (f env S)
      | none => .exc c fs env S := if_pos h
@[simp] theorem noX_nx : noX (.nx env S) = .nx env S := (rfl)
@[simp] theorem noX_rt : noX (.rt d S) = .rt d S := (rfl)
theorem io_excF {n len : Nat} {g : MS} {ds : List D} {c : Nat} {fs : List D} {env : Envd} {S S' : Store} (h : nrDs ds = true) (hl : ds.length = n) (hg : g (ds.map some ++ List.replicate (len - n) none) [] = .exc c fs env S') (hf : nrDs fs = true) : callIO [] false (bodyS n len g) ds S = .exc c fs S := by
  unfold callIO
  rw [prep_nr h]
  simp only [orStuck, subS]
  unfold bodyS
  rw [if_pos hl]
  simp only [hg, fzDs, mapRs_nr hf, ioEnd, cfzAll, List.length_nil, o1, backW]
/-! objects -/
def ptc (k c i : Nat) (v : D) : Option Cell → M Unit
  | some (.ins c' fs) => fun S => if c' = c ∧ fs.length < 1000 then (if i < fs.length then .ok () (S.set k (.ins c (fs.set i v))) else if i = fs.length then .ok () (S.set k (.ins c (fs ++ [v]))) else .stuck) else .stuck
  | _ => stk
@[simp] theorem sPut_ap {fo fe : Envd → M D} : sPut c i fo fe env S = eB (fe env S) env fun v S1 => eB (fo env S1) env fun d S2 => eB (dPut c i d v S2) env fun _ S3 => .nx env S3 := (rfl)
@[simp] theorem dPut_ref {v : D} : dPut c i (.ref k) v S = ptc k c i v S[k]? S := by
  unfold dPut ptc
  dsimp only
  cases S[k]? with
  | none => rfl
  | some c => cases c <;> rfl
theorem ptc_new {v : D} (h : i = fs.length) (l : fs.length < 1000) : ptc k c i v (some (.ins c fs)) S = .ok () (S.set k (.ins c (fs ++ [v]))) := by
  unfold ptc
  dsimp only
  rw [if_pos ⟨rfl, l⟩, if_neg (by omega), if_pos h]
/-- an object made of plain data -/
theorem make_ok {n len : Nat} {g : MS} {ds : List D} {env : Envd} {fs : List D} (h : nrDs ds = true) (hl : (D.ref 0 :: ds).length = n) (hg : g ((D.ref 0 :: ds).map some ++ List.replicate (len - n) none) [.ins c []] = .nx env [.ins c fs]) (hf : nrDs fs = true) :
    dMake c (bodyS n len g) ds S = .ok (.obj c fs) S := by
  unfold dMake
  simp only [fzDs, mapRs_nr h, orStuck]
  unfold bodyS
  rw [if_pos hl]
  simp only [hg]
  rw [if_pos ⟨trivial, hf⟩]
theorem make_exc {n len : Nat} {g : MS} {ds : List D} {env : Envd} {c2 : Nat} {S2 : Store} (h : nrDs ds = true) (hl : (D.ref 0 :: ds).length = n) (hg : g ((D.ref 0 :: ds).map some ++ List.replicate (len - n) none) [.ins c []] = .exc c2 [] env S2) :
    dMake c (bodyS n len g) ds S = .exc c2 [] S := by
  unfold dMake
  simp only [fzDs, mapRs_nr h, orStuck]
  unfold bodyS
  rw [if_pos hl]
  simp only [hg, if_true]
@[simp] theorem dRange3_int {i j : Int} : dRange3 [.int i, .int j, .int (-1)] S = if (okR i && okR j) = true then .ok (downD i (i - j).toNat) S else .stuck := by
  unfold dRange3
  simp
theorem downD_get {hi : Int} {n i : Nat} {d : D} (h : (downD hi n)[i]? = some d) : d = .int (hi - i) ∧ i < n := by
  unfold downD at h
  rw [List.getElem?_map] at h
  by_cases hi' : i < n
  · rw [List.getElem?_range hi'] at h
    cases h
    exact ⟨rfl, hi'⟩
  · rw [List.getElem?_eq_none (by simpa using hi')] at h
    cases h
/-! lists of one's own that are handed to a def are frozen -/
theorem fz_ref' {xs : List D} (h : S[k]? = some (.frz xs)) (n : nrDs xs = true) : fzD (.ref k) S = some (.lst xs, S) := by
  show fzN 8 k S = _
  unfold fzN fzC
  simp only [h, mapRs_nr n, o1]
theorem prep_frz {ds : List D} {ks : List Nat} {xs : List D} (h : S[k]? = some (.lst xs)) (n : nrDs xs = true) : prep [] (.ref k :: ds) ks S = prep [] (.lst xs :: ds) ks (S.set k (.frz xs)) := by
  have a1 := fz_ref h n
  have a2 : fzD (.lst xs) (S.set k (.frz xs)) = some (.lst xs, S.set k (.frz xs)) := fz_nr (by simpa using n)
  unfold prep
  simp only [List.headD_nil, a1, a2, o1]
theorem prep_frz' {ds : List D} {ks : List Nat} {xs : List D} (h : S[k]? = some (.frz xs)) (n : nrDs xs = true) : prep [] (.ref k :: ds) ks S = prep [] (.lst xs :: ds) ks S := by
  have a1 := fz_ref' h n
  have a2 : fzD (.lst xs) S = some (.lst xs, S) := fz_nr (by simpa using n)
  unfold prep
  simp only [List.headD_nil, a1, a2, o1]
theorem prep_cons {ds : List D} {ks : List Nat} (h : nrD d = true) : prep [] (d :: ds) ks S = o1 (prep [] ds ks S) fun q => some (d :: q.1, q.2) := by
  conv => lhs; unfold prep
  simp only [List.headD_nil, fz_nr h, o1, List.tail_nil]
theorem io_frz {mr : Bool} {sem : List D → M D} {xs ds : List D} (h : S[k]? = some (.lst xs)) (n : nrDs xs = true) : callIO [] mr sem (.ref k :: ds) S = callIO [] mr sem (.lst xs :: ds) (S.set k (.frz xs)) := by
  unfold callIO
  rw [prep_frz h n]
theorem io_frz' {mr : Bool} {sem : List D → M D} {xs ds : List D} (h : S[k]? = some (.frz xs)) (n : nrDs xs = true) : callIO [] mr sem (.ref k :: ds) S = callIO [] mr sem (.lst xs :: ds) S := by
  unfold callIO
  rw [prep_frz' h n]
theorem io_frz2 {mr : Bool} {sem : List D → M D} {xs ds : List D} (hd : nrD d = true) (h : S[k]? = some (.lst xs)) (n : nrDs xs = true) : callIO [] mr sem (d :: .ref k :: ds) S = callIO [] mr sem (d :: .lst xs :: ds) (S.set k (.frz xs)) := by
  unfold callIO
  rw [prep_cons hd, prep_frz h n, prep_cons (S := S.set k (.frz xs)) hd]
theorem io_frz2' {mr : Bool} {sem : List D → M D} {xs ds : List D} (hd : nrD d = true) (h : S[k]? = some (.frz xs)) (n : nrDs xs = true) : callIO [] mr sem (d :: .ref k :: ds) S = callIO [] mr sem (d :: .lst xs :: ds) S := by
  unfold callIO
  rw [prep_cons hd, prep_frz' h n, prep_cons (S := S) hd]
theorem sK_ap {n : Nat} {sem : List D → M D} {ds : List D} (h : ds.length = n) : sK n sem ds S = sem ds S := by
  unfold sK
  rw [if_pos h]
def slo (mu : Bool) (lo hi : Option Int) : Option (List D) → M D
  | some xs => newL mu (cutD xs lo hi)
  | none => stk
@[simp] theorem slo_some {lo hi : Option Int} : slo mu lo hi (some xs) S = newL mu (cutD xs lo hi) S := (rfl)
@[simp] theorem dSl_ref {lo hi : Option Int} : dSl mu (.ref k) lo hi S = slo mu lo hi (cl S[k]?) S := by
  unfold dSl slo
  dsimp only
  rw [seqL_ref]
  cases cl S[k]? <;> rfl
theorem toPds_any {p : PyData} : ∀ {xs : List D}, (toPds xs).any (fun z => PyData.eqv z p) = xs.any fun z => PyData.eqv (toPd z) p
  | [] => rfl
  | x :: xs => by simp only [toPds, List.any_cons, toPds_any]
theorem dIn_lst {n : Nat} {neg : Bool} (h1 : plD n d = true) (h2 : plDs n xs = true) (l : n ≤ 11) : dIn neg d (.lst xs) S = .ok (.bl (if neg = true then !xs.any (fun z => eqvD z d) else xs.any fun z => eqvD z d)) S := by
  have e : dIn neg d (.lst xs) S = match toP S 12 d, toP S 12 (.lst xs) with
    | some p, some (.list qs) => if SeqAt.shaped p = true ∧ SeqAt.shaped (.list qs) = true then .ok (.bl (if neg then !qs.any (fun z => PyData.eqv z p) else qs.any (fun z => PyData.eqv z p))) S else .stuck
    | _, _ => .stuck := by
    unfold dIn
    cases d <;> rfl
  have h3 : plD (n + 1) (.lst xs) = true := by simp only [plD]; exact h2
  rw [e, toP_pl h1 (by omega), toP_pl h3 (by omega)]
  have sh1 := shaped_pl h1 (by omega)
  have sh2 := shaped_pl h3 (by omega)
  simp only [toPd] at sh2 ⊢
  rw [if_pos ⟨sh1, sh2⟩, toPds_any]
  rfl
end
end Ev

set_option Elab.async false
set_option linter.all false
set_option maxRecDepth 100000
set_option maxHeartbeats 1000000
/-! EvW: what a def answers by a run of the kernel. -/
namespace Ev
open PySem L2

/-- a def that is handed plain data answers alike whatever the store -/
theorem io_any {sem : List D → M D} {ds : List D} {d : D} {S0 S : Store} (h : nrDs ds = true) (e : callIO [] false sem ds [] = .ok d S0) : callIO [] false sem ds S = .ok d S := by
  unfold callIO at e ⊢
  rw [prep_nr h] at e ⊢
  simp only [orStuck, subS] at e ⊢
  cases hs : sem ds [] with
  | stuck => rw [hs] at e; cases e
  | exc c fs S' =>
    rw [hs] at e
    dsimp only at e
    cases hf : fzDs fs S' with
    | none => rw [hf] at e; cases e
    | some q => rw [hf] at e; simp only [ioEnd, cfzAll, List.length_nil, o1, backW] at e; cases e
  | ok d' S' =>
    rw [hs] at e
    dsimp only at e ⊢
    cases hf : fzD d' S' with
    | none => rw [hf] at e; cases e
    | some q =>
      rw [hf] at e
      simp only [ioEnd, cfzAll, List.length_nil, o1, backW] at e ⊢
      cases e
      rfl
theorem io_anyX {sem : List D → M D} {ds : List D} {c : Nat} {fs : List D} {S0 S : Store} (h : nrDs ds = true) (e : callIO [] false sem ds [] = .exc c fs S0) : callIO [] false sem ds S = .exc c fs S := by
  unfold callIO at e ⊢
  rw [prep_nr h] at e ⊢
  simp only [orStuck, subS] at e ⊢
  cases hs : sem ds [] with
  | stuck => rw [hs] at e; cases e
  | exc c fs S' =>
    rw [hs] at e
    dsimp only at e ⊢
    cases hf : fzDs fs S' with
    | none => rw [hf] at e; cases e
    | some q =>
      rw [hf] at e
      simp only [ioEnd, cfzAll, List.length_nil, o1, backW] at e ⊢
      cases e
      rfl
  | ok d' S' =>
    rw [hs] at e
    dsimp only at e
    cases hf : fzD d' S' with
    | none => rw [hf] at e; cases e
    | some q => rw [hf] at e; simp only [ioEnd, cfzAll, List.length_nil, o1, backW] at e; cases e
/-- one answer of many -/
theorem run_mem {sem : List D → M D} {cs : List (List D)} {n : Nat} {r : R D} (h : cs.map (fun ds => sem ds []) = List.replicate n r) {ds : List D} (m : ds ∈ cs) : sem ds [] = r := by
  have := (List.eq_replicate_iff.mp h).2 (sem ds []) (List.mem_map.mpr ⟨ds, m, rfl⟩)
  exact this
section
variable {S : Store} {env : Envd} {d : D} {c : Nat} {fs : List D}
def trya (xcs : List Nat) (ch i : Nat) (g : MS) : RS → RS
  | .exc c ds env1 S1 => if c ∈ xcs then (if subX c ch = true then endX i (g (env1.set i (some (.exn c ds))) S1) else .exc c ds env1 S1) else .stuck
  | r => r
@[simp] theorem sTryAs_ap {xcs : List Nat} {ch i : Nat} {fb g : MS} : sTryAs xcs ch i fb g env S = trya xcs ch i g (fb env S) := by
  unfold sTryAs trya
  cases fb env S <;> rfl
@[simp] theorem trya_nx {xcs : List Nat} {ch i : Nat} {g : MS} : trya xcs ch i g (.nx env S) = .nx env S := (rfl)
@[simp] theorem trya_rt {xcs : List Nat} {ch i : Nat} {g : MS} : trya xcs ch i g (.rt d S) = .rt d S := (rfl)
end
end Ev

set_option Elab.async false
set_option linter.all false
set_option maxRecDepth 100000
set_option maxHeartbeats 4000000
/-! PgA: what the defs of the laws' texts do, by data. -/
namespace Pg
open PySem Ev
def fuel : Nat := 1000000
/-! law_bag (script, stir, cell) -/
def b_law_bag : MS :=
    sSeq (sAsg (.nm 1) (sC (.int 141)))
    (sSeq (sFor (.nm 2) [2] (iSeq (sSl false (sVar 0) (sPart none) (sPart (some (sC (.int 63))))))
      (sAsg (.nm 1) (s2 (s1 (sCons (s2 (s2 (s2 (sVar 1) (sC (.int 48271)) (dMul false)) (s2 (s1 (sCons (sVar 2) sNil) (BK.sem false .int)) (sC (.int 2147483629)) dMod) (dAdd false)) (sC (.int 1)) (dAdd false)) sNil) (BK.sem false .int)) (sC (.int 2147483647)) dMod)))
    (sRet (s1 (sCons (sComp false (iSeq (sSl false (sVar 0) (sPart none) (sPart (some (sC (.int 63)))))) (.nm 2) [2] (fun _ => ret true) (s2 (s1 (sCons (s1 (sCons (sVar 2) sNil) (BK.sem false .abs)) sNil) (BK.sem false .int)) (s2 (s2 (sC (.int 10)) (sC (.int 60)) dPow) (sC (.int 10)) dPow) dMod)) (sCons (sC (.int 0)) (sCons (sC (.int 0)) (sCons (sVar 1) (sCons (sC (.int 0)) sNil))))) (newLs true))))
def sem_law_bag : List D → M D := callIO [] false (bodyS 1 3 b_law_bag)
def semM_law_bag : List D → M D := callIO [] true (bodyS 1 3 b_law_bag)
/-! law_alike (found, due, k) -/
def b_law_alike (self : List D → M D) : MS :=
    sSeq (sIfS (sTest (s1 (sVar 1) (dIsi [.list, .tuple])))
      (sSeq (sIfS (sOr (sNot (sTest (s1 (sVar 0) (dIsi [.list, .tuple])))) (sTest (s2 (s1 (sVar 0) (dIsi [.list])) (s1 (sVar 1) (dIsi [.list])) (dEq true))))
          (sRet (sC (.bl false)))
          (sPass))
        (sSeq (sIfS (sTest (s2 (s1 (sCons (sVar 0) sNil) (BK.sem false .len)) (s1 (sCons (sVar 1) sNil) (BK.sem false .len)) (dEq true)))
          (sRet (sC (.bl false)))
          (sPass))
        (sRet (s1 (sCons (sComp false (s1 (sCons (s1 (sCons (sVar 1) sNil) (BK.sem false .len)) sNil) dRange1) (.nm 2) [2] (fun _ => ret true) (s1 (sCons (s2 (sVar 0) (sVar 2) dIx) (sCons (s2 (sVar 1) (sVar 2) dIx) sNil)) self)) sNil) (BK.sem false .all)))))
      (sPass))
    (sSeq (sIfS (sOr (sTest (s2 (s1 (sVar 0) (dIsi [.bool])) (s1 (sVar 1) (dIsi [.bool])) (dEq true))) (sTest (s2 (s1 (sVar 0) (dIsi [.int])) (s1 (sVar 1) (dIsi [.int])) (dEq true))))
      (sRet (sC (.bl false)))
      (sPass))
    (sRet (vAnd (s2 (s1 (sVar 0) (dIsi [.str])) (s1 (sVar 1) (dIsi [.str])) (dEq false)) (s2 (sVar 0) (sVar 1) (dEq false)))))
def sem0_law_alike : Nat → List D → M D
  | 0 => fun _ _ => .stuck
  | n + 1 => callIO [] false (bodyS 2 3 (b_law_alike (sem0_law_alike n)))
def sem_law_alike : List D → M D := sem0_law_alike 6
/-! is_integer (thing) -/
def b_is_integer : MS :=
    sRet (vAnd (s1 (sVar 0) (dIsi [.int])) (vNot (s1 (sVar 0) (dIsi [.bool]))))
def sem_is_integer : List D → M D := callIO [] false (bodyS 1 1 b_is_integer)
def semM_is_integer : List D → M D := callIO [] true (bodyS 1 1 b_is_integer)
/-! are_integers (thing, number) -/
def b_are_integers : MS :=
    sRet (vAnd (s1 (sVar 0) (dIsi [.list])) (s1 (sCons (sComp false (iSeq (sVar 0)) (.nm 1) [1] (fun _ => ret true) (s1 (sCons (sVar 1) sNil) Pg.sem_is_integer)) sNil) (BK.sem false .all)))
def sem_are_integers : List D → M D := callIO [] false (bodyS 1 2 b_are_integers)
def semM_are_integers : List D → M D := callIO [] true (bodyS 1 2 b_are_integers)
/-! need_bounds (low, high, least, most, bounds, one, other) -/
def b_need_bounds : MS :=
    sSeq (sFor (.nm 4) [4] (iSeq (s1 (sCons (sVar 0) (sCons (sVar 1) (sCons (sVar 2) (sCons (sVar 3) sNil)))) newTs))
      (sIfS (sOr (sNot (sTest (s1 (sCons (sVar 4) sNil) Pg.sem_are_integers))) (sOr (sTest (s2 (s1 (sCons (sVar 4) sNil) (BK.sem false .len)) (s1 (sCons (sVar 0) sNil) (BK.sem false .len)) (dEq true))) (sNot (sTest (sChain (cmpSem .LtE) (cmpSem .LtE) (sC (.int 1)) (s1 (sCons (sVar 4) sNil) (BK.sem false .len)) (sC (.int 200)))))))
        (sRaise 1)
        (sPass)))
    (sSeq (sIfS (sOr (sTest (s1 (sCons (sComp false (s1 (sCons (sVar 0) (sCons (sVar 1) sNil)) dZip) (.tp [5, 6]) [5, 6] (fun _ => ret true) (s2 (sVar 5) (sVar 6) (cmpSem .Gt))) sNil) (BK.sem false .any))) (sTest (s2 (s2 (sVar 0) (s1 (sC (.int 1)) dNeg) dIx) (s2 (sVar 1) (s1 (sC (.int 1)) dNeg) dIx) (dEq true))))
      (sRaise 1)
      (sPass))
    (sIfS (sTest (s1 (sCons (sComp false (s1 (sCons (sVar 2) (sCons (sVar 3) sNil)) dZip) (.tp [5, 6]) [5, 6] (fun _ => ret true) (s2 (sVar 5) (sVar 6) (cmpSem .Gt))) sNil) (BK.sem false .any)))
    (sRaise 1)
    (sPass)))
def sem_need_bounds : List D → M D := callIO [] false (bodyS 4 7 b_need_bounds)
def semM_need_bounds : List D → M D := callIO [] true (bodyS 4 7 b_need_bounds)
/-! Plan_init (self, low, high, least, most) -/
def b_Plan_init : MS :=
    sSeq (sExpr (s1 (sCons (sVar 1) (sCons (sVar 2) (sCons (sVar 3) (sCons (sVar 4) sNil)))) Pg.sem_need_bounds))
    (sSeq (sPut 13 0 (sVar 0) (s1 (sCons (sVar 1) sNil) (BK.sem false .tuple)))
    (sSeq (sPut 13 1 (sVar 0) (s1 (sCons (sVar 2) sNil) (BK.sem false .tuple)))
    (sSeq (sPut 13 2 (sVar 0) (s1 (sCons (sVar 3) sNil) (BK.sem false .tuple)))
    (sPut 13 3 (sVar 0) (s1 (sCons (sVar 4) sNil) (BK.sem false .tuple))))))
def mk_Plan_init : List D → M D := dMake 13 (bodyS 5 5 b_Plan_init)
/-! number_in (word, digits, sign) -/
def b_number_in : MS :=
    sSeq (sAsg (.nm 1) (sIf (sTest (sBM (MK.chk .starts) (sVar 0) (sCons (sC (.str "-")) sNil) (MK.sem false .starts))) (sSl false (sVar 0) (sPart (some (sC (.int 1)))) (sPart none)) (sVar 0)))
    (sSeq (sIfS (sOr (sNot (sTest (sChain (cmpSem .LtE) (cmpSem .LtE) (sC (.int 1)) (s1 (sCons (sVar 1) sNil) (BK.sem false .len)) (sC (.int 30))))) (sTest (s2 (sComp false (iSeq (sVar 1)) (.nm 2) [2] (sTest (s2 (sVar 2) (sC (.str "0123456789")) (dIn true))) (sVar 2)) (s1 sNil (newLs false)) (dEq true))))
      (sRet (sC .non))
      (sPass))
    (sSeq (sIfS (sAnd (sTest (s2 (s2 (sVar 1) (sC (.int 0)) dIx) (sC (.str "0")) (dEq false))) (sTest (s2 (sVar 0) (sC (.str "0")) (dEq true))))
      (sRet (sC .non))
      (sPass))
    (sRet (s1 (sCons (sVar 0) sNil) (BK.sem false .int)))))
def sem_number_in : List D → M D := callIO [] false (bodyS 1 3 b_number_in)
def semM_number_in : List D → M D := callIO [] true (bodyS 1 3 b_number_in)
/-! bounds_in (word, found, part) -/
def b_bounds_in : MS :=
    sSeq (sAsg (.nm 1) (sComp false (iSeq (sBM (MK.chk .split) (sVar 0) (sCons (sC (.str ":")) sNil) (MK.sem false .split))) (.nm 2) [2] (fun _ => ret true) (s1 (sCons (sVar 2) sNil) Pg.sem_number_in)))
    (sSeq (sIfS (sOr (sTest (s2 (s1 (sCons (sVar 1) sNil) (BK.sem false .len)) (sC (.int 4)) (dEq true))) (sTest (s2 (sC .non) (sVar 1) (dIn false))))
      (sRet (sC .non))
      (sPass))
    (sRet (sIf (sAnd (sTest (s2 (s2 (sVar 1) (sC (.int 0)) dIx) (s2 (sVar 1) (sC (.int 1)) dIx) (cmpSem .LtE))) (sTest (s2 (s2 (sVar 1) (sC (.int 2)) dIx) (s2 (sVar 1) (sC (.int 3)) dIx) (cmpSem .LtE)))) (sVar 1) (sC .non))))
def sem_bounds_in : List D → M D := callIO [] false (bodyS 1 3 b_bounds_in)
def semM_bounds_in : List D → M D := callIO [] true (bodyS 1 3 b_bounds_in)
/-! read_plan (text, words, rows, index, word, bounds, low, high, row) -/
def b_read_plan : MS :=
    sSeq (sAsg (.nm 1) (sBM (MK.chk .split) (sVar 0) (sCons (sC (.str " ")) sNil) (MK.sem false .split)))
    (sSeq (sAsg (.nm 2) (s1 sNil (newLs true)))
    (sSeq (sFor (.tp [3, 4]) [3, 4, 5] (s1 (sCons (sVar 1) sNil) dEnum)
      (sSeq (sAsg (.nm 5) (s1 (sCons (sVar 4) sNil) Pg.sem_bounds_in))
        (sSeq (sIfS (sOr (sTest (s2 (sVar 5) (sC .non) (dIsN false))) (sTest (s2 (sVar 3) (sC (.int 200)) (dEq false))))
          (sRaiseF 12 1 (sCons (sVar 3) sNil))
          (sPass))
        (sExpr (sBM (MK.chk .append) (sVar 2) (sCons (sVar 5) sNil) (MK.sem false .append))))))
    (sSeq (sIfS (sTest (s2 (s2 (s2 (sVar 2) (s1 (sC (.int 1)) dNeg) dIx) (sC (.int 0)) dIx) (s2 (s2 (sVar 2) (s1 (sC (.int 1)) dNeg) dIx) (sC (.int 1)) dIx) (dEq true)))
      (sRaiseF 12 1 (sCons (s1 (sCons (sVar 1) sNil) (BK.sem false .len)) sNil))
      (sPass))
    (sSeq (sTup [6, 7] (sCons (sComp false (iSeq (sVar 2)) (.nm 8) [8] (fun _ => ret true) (s2 (sVar 8) (sC (.int 0)) dIx)) (sCons (sComp false (iSeq (sVar 2)) (.nm 8) [8] (fun _ => ret true) (s2 (sVar 8) (sC (.int 1)) dIx)) sNil)))
    (sRet (s1 (sCons (sVar 6) (sCons (sVar 7) (sCons (sComp false (iSeq (sVar 2)) (.nm 8) [8] (fun _ => ret true) (s2 (sVar 8) (sC (.int 2)) dIx)) (sCons (sComp false (iSeq (sVar 2)) (.nm 8) [8] (fun _ => ret true) (s2 (sVar 8) (sC (.int 3)) dIx)) sNil)))) Pg.mk_Plan_init))))))
def sem_read_plan : List D → M D := callIO [] false (bodyS 1 9 b_read_plan)
def semM_read_plan : List D → M D := callIO [] true (bodyS 1 9 b_read_plan)
/-! write_row (row, number) -/
def b_write_row : MS :=
    sRet (sBM (MK.chk .join) (sC (.str " ")) (sCons (sComp false (iSeq (sVar 0)) (.nm 1) [1] (fun _ => ret true) (s1 (sCons (sVar 1) sNil) (BK.sem false .str))) sNil) (MK.sem false .join))
def sem_write_row : List D → M D := callIO [] false (bodyS 1 2 b_write_row)
def semM_write_row : List D → M D := callIO [] true (bodyS 1 2 b_write_row)
/-! Plan_low (self) -/
def b_Plan_low : MS :=
    sRet (s1 (sCons (s1 (sVar 0) (dFld 13 0)) sNil) (BK.sem true .list))
def sem_Plan_low : List D → M D := callIO [] false (bodyS 1 1 b_Plan_low)
def semM_Plan_low : List D → M D := callIO [] true (bodyS 1 1 b_Plan_low)
/-! Plan_high (self) -/
def b_Plan_high : MS :=
    sRet (s1 (sCons (s1 (sVar 0) (dFld 13 1)) sNil) (BK.sem true .list))
def sem_Plan_high : List D → M D := callIO [] false (bodyS 1 1 b_Plan_high)
def semM_Plan_high : List D → M D := callIO [] true (bodyS 1 1 b_Plan_high)
/-! Plan_least (self) -/
def b_Plan_least : MS :=
    sRet (s1 (sCons (s1 (sVar 0) (dFld 13 2)) sNil) (BK.sem false .list))
def sem_Plan_least : List D → M D := callIO [] false (bodyS 1 1 b_Plan_least)
def semM_Plan_least : List D → M D := callIO [] true (bodyS 1 1 b_Plan_least)
/-! Plan_most (self) -/
def b_Plan_most : MS :=
    sRet (s1 (sCons (s1 (sVar 0) (dFld 13 3)) sNil) (BK.sem false .list))
def sem_Plan_most : List D → M D := callIO [] false (bodyS 1 1 b_Plan_most)
def semM_Plan_most : List D → M D := callIO [] true (bodyS 1 1 b_Plan_most)
/-! write_plan (plan, columns, numbers, number) -/
def b_write_plan : MS :=
    sSeq (sAsg (.nm 1) (s1 (sCons (s1 (sVar 0) (dPrp 13 Pg.sem_Plan_low)) (sCons (s1 (sVar 0) (dPrp 13 Pg.sem_Plan_high)) (sCons (s1 (sVar 0) (dPrp 13 Pg.sem_Plan_least)) (sCons (s1 (sVar 0) (dPrp 13 Pg.sem_Plan_most)) sNil)))) (dLzip false)))
    (sRet (sBM (MK.chk .join) (sC (.str " ")) (sCons (sComp false (iSeq (sVar 1)) (.nm 2) [2] (fun _ => ret true) (sBM (MK.chk .join) (sC (.str ":")) (sCons (sComp false (iSeq (sVar 2)) (.nm 3) [3] (fun _ => ret true) (s1 (sCons (sVar 3) sNil) (BK.sem false .str))) sNil) (MK.sem false .join))) sNil) (MK.sem false .join)))
def sem_write_plan : List D → M D := callIO [] false (bodyS 1 4 b_write_plan)
def semM_write_plan : List D → M D := callIO [] true (bodyS 1 4 b_write_plan)
/-! law_stirred (bag, wide, found, k, mixed) -/
def b_law_stirred : MS :=
    sSeq (sAsg (.nm 2) (sC (.int 0)))
    (sSeq (sFor (.nm 3) [3, 4] (s1 (sCons (s2 (sC (.int 1)) (s2 (s1 (sVar 1) dBits) (sC (.int 27)) dDiv) (dAdd false)) sNil) dRange1)
      (sSeq (sSet (sVar 0) (sC (.int 4)) (s2 (s2 (sVar 0) (sC (.int 4)) dIx) (sC (.int 1)) (dAdd false)))
        (sSeq (sAsg (.nm 4) (s2 (s2 (s2 (s2 (s2 (sVar 0) (sC (.int 3)) dIx) (sC (.int 3)) dPow) (s2 (sC (.int 69621)) (s2 (sVar 0) (sC (.int 3)) dIx) (dMul false)) (dAdd false)) (s2 (sC (.int 1031)) (s2 (sVar 0) (sC (.int 4)) dIx) (dMul false)) (dAdd false)) (sC (.int 1)) (dAdd false)))
        (sSeq (sSet (sVar 0) (sC (.int 3)) (s2 (s1 (sCons (sVar 4) sNil) (BK.sem false .int)) (sC (.int 2147483647)) dMod))
        (sAsg (.nm 2) (s2 (s2 (sVar 2) (sC (.int 134217728)) (dMul false)) (s2 (s2 (sVar 0) (sC (.int 3)) dIx) (sC (.int 16)) dDiv) (dAdd false)))))))
    (sRet (s2 (s1 (sCons (sVar 2) sNil) (BK.sem false .int)) (sVar 1) dMod)))
def sem_law_stirred : List D → M D := callIO [true] false (bodyS 2 5 b_law_stirred)
def semM_law_stirred : List D → M D := callIO [true] true (bodyS 2 5 b_law_stirred)
/-! law_draw (bag, wide, found) -/
def b_law_draw : MS :=
    sSeq (sIfS (sAnd (sTest (s2 (s2 (sVar 0) (sC (.int 2)) dIx) (sC (.int 0)) (dEq false))) (sTest (s2 (s2 (sVar 0) (sC (.int 1)) dIx) (s1 (sCons (s2 (sVar 0) (sC (.int 0)) dIx) sNil) (BK.sem false .len)) (cmpSem .Lt))))
      (sSeq (sSet (sVar 0) (sC (.int 2)) (s2 (s2 (sVar 0) (sC (.int 0)) dIx) (s2 (sVar 0) (sC (.int 1)) dIx) dIx))
        (sSet (sVar 0) (sC (.int 1)) (s2 (s2 (sVar 0) (sC (.int 1)) dIx) (sC (.int 1)) (dAdd false))))
      (sIfS (sTest (s2 (s2 (sVar 0) (sC (.int 2)) dIx) (sC (.int 0)) (dEq false)))
        (sRet (s1 (sCons (sVar 0) (sCons (sVar 1) sNil)) Pg.sem_law_stirred))
        (sPass)))
    (sSeq (sAsg (.nm 2) (s2 (s1 (sCons (s2 (sVar 0) (sC (.int 2)) dIx) sNil) (BK.sem false .int)) (sVar 1) dMod))
    (sSeq (sSet (sVar 0) (sC (.int 2)) (s2 (s2 (sVar 0) (sC (.int 2)) dIx) (sVar 1) dDiv))
    (sRet (sVar 2))))
def sem_law_draw : List D → M D := callIO [true] false (bodyS 2 3 b_law_draw)
def semM_law_draw : List D → M D := callIO [true] true (bodyS 2 3 b_law_draw)
/-! read_row (text, found, index, word, number) -/
def b_read_row : MS :=
    sSeq (sAsg (.nm 1) (s1 sNil (newLs true)))
    (sSeq (sFor (.tp [2, 3]) [2, 3, 4] (s1 (sCons (sBM (MK.chk .split) (sVar 0) (sCons (sC (.str " ")) sNil) (MK.sem false .split)) sNil) dEnum)
      (sSeq (sAsg (.nm 4) (s1 (sCons (sVar 3) sNil) Pg.sem_number_in))
        (sSeq (sIfS (sOr (sTest (s2 (sVar 4) (sC .non) (dIsN false))) (sTest (s2 (sVar 2) (sC (.int 200)) (dEq false))))
          (sRaiseF 12 1 (sCons (sVar 2) sNil))
          (sPass))
        (sExpr (sBM (MK.chk .append) (sVar 1) (sCons (sVar 4) sNil) (MK.sem false .append))))))
    (sRet (sVar 1)))
def sem_read_row : List D → M D := callIO [] false (bodyS 1 5 b_read_row)
def semM_read_row : List D → M D := callIO [] true (bodyS 1 5 b_read_row)
/-! Plan_eq (self, other) -/
def b_Plan_eq : MS :=
    sSeq (sIfS (sOr (sNot (sTest (s1 (sVar 1) (dIsO 13)))) (sOr (sTest (s2 (s1 (sVar 0) (dFld 13 0)) (s1 (sVar 1) (dFld 13 0)) (dEq true))) (sTest (s2 (s1 (sVar 0) (dFld 13 1)) (s1 (sVar 1) (dFld 13 1)) (dEq true)))))
      (sRet (sC (.bl false)))
      (sPass))
    (sRet (vAnd (s2 (s1 (sVar 0) (dFld 13 2)) (s1 (sVar 1) (dFld 13 2)) (dEq false)) (s2 (s1 (sVar 0) (dFld 13 3)) (s1 (sVar 1) (dFld 13 3)) (dEq false))))
def sem_Plan_eq : List D → M D := callIO [] false (bodyS 2 2 b_Plan_eq)
def semM_Plan_eq : List D → M D := callIO [] true (bodyS 2 2 b_Plan_eq)
/-! law_streams (bag, many, far, k, found, times, turn, low, high, here) -/
def L1_law_streams : MS :=
    sSeq (sAsg (.nm 9) (s2 (s2 (sVar 9) (s1 (sCons (sVar 0) (sCons (sVar 2) sNil)) Pg.sem_law_draw) (dAdd false)) (s2 (sVar 2) (sC (.int 4)) dDiv) dSub))
            (sSeq (sExpr (sBM (MK.chk .append) (sVar 7) (sCons (s2 (sVar 9) (s1 (sCons (sVar 0) (sCons (sVar 2) sNil)) Pg.sem_law_draw) dSub) sNil) (MK.sem false .append)))
            (sExpr (sBM (MK.chk .append) (sVar 8) (sCons (s2 (s2 (sVar 7) (s1 (sC (.int 1)) dNeg) dIx) (s1 (sCons (sVar 0) (sCons (s2 (s1 (sCons (sC (.int 2)) (sCons (sVar 2) (sCons (s2 (sC (.int 3)) (sVar 2) (dMul false)) sNil))) (newLs false)) (s1 (sCons (sVar 0) (sCons (sC (.int 3)) sNil)) Pg.sem_law_draw) dIx) sNil)) Pg.sem_law_draw) (dAdd false)) sNil) (MK.sem false .append))))
def L2_law_streams : MS :=
    sSeq (sTup [7, 8, 9] (sCons (s1 sNil (newLs true)) (sCons (s1 sNil (newLs true)) (sCons (sC (.int 0)) sNil))))
        (sSeq (sFor (.nm 6) [6] (s1 (sCons (sVar 5) sNil) dRange1)
          (Pg.L1_law_streams))
        (sExpr (sBM (MK.chk .append) (sVar 4) (sCons (s1 (sCons (sVar 7) (sCons (s2 (sSl false (sVar 8) (sPart none) (sPart (some (s1 (sC (.int 1)) dNeg)))) (sSl false (sVar 7) (sPart (some (s1 (sC (.int 1)) dNeg))) (sPart none)) (dAdd false)) sNil)) newTs) sNil) (MK.sem false .append))))
def b_law_streams : MS :=
    sSeq (sTup [4, 5] (sCons (s1 sNil (newLs true)) (sCons (s2 (sC (.int 1)) (s1 (sCons (sVar 0) (sCons (sVar 1) sNil)) Pg.sem_law_draw) (dAdd false)) sNil)))
    (sSeq (sFor (.nm 3) [3, 6, 7, 8, 9] (s1 (sCons (s2 (sC (.int 1)) (s1 (sCons (sVar 0) (sCons (s2 (s1 (sCons (sC (.int 4)) (sCons (sC (.int 4)) (sCons (sC (.int 20)) sNil))) (newLs false)) (s1 (sCons (sVar 0) (sCons (sC (.int 3)) sNil)) Pg.sem_law_draw) dIx) sNil)) Pg.sem_law_draw) (dAdd false)) sNil) dRange1)
      (Pg.L2_law_streams))
    (sRet (sVar 4)))
def sem_law_streams : List D → M D := callIO [true] false (bodyS 3 10 b_law_streams)
def semM_law_streams : List D → M D := callIO [true] true (bodyS 3 10 b_law_streams)
/-! is_stream (thing, low, high, one, other) -/
def C1_is_stream : Envd → M D :=
    sComp false (s1 (sCons (sVar 1) (sCons (sVar 2) sNil)) dZip) (.tp [3, 4]) [3, 4] (fun _ => ret true) (s2 (sVar 3) (sVar 4) (cmpSem .LtE))
def b_is_stream : MS :=
    sSeq (sIfS (sOr (sNot (sTest (s1 (sVar 0) (dIsi [.tuple])))) (sOr (sTest (s2 (s1 (sCons (sVar 0) sNil) (BK.sem false .len)) (sC (.int 2)) (dEq true))) (sOr (sNot (sTest (s1 (sCons (s2 (sVar 0) (sC (.int 0)) dIx) sNil) Pg.sem_are_integers))) (sNot (sTest (s1 (sCons (s2 (sVar 0) (sC (.int 1)) dIx) sNil) Pg.sem_are_integers))))))
      (sRet (sC (.bl false)))
      (sPass))
    (sSeq (sAsg (.tp [1, 2]) (sVar 0))
    (sSeq (sIfS (sOr (sTest (s2 (s1 (sCons (sVar 1) sNil) (BK.sem false .len)) (s1 (sCons (sVar 2) sNil) (BK.sem false .len)) (dEq true))) (sOr (sNot (sTest (sChain (cmpSem .LtE) (cmpSem .LtE) (sC (.int 1)) (s1 (sCons (sVar 1) sNil) (BK.sem false .len)) (sC (.int 200))))) (sTest (s2 (s2 (sVar 1) (s1 (sC (.int 1)) dNeg) dIx) (s2 (sVar 2) (s1 (sC (.int 1)) dNeg) dIx) (dEq true)))))
      (sRet (sC (.bl false)))
      (sPass))
    (sRet (s1 (sCons (Pg.C1_is_stream) sNil) (BK.sem false .all)))))
def sem_is_stream : List D → M D := callIO [] false (bodyS 1 5 b_is_stream)
def semM_is_stream : List D → M D := callIO [] true (bodyS 1 5 b_is_stream)
/-! need_streams (thing, one) -/
def C1_need_streams : Envd → M D :=
    sComp false (iSeq (sVar 0)) (.nm 1) [1] (fun _ => ret true) (s1 (sCons (sVar 1) sNil) Pg.sem_is_stream)
def C2_need_streams : Envd → M D :=
    sComp false (iSeq (sVar 0)) (.nm 1) [1] (sTest (s2 (s1 (sCons (s2 (sVar 1) (sC (.int 0)) dIx) sNil) (BK.sem false .len)) (s1 (sCons (s2 (s2 (sVar 0) (sC (.int 0)) dIx) (sC (.int 0)) dIx) sNil) (BK.sem false .len)) (dEq true))) (sVar 1)
def b_need_streams : MS :=
    sSeq (sIfS (sOr (sNot (sTest (s1 (sVar 0) (dIsi [.list])))) (sOr (sNot (sTest (sChain (cmpSem .LtE) (cmpSem .LtE) (sC (.int 1)) (s1 (sCons (sVar 0) sNil) (BK.sem false .len)) (sC (.int 20))))) (sNot (sTest (s1 (sCons (Pg.C1_need_streams) sNil) (BK.sem false .all))))))
      (sRaise 8)
      (sPass))
    (sIfS (sTest (s2 (Pg.C2_need_streams) (s1 sNil (newLs false)) (dEq true)))
    (sRaise 8)
    (sPass))
def sem_need_streams : List D → M D := callIO [] false (bodyS 1 2 b_need_streams)
def semM_need_streams : List D → M D := callIO [] true (bodyS 1 2 b_need_streams)
/-! added (lists, numbers) -/
def C1_added : Envd → M D :=
    sComp false (s1 (sVar 0) dZipS) (.nm 1) [1] (fun _ => ret true) (s1 (sCons (sVar 1) sNil) (BK.sem false .sum))
def b_added : MS :=
    sRet (Pg.C1_added)
def sem_added : List D → M D := callIO [] false (bodyS 1 2 b_added)
def semM_added : List D → M D := callIO [] true (bodyS 1 2 b_added)
/-! joint (streams, least, most, times, one, other, low, high) -/
def C1_joint : Envd → M D :=
    sComp false (s1 (sCons (sVar 1) (sCons (sVar 2) sNil)) dZip) (.tp [4, 5]) [4, 5] (sTest (s2 (sVar 4) (sVar 5) (cmpSem .Gt))) (sC (.int 1))
def C2_joint : Envd → M D :=
    sComp false (iSeq (sVar 0)) (.tp [6, 7]) [6, 7] (fun _ => ret true) (sVar 7)
def C3_joint : Envd → M D :=
    sComp false (iSeq (sVar 0)) (.tp [6, 7]) [6, 7] (fun _ => ret true) (sVar 6)
def b_joint : MS :=
    sSeq (sExpr (s1 (sCons (sVar 0) sNil) Pg.sem_need_streams))
    (sSeq (sAsg (.nm 3) (s1 (sCons (s2 (s2 (sVar 0) (sC (.int 0)) dIx) (sC (.int 0)) dIx) sNil) (BK.sem false .len)))
    (sSeq (sIfS (sOr (sNot (sTest (s1 (sCons (sVar 1) sNil) Pg.sem_are_integers))) (sTest (s2 (s1 (sCons (sVar 1) sNil) (BK.sem false .len)) (sVar 3) (dEq true))))
      (sRaise 5)
      (sPass))
    (sSeq (sIfS (sOr (sNot (sTest (s1 (sCons (sVar 2) sNil) Pg.sem_are_integers))) (sOr (sTest (s2 (s1 (sCons (sVar 2) sNil) (BK.sem false .len)) (sVar 3) (dEq true))) (sTest (s2 (Pg.C1_joint) (s1 sNil (newLs false)) (dEq true)))))
      (sRaise 5)
      (sPass))
    (sRet (s1 (sCons (s1 (sCons (Pg.C3_joint) sNil) Pg.sem_added) (sCons (s1 (sCons (Pg.C2_joint) sNil) Pg.sem_added) (sCons (sVar 1) (sCons (sVar 2) sNil)))) Pg.mk_Plan_init)))))
def sem_joint : List D → M D := callIO [] false (bodyS 3 8 b_joint)
def semM_joint : List D → M D := callIO [] true (bodyS 3 8 b_joint)
/-! add_all (numbers, found, number) -/
def b_add_all : MS :=
    sSeq (sAsg (.nm 1) (s1 (sCons (sC (.int 0)) sNil) (newLs true)))
    (sSeq (sFor (.nm 2) [2] (iSeq (sVar 0))
      (sExpr (sBM (MK.chk .append) (sVar 1) (sCons (s2 (s2 (sVar 1) (s1 (sC (.int 1)) dNeg) dIx) (sVar 2) (dAdd false)) sNil) (MK.sem false .append))))
    (sRet (sVar 1)))
def sem_add_all : List D → M D := callIO [] false (bodyS 1 3 b_add_all)
def semM_add_all : List D → M D := callIO [] true (bodyS 1 3 b_add_all)
/-! entries_from (sums, one, other) -/
def C1_entries_from : Envd → M D :=
    sComp true (s1 (sCons (sVar 0) (sCons (sSl false (sVar 0) (sPart (some (sC (.int 1)))) (sPart none)) sNil)) dZip) (.tp [1, 2]) [1, 2] (fun _ => ret true) (s2 (sVar 2) (sVar 1) dSub)
def b_entries_from : MS :=
    sRet (Pg.C1_entries_from)
def sem_entries_from : List D → M D := callIO [] false (bodyS 1 3 b_entries_from)
def semM_entries_from : List D → M D := callIO [] true (bodyS 1 3 b_entries_from)
/-! shares (streams, row, lows, highs, rest, found, low, high, sums, amount, one, other, bound, need) -/
def C1_shares : Envd → M D :=
    sComp false (iSeq (sVar 0)) (.tp [6, 7]) [6, 7] (fun _ => ret true) (sVar 6)
def C2_shares : Envd → M D :=
    sComp false (iSeq (sVar 0)) (.tp [6, 7]) [6, 7] (fun _ => ret true) (sVar 7)
def C3_shares : Envd → M D :=
    sComp false (s1 (sCons (sVar 2) (sCons (sVar 4) (sCons (sVar 3) sNil))) dZipN) (.tp [6, 9, 7]) [6, 9, 7] (sNot (sTest (sChain (cmpSem .LtE) (cmpSem .LtE) (sVar 6) (sVar 9) (sVar 7)))) (sC (.int 1))
def C4_shares : Envd → M D :=
    sComp false (s1 (sCons (sVar 2) (sCons (sVar 6) sNil)) dZip) (.tp [10, 11]) [10, 11] (fun _ => ret true) (s2 (sVar 10) (sVar 11) dSub)
def C5_shares : Envd → M D :=
    sComp false (s1 (sCons (sVar 7) (sCons (sVar 4) (sCons (sVar 2) sNil))) dZipN) (.tp [12, 9, 13]) [12, 9, 13] (fun _ => ret true) (s1 (sCons (sVar 12) (sCons (s2 (sVar 9) (sVar 13) dSub) sNil)) (BK.sem false .min))
def C6_shares : Envd → M D :=
    sComp false (s1 (sCons (sVar 4) (sCons (sVar 8) sNil)) dZip) (.tp [9, 10]) [9, 10] (fun _ => ret true) (s2 (sVar 9) (sVar 10) dSub)
def L1_shares : MS :=
    sSeq (sAsg (.nm 2) (Pg.C4_shares))
        (sSeq (sAsg (.nm 8) (Pg.C5_shares))
        (sSeq (sAsg (.nm 4) (Pg.C6_shares))
        (sExpr (sBM (MK.chk .append) (sVar 5) (sCons (s1 (sCons (s1 (sCons (sC (.int 0)) (sStar (sVar 8) sNil)) (newLs false)) sNil) Pg.sem_entries_from) sNil) (MK.sem false .append)))))
def b_shares : MS :=
    sSeq (sExpr (s1 (sCons (sVar 0) sNil) Pg.sem_need_streams))
    (sSeq (sAsg (.nm 2) (s1 (sCons (Pg.C1_shares) sNil) Pg.sem_added))
    (sSeq (sAsg (.nm 3) (s1 (sCons (Pg.C2_shares) sNil) Pg.sem_added))
    (sSeq (sIfS (sOr (sNot (sTest (s1 (sCons (sVar 1) sNil) Pg.sem_are_integers))) (sTest (s2 (s1 (sCons (sVar 1) sNil) (BK.sem false .len)) (s1 (sCons (sVar 2) sNil) (BK.sem false .len)) (dEq true))))
      (sRaise 2)
      (sPass))
    (sSeq (sAsg (.nm 4) (sSl false (s1 (sCons (sVar 1) sNil) Pg.sem_add_all) (sPart (some (sC (.int 1)))) (sPart none)))
    (sSeq (sIfS (sTest (s2 (Pg.C3_shares) (s1 sNil (newLs false)) (dEq true)))
      (sRaise 2)
      (sPass))
    (sSeq (sAsg (.nm 5) (s1 sNil (newLs true)))
    (sSeq (sFor (.tp [6, 7]) [6, 7, 8] (iSeq (sVar 0))
      (Pg.L1_shares))
    (sRet (sVar 5)))))))))
def sem_shares : List D → M D := callIO [] false (bodyS 2 14 b_shares)
def semM_shares : List D → M D := callIO [] true (bodyS 2 14 b_shares)
/-! law_added (lists, found, numbers, one, two) -/
def C1_law_added : Envd → M D :=
    sComp false (s1 (sCons (sVar 1) (sCons (sVar 2) sNil)) dZip) (.tp [3, 4]) [3, 4] (fun _ => ret true) (s2 (sVar 3) (sVar 4) (dAdd false))
def L1_law_added : MS :=
    sAsg (.nm 1) (Pg.C1_law_added)
def b_law_added : MS :=
    sSeq (sAsg (.nm 1) (s2 (s1 (sCons (sC (.int 0)) sNil) (newLs false)) (s1 (sCons (s2 (sVar 0) (sC (.int 0)) dIx) sNil) (BK.sem false .len)) (dMul false)))
    (sSeq (sFor (.nm 2) [2] (iSeq (sVar 0))
      (Pg.L1_law_added))
    (sRet (sVar 1)))
def sem_law_added : List D → M D := callIO [] false (bodyS 1 5 b_law_added)
def semM_law_added : List D → M D := callIO [] true (bodyS 1 5 b_law_added)
/-! law_sums (item, entry, found, here) -/
def L1_law_sums : MS :=
    sSeq (sAsg (.nm 3) (s2 (sVar 3) (sVar 1) (dAdd false)))
        (sExpr (sBM (MK.chk .append) (sVar 2) (sCons (sVar 3) sNil) (MK.sem false .append)))
def b_law_sums : MS :=
    sSeq (sTup [2, 3] (sCons (s1 sNil (newLs true)) (sCons (sC (.int 0)) sNil)))
    (sSeq (sFor (.nm 1) [1] (iSeq (sVar 0))
      (Pg.L1_law_sums))
    (sRet (sVar 2)))
def sem_law_sums : List D → M D := callIO [] false (bodyS 1 4 b_law_sums)
def semM_law_sums : List D → M D := callIO [] true (bodyS 1 4 b_law_sums)
/-! law_box (bag, most, far, row, loose, entry, under, over, low, high, here, k) -/
def C1_law_box : Envd → M D :=
    sComp false (s1 (sCons (s2 (sC (.int 1)) (s1 (sCons (sVar 0) (sCons (sVar 1) sNil)) Pg.sem_law_draw) (dAdd false)) sNil) dRange1) (.nm 11) [11] (fun _ => ret true) (s2 (s1 (sCons (sVar 0) (sCons (sVar 2) sNil)) Pg.sem_law_draw) (s2 (sVar 2) (sC (.int 2)) dDiv) dSub)
def L1_law_box : MS :=
    sSeq (sAsg (.nm 10) (s2 (sVar 10) (sVar 5) (dAdd false)))
        (sSeq (sExpr (sBM (MK.chk .append) (sVar 6) (sCons (s2 (sVar 5) (s1 (sCons (sVar 0) (sCons (sC (.int 3)) sNil)) Pg.sem_law_draw) dSub) sNil) (MK.sem false .append)))
        (sSeq (sExpr (sBM (MK.chk .append) (sVar 7) (sCons (s2 (sVar 5) (s1 (sCons (sVar 0) (sCons (sC (.int 3)) sNil)) Pg.sem_law_draw) (dAdd false)) sNil) (MK.sem false .append)))
        (sSeq (sExpr (sBM (MK.chk .append) (sVar 8) (sCons (s2 (sVar 10) (s1 (sCons (sVar 0) (sCons (sVar 4) sNil)) Pg.sem_law_draw) dSub) sNil) (MK.sem false .append)))
        (sExpr (sBM (MK.chk .append) (sVar 9) (sCons (s2 (sVar 10) (s1 (sCons (sVar 0) (sCons (sVar 4) sNil)) Pg.sem_law_draw) (dAdd false)) sNil) (MK.sem false .append))))))
def b_law_box : MS :=
    sSeq (sAsg (.nm 3) (Pg.C1_law_box))
    (sSeq (sTup [6, 7, 8, 9, 10] (sCons (s1 sNil (newLs true)) (sCons (s1 sNil (newLs true)) (sCons (s1 sNil (newLs true)) (sCons (s1 sNil (newLs true)) (sCons (sC (.int 0)) sNil))))))
    (sSeq (sAsg (.nm 4) (s2 (s1 (sCons (sC (.int 1)) (sCons (sC (.int 2)) (sCons (sC (.int 4)) (sCons (sC (.int 9)) sNil)))) (newLs false)) (s1 (sCons (sVar 0) (sCons (sC (.int 4)) sNil)) Pg.sem_law_draw) dIx))
    (sSeq (sFor (.nm 5) [5] (iSeq (sVar 3))
      (Pg.L1_law_box))
    (sRet (s1 (sCons (s2 (sSl false (sVar 8) (sPart none) (sPart (some (s1 (sC (.int 1)) dNeg)))) (s1 (sCons (sVar 10) sNil) (newLs false)) (dAdd false)) (sCons (s2 (sSl false (sVar 9) (sPart none) (sPart (some (s1 (sC (.int 1)) dNeg)))) (s1 (sCons (sVar 10) sNil) (newLs false)) (dAdd false)) (sCons (sVar 6) (sCons (sVar 7) sNil)))) newTs)))))
def sem_law_box : List D → M D := callIO [true] false (bodyS 3 12 b_law_box)
def semM_law_box : List D → M D := callIO [true] true (bodyS 3 12 b_law_box)
/-! need_time (time, first, last) -/
def b_need_time : MS :=
    sIfS (sNot (sTest (sChain (cmpSem .LtE) (cmpSem .LtE) (sVar 1) (sVar 0) (sVar 2))))
    (sRaise 3)
    (sPass)
def sem_need_time : List D → M D := callIO [] false (bodyS 3 3 b_need_time)
def semM_need_time : List D → M D := callIO [] true (bodyS 3 3 b_need_time)
/-! Plan_times (self) -/
def b_Plan_times : MS :=
    sRet (s1 (sCons (s1 (sVar 0) (dFld 13 0)) sNil) (BK.sem false .len))
def sem_Plan_times : List D → M D := callIO [] false (bodyS 1 1 b_Plan_times)
def semM_Plan_times : List D → M D := callIO [] true (bodyS 1 1 b_Plan_times)
/-! sum_limits (plan, time, low, high, least, most, times) -/
def b_sum_limits : MS :=
    sSeq (sTup [2, 3] (sCons (s2 (s1 (sCons (sC (.int 0)) sNil) (newLs false)) (s1 (sVar 0) (dPrp 13 Pg.sem_Plan_low)) (dAdd true)) (sCons (s2 (s1 (sCons (sC (.int 0)) sNil) (newLs false)) (s1 (sVar 0) (dPrp 13 Pg.sem_Plan_high)) (dAdd true)) sNil)))
    (sSeq (sTup [4, 5, 6] (sCons (s1 (sVar 0) (dPrp 13 Pg.sem_Plan_least)) (sCons (s1 (sVar 0) (dPrp 13 Pg.sem_Plan_most)) (sCons (s1 (sVar 0) (dPrp 13 Pg.sem_Plan_times)) sNil))))
    (sSeq (sFor (.nm 1) [1] (s1 (sCons (sC (.int 1)) (sCons (s2 (sVar 6) (sC (.int 1)) (dAdd false)) sNil)) dRange2)
      (sSeq (sSet (sVar 2) (sVar 1) (s1 (sCons (s2 (sVar 2) (sVar 1) dIx) (sCons (s2 (s2 (sVar 2) (s2 (sVar 1) (sC (.int 1)) dSub) dIx) (s2 (sVar 4) (s2 (sVar 1) (sC (.int 1)) dSub) dIx) (dAdd false)) sNil)) (BK.sem false .max)))
        (sSet (sVar 3) (sVar 1) (s1 (sCons (s2 (sVar 3) (sVar 1) dIx) (sCons (s2 (s2 (sVar 3) (s2 (sVar 1) (sC (.int 1)) dSub) dIx) (s2 (sVar 5) (s2 (sVar 1) (sC (.int 1)) dSub) dIx) (dAdd false)) sNil)) (BK.sem false .min)))))
    (sSeq (sFor (.nm 1) [1] (s1 (sCons (s2 (sVar 6) (sC (.int 1)) dSub) (sCons (s1 (sC (.int 1)) dNeg) (sCons (s1 (sC (.int 1)) dNeg) sNil))) dRange3)
      (sSeq (sSet (sVar 2) (sVar 1) (s1 (sCons (s2 (sVar 2) (sVar 1) dIx) (sCons (s2 (s2 (sVar 2) (s2 (sVar 1) (sC (.int 1)) (dAdd false)) dIx) (s2 (sVar 5) (sVar 1) dIx) dSub) sNil)) (BK.sem false .max)))
        (sSet (sVar 3) (sVar 1) (s1 (sCons (s2 (sVar 3) (sVar 1) dIx) (sCons (s2 (s2 (sVar 3) (s2 (sVar 1) (sC (.int 1)) (dAdd false)) dIx) (s2 (sVar 4) (sVar 1) dIx) dSub) sNil)) (BK.sem false .min)))))
    (sRet (s1 (sCons (sVar 2) (sCons (sVar 3) sNil)) newTs)))))
def sem_sum_limits : List D → M D := callIO [] false (bodyS 1 7 b_sum_limits)
def semM_sum_limits : List D → M D := callIO [] true (bodyS 1 7 b_sum_limits)
/-! has_row (plan, low, high, one, other) -/
def b_has_row : MS :=
    sSeq (sAsg (.tp [1, 2]) (s1 (sCons (sVar 0) sNil) Pg.sem_sum_limits))
    (sRet (s1 (sCons (sComp false (s1 (sCons (sVar 1) (sCons (sVar 2) sNil)) dZip) (.tp [3, 4]) [3, 4] (fun _ => ret true) (s2 (sVar 3) (sVar 4) (cmpSem .LtE))) sNil) (BK.sem false .all)))
def sem_has_row : List D → M D := callIO [] false (bodyS 1 5 b_has_row)
def semM_has_row : List D → M D := callIO [] true (bodyS 1 5 b_has_row)
/-! conflict (plan, first, low, high, least, most, last) -/
def L1_conflict : MS :=
    sSeq (sIfS (sTest (s2 (s2 (s2 (sVar 2) (sVar 6) dIx) (s2 (sVar 3) (sVar 1) dIx) dSub) (s2 (s2 (sVar 5) (sVar 6) dIx) (s2 (sVar 5) (sVar 1) dIx) dSub) (cmpSem .Gt)))
            (sRet (s1 (sCons (sVar 1) (sCons (sVar 6) sNil)) newTs))
            (sPass))
          (sIfS (sTest (s2 (s2 (s2 (s2 (sVar 2) (sVar 1) dIx) (s2 (sVar 4) (sVar 6) dIx) (dAdd false)) (s2 (sVar 4) (sVar 1) dIx) dSub) (s2 (sVar 3) (sVar 6) dIx) (cmpSem .Gt)))
          (sRet (s1 (sCons (sVar 1) (sCons (sVar 6) sNil)) newTs))
          (sPass))
def L2_conflict : MS :=
    sFor (.nm 6) [6] (s1 (sCons (s2 (sVar 1) (sC (.int 1)) (dAdd false)) (sCons (s2 (s1 (sVar 0) (dPrp 13 Pg.sem_Plan_times)) (sC (.int 1)) (dAdd false)) sNil)) dRange2)
        (Pg.L1_conflict)
def b_conflict : MS :=
    sSeq (sTup [2, 3] (sCons (s2 (s1 (sCons (sC (.int 0)) sNil) (newLs false)) (s1 (sVar 0) (dPrp 13 Pg.sem_Plan_low)) (dAdd false)) (sCons (s2 (s1 (sCons (sC (.int 0)) sNil) (newLs false)) (s1 (sVar 0) (dPrp 13 Pg.sem_Plan_high)) (dAdd false)) sNil)))
    (sSeq (sTup [4, 5] (sCons (s1 (sCons (s1 (sVar 0) (dPrp 13 Pg.sem_Plan_least)) sNil) Pg.sem_add_all) (sCons (s1 (sCons (s1 (sVar 0) (dPrp 13 Pg.sem_Plan_most)) sNil) Pg.sem_add_all) sNil)))
    (sSeq (sFor (.nm 1) [1, 6] (s1 (sCons (s1 (sVar 0) (dPrp 13 Pg.sem_Plan_times)) sNil) dRange1)
      (Pg.L2_conflict))
    (sRet (sC .non))))
def sem_conflict : List D → M D := callIO [] false (bodyS 1 7 b_conflict)
def semM_conflict : List D → M D := callIO [] true (bodyS 1 7 b_conflict)
/-! need_rows (plan, first, last) -/
def b_need_rows : MS :=
    sIfS (sNot (sTest (s1 (sCons (sVar 0) sNil) Pg.sem_has_row)))
    (sSeq (sAsg (.tp [1, 2]) (s1 (sCons (sVar 0) sNil) Pg.sem_conflict))
      (sRaiseF 11 2 (sCons (sVar 1) (sCons (sVar 2) sNil))))
    (sPass)
def sem_need_rows : List D → M D := callIO [] false (bodyS 1 3 b_need_rows)
def semM_need_rows : List D → M D := callIO [] true (bodyS 1 3 b_need_rows)
/-! need_amount (plan, time, amount, low, high) -/
def b_need_amount : MS :=
    sSeq (sExpr (s1 (sCons (sVar 0) sNil) Pg.sem_need_rows))
    (sSeq (sAsg (.tp [3, 4]) (s1 (sCons (sVar 0) sNil) Pg.sem_sum_limits))
    (sIfS (sNot (sTest (sChain (cmpSem .LtE) (cmpSem .LtE) (s2 (sVar 3) (sVar 1) dIx) (sVar 2) (s2 (sVar 4) (sVar 1) dIx))))
    (sRaise 5)
    (sPass)))
def sem_need_amount : List D → M D := callIO [] false (bodyS 3 5 b_need_amount)
def semM_need_amount : List D → M D := callIO [] true (bodyS 3 5 b_need_amount)
/-! bounds_of (plan) -/
def b_bounds_of : MS :=
    sRet (s1 (sCons (s2 (s1 (sCons (sC (.int 0)) sNil) (newLs false)) (s1 (sVar 0) (dPrp 13 Pg.sem_Plan_low)) (dAdd false)) (sCons (s2 (s1 (sCons (sC (.int 0)) sNil) (newLs false)) (s1 (sVar 0) (dPrp 13 Pg.sem_Plan_high)) (dAdd false)) (sCons (s1 (sVar 0) (dPrp 13 Pg.sem_Plan_least)) (sCons (s1 (sVar 0) (dPrp 13 Pg.sem_Plan_most)) sNil)))) newTs)
def sem_bounds_of : List D → M D := callIO [] false (bodyS 1 1 b_bounds_of)
def semM_bounds_of : List D → M D := callIO [] true (bodyS 1 1 b_bounds_of)
/-! put_within (level, least, most, one, other) -/
def C1_put_within : Envd → M D :=
    sComp false (s1 (sCons (sVar 1) (sCons (sVar 2) sNil)) dZip) (.tp [3, 4]) [3, 4] (fun _ => ret true) (s1 (sCons (sVar 4) (sCons (s1 (sCons (sVar 3) (sCons (sVar 0) sNil)) (BK.sem false .max)) sNil)) (BK.sem false .min))
def b_put_within : MS :=
    sRet (Pg.C1_put_within)
def sem_put_within : List D → M D := callIO [] false (bodyS 3 5 b_put_within)
def semM_put_within : List D → M D := callIO [] true (bodyS 3 5 b_put_within)
/-! level_of (least, most, amount, values, value, rising, low, high, middle, one, other) -/
def L1_level_of : MS :=
    sSeq (sAsg (.nm 8) (s2 (s2 (sVar 6) (sVar 7) (dAdd false)) (sC (.int 2)) dDiv))
        (sIfS (sTest (s2 (s1 (sCons (s1 (sCons (s2 (sVar 3) (sVar 8) dIx) (sCons (sVar 0) (sCons (sVar 1) sNil))) Pg.sem_put_within) sNil) (BK.sem false .sum)) (sVar 2) (cmpSem .LtE)))
        (sAsg (.nm 6) (sVar 8))
        (sAsg (.nm 7) (sVar 8)))
def C1_level_of : Envd → M D :=
    sComp false (s1 (sCons (sVar 0) (sCons (sVar 1) sNil)) dZip) (.tp [9, 10]) [9, 10] (sTest (sChain (cmpSem .LtE) (cmpSem .Lt) (sVar 9) (sVar 4) (sVar 10))) (sC (.int 1))
def b_level_of : MS :=
    sSeq (sAsg (.nm 3) (s1 (s2 (sVar 0) (sVar 1) (dAdd false)) (dSortSet false)))
    (sSeq (sTup [6, 7] (sCons (sC (.int 0)) (sCons (s1 (sCons (sVar 3) sNil) (BK.sem false .len)) sNil)))
    (sSeq (whileL [8] (sTest (s2 (s2 (sVar 7) (sVar 6) dSub) (sC (.int 1)) (cmpSem .Gt)))
      (Pg.L1_level_of) Pg.fuel)
    (sSeq (sAsg (.nm 4) (s2 (sVar 3) (sVar 6) dIx))
    (sSeq (sAsg (.nm 5) (s1 (sCons (Pg.C1_level_of) sNil) (BK.sem false .len)))
    (sRet (sIf (sTest (s2 (sVar 5) (sC (.int 0)) (cmpSem .Gt))) (s2 (sVar 4) (s2 (s2 (sVar 2) (s1 (sCons (s1 (sCons (sVar 4) (sCons (sVar 0) (sCons (sVar 1) sNil))) Pg.sem_put_within) sNil) (BK.sem false .sum)) dSub) (sVar 5) dDiv) (dAdd false)) (sVar 4)))))))
def sem_level_of : List D → M D := callIO [] false (bodyS 3 11 b_level_of)
def semM_level_of : List D → M D := callIO [] true (bodyS 3 11 b_level_of)
/-! widest_pair (ahead, behind, steps, first, index, way, found, wide) -/
def L1_widest_pair : MS :=
    sSeq (sAsg (.nm 7) (s2 (s2 (s2 (s2 (sVar 1) (sVar 4) dIx) (s2 (sVar 5) (sVar 4) dIx) dSub) (s2 (sVar 5) (sVar 3) dIx) (dAdd false)) (s2 (sVar 0) (sVar 3) dIx) dSub))
        (sSeq (sIfS (sOr (sTest (s2 (sVar 6) (sC .non) (dIsN false))) (sTest (s2 (sVar 7) (s2 (sVar 6) (sC (.int 0)) dIx) (cmpSem .Gt))))
          (sAsg (.nm 6) (s1 (sCons (sVar 7) (sCons (sVar 3) (sCons (sVar 4) sNil))) newTs))
          (sPass))
        (sIfS (sTest (s2 (s2 (s2 (sVar 5) (sVar 4) dIx) (s2 (sVar 0) (sVar 4) dIx) dSub) (s2 (s2 (sVar 5) (sVar 3) dIx) (s2 (sVar 0) (sVar 3) dIx) dSub) (cmpSem .Gt)))
        (sAsg (.nm 3) (sVar 4))
        (sPass)))
def b_widest_pair : MS :=
    sSeq (sTup [5, 6] (sCons (s1 (sCons (sVar 2) sNil) Pg.sem_add_all) (sCons (sC .non) sNil)))
    (sSeq (sAsg (.nm 3) (sC (.int 0)))
    (sSeq (sFor (.nm 4) [4, 7] (s1 (sCons (sC (.int 1)) (sCons (s1 (sCons (sVar 5) sNil) (BK.sem false .len)) sNil)) dRange2)
      (Pg.L1_widest_pair))
    (sRet (sVar 6))))
def sem_widest_pair : List D → M D := callIO [] false (bodyS 3 8 b_widest_pair)
def semM_widest_pair : List D → M D := callIO [] true (bodyS 3 8 b_widest_pair)
/-! cut_once (low, high, least, most, level, steps, wide, first, last, step, bound) -/
def C1_cut_once : Envd → M D :=
    sComp false (iSeq (s1 (sCons (sVar 4) (sCons (sVar 2) (sCons (sVar 3) sNil))) Pg.sem_put_within)) (.nm 9) [9] (fun _ => ret true) (s2 (sC (.int 0)) (sVar 9) dSub)
def C2_cut_once : Envd → M D :=
    sComp false (iSeq (sVar 1)) (.nm 10) [10] (fun _ => ret true) (s2 (sC (.int 0)) (sVar 10) dSub)
def C3_cut_once : Envd → M D :=
    sComp false (iSeq (sVar 0)) (.nm 10) [10] (fun _ => ret true) (s2 (sC (.int 0)) (sVar 10) dSub)
def b_cut_once : MS :=
    sSeq (sAsg (.nm 4) (s1 (sCons (sVar 2) (sCons (sVar 3) (sCons (s2 (s2 (sVar 0) (s1 (sC (.int 1)) dNeg) dIx) (s2 (sVar 0) (sC (.int 0)) dIx) dSub) sNil))) Pg.sem_level_of))
    (sSeq (sAsg (.tp [6, 7, 8]) (s1 (sCons (sVar 1) (sCons (sVar 0) (sCons (s1 (sCons (s2 (sVar 4) (sC (.int 1)) (dAdd false)) (sCons (sVar 2) (sCons (sVar 3) sNil))) Pg.sem_put_within) sNil))) Pg.sem_widest_pair))
    (sSeq (sIfS (sTest (s2 (sVar 6) (sC (.int 0)) (cmpSem .Gt)))
      (sRet (s1 (sCons (s1 (sCons (s1 (sCons (sVar 7) (sCons (s2 (sVar 1) (sVar 7) dIx) sNil)) newTs) (sCons (s1 (sCons (sVar 8) (sCons (s2 (sVar 0) (sVar 8) dIx) sNil)) newTs) sNil)) (newLs false)) (sCons (sVar 4) sNil)) newTs))
      (sPass))
    (sSeq (sAsg (.nm 5) (Pg.C1_cut_once))
    (sSeq (sAsg (.tp [6, 7, 8]) (s1 (sCons (Pg.C3_cut_once) (sCons (Pg.C2_cut_once) (sCons (sVar 5) sNil))) Pg.sem_widest_pair))
    (sSeq (sIfS (sTest (s2 (sVar 6) (sC (.int 0)) (cmpSem .Gt)))
      (sRet (s1 (sCons (s1 (sCons (s1 (sCons (sVar 7) (sCons (s2 (sVar 0) (sVar 7) dIx) sNil)) newTs) (sCons (s1 (sCons (sVar 8) (sCons (s2 (sVar 1) (sVar 8) dIx) sNil)) newTs) sNil)) (newLs false)) (sCons (sVar 4) sNil)) newTs))
      (sPass))
    (sRet (s1 (sCons (s1 sNil (newLs false)) (sCons (sVar 4) sNil)) newTs)))))))
def sem_cut_once : List D → M D := callIO [] false (bodyS 4 11 b_cut_once)
def semM_cut_once : List D → M D := callIO [] true (bodyS 4 11 b_cut_once)
/-! parts_between (bounds, first, last, begin, end, waiting, found, low, high, ends, ties, level, one, other) -/
def L1_parts_between : MS :=
    sIfS (sAnd (sTest (s2 (sVar 10) (s1 sNil (newLs false)) (dEq true))) (sTest (s2 (s2 (sVar 12) (sC (.int 0)) dIx) (s2 (sVar 13) (sC (.int 0)) dIx) (cmpSem .Lt))))
          (sExpr (sBM (MK.chk .append) (sVar 5) (sCons (s1 (sCons (s2 (sVar 1) (s2 (sVar 12) (sC (.int 0)) dIx) (dAdd false)) (sCons (s2 (sVar 1) (s2 (sVar 13) (sC (.int 0)) dIx) (dAdd false)) (sCons (s2 (sVar 12) (sC (.int 1)) dIx) (sCons (s2 (sVar 13) (sC (.int 1)) dIx) sNil)))) newTs) sNil) (MK.sem false .append)))
          (sPass)
def L2_parts_between : MS :=
    sSeq (sAsg (.tp [1, 2, 3, 4]) (sBM chkL (sVar 5) sNil dPop))
        (sSeq (sAsg (.nm 7) (s2 (s2 (s1 (sCons (sVar 3) sNil) (newLs false)) (sSl false (s2 (sVar 0) (sC (.int 0)) dIx) (sPart (some (s2 (sVar 1) (sC (.int 1)) (dAdd false)))) (sPart (some (sVar 2)))) (dAdd false)) (s1 (sCons (sVar 4) sNil) (newLs false)) (dAdd false)))
        (sSeq (sAsg (.nm 8) (s2 (s2 (s1 (sCons (sVar 3) sNil) (newLs false)) (sSl false (s2 (sVar 0) (sC (.int 1)) dIx) (sPart (some (s2 (sVar 1) (sC (.int 1)) (dAdd false)))) (sPart (some (sVar 2)))) (dAdd false)) (s1 (sCons (sVar 4) sNil) (newLs false)) (dAdd false)))
        (sSeq (sAsg (.tp [10, 11]) (s1 (sCons (sVar 7) (sCons (sVar 8) (sCons (sSl false (s2 (sVar 0) (sC (.int 2)) dIx) (sPart (some (sVar 1))) (sPart (some (sVar 2)))) (sCons (sSl false (s2 (sVar 0) (sC (.int 3)) dIx) (sPart (some (sVar 1))) (sPart (some (sVar 2)))) sNil)))) Pg.sem_cut_once))
        (sSeq (sIfS (sTest (s2 (sVar 10) (s1 sNil (newLs false)) (dEq false)))
          (sExpr (sBM (MK.chk .append) (sVar 6) (sCons (s1 (sCons (sVar 1) (sCons (sVar 2) (sCons (sVar 3) (sCons (sVar 11) sNil)))) newTs) sNil) (MK.sem false .append)))
          (sPass))
        (sSeq (sAsg (.nm 9) (s2 (s2 (s1 (sCons (s1 (sCons (sC (.int 0)) (sCons (sVar 3) sNil)) newTs) sNil) (newLs false)) (sVar 10) (dAdd false)) (s1 (sCons (s1 (sCons (s2 (sVar 2) (sVar 1) dSub) (sCons (sVar 4) sNil)) newTs) sNil) (newLs false)) (dAdd false)))
        (sFor (.tp [12, 13]) [12, 13] (s1 (sCons (sVar 9) (sCons (sSl false (sVar 9) (sPart (some (sC (.int 1)))) (sPart none)) sNil)) dZip)
        (Pg.L1_parts_between)))))))
def b_parts_between : MS :=
    sSeq (sTup [5, 6] (sCons (s1 (sCons (s1 (sCons (sVar 1) (sCons (sVar 2) (sCons (sVar 3) (sCons (sVar 4) sNil)))) newTs) sNil) (newLs true)) (sCons (s1 sNil (newLs true)) sNil)))
    (sSeq (whileL [1, 2, 3, 4, 7, 8, 9, 10, 11, 12, 13] (sTest (s2 (sVar 5) (s1 sNil (newLs false)) (dEq true)))
      (Pg.L2_parts_between) Pg.fuel)
    (sRet (s1 (sCons (sVar 6) sNil) (BK.sem false .sorted))))
def sem_parts_between : List D → M D := callIO [] false (bodyS 5 14 b_parts_between)
def semM_parts_between : List D → M D := callIO [] true (bodyS 5 14 b_parts_between)
/-! part_ends (parts, end, part) -/
def C1_part_ends : Envd → M D :=
    sComp false (iSeq (sSl false (sVar 0) (sPart (some (sC (.int 1)))) (sPart none))) (.nm 2) [2] (fun _ => ret true) (s2 (sVar 2) (sC (.int 2)) dIx)
def b_part_ends : MS :=
    sRet (s2 (Pg.C1_part_ends) (s1 (sCons (sVar 1) sNil) (newLs false)) (dAdd false))
def sem_part_ends : List D → M D := callIO [] false (bodyS 2 3 b_part_ends)
def semM_part_ends : List D → M D := callIO [] true (bodyS 2 3 b_part_ends)
/-! band_of (bounds, part, end, base, steps, few, many, index, first, last, begin, level, least, most, plain, raised, amount, one, other) -/
def C1_band_of : Envd → M D :=
    sComp false (iSeq (s1 (sCons (sVar 14) sNil) Pg.sem_add_all)) (.nm 16) [16] (fun _ => ret true) (s2 (sVar 10) (sVar 16) (dAdd false))
def C2_band_of : Envd → M D :=
    sComp false (s1 (sCons (sVar 14) (sCons (sVar 15) sNil)) dZip) (.tp [17, 18]) [17, 18] (fun _ => ret true) (s2 (sVar 18) (sVar 17) dSub)
def C3_band_of : Envd → M D :=
    sComp false (s1 (sCons (sC (.int 1)) (sCons (s2 (sVar 9) (sVar 8) dSub) sNil)) dRange2) (.nm 7) [7] (fun _ => ret true) (s1 (sCons (sC (.int 0)) (sCons (s2 (s2 (s2 (sVar 0) (sC (.int 0)) dIx) (s2 (sVar 8) (sVar 7) (dAdd false)) dIx) (s2 (sVar 3) (sVar 7) dIx) dSub) sNil)) (BK.sem false .max))
def C4_band_of : Envd → M D :=
    sComp false (s1 (sCons (sC (.int 1)) (sCons (s2 (sVar 9) (sVar 8) dSub) sNil)) dRange2) (.nm 7) [7] (fun _ => ret true) (s2 (s2 (s2 (sVar 0) (sC (.int 1)) dIx) (s2 (sVar 8) (sVar 7) (dAdd false)) dIx) (s2 (sVar 3) (sVar 7) dIx) dSub)
def L1_band_of : MS :=
    sSeq (sSet (sVar 5) (sVar 7) (s1 (sCons (s2 (sVar 5) (sVar 7) dIx) (sCons (s2 (sVar 5) (s2 (sVar 7) (sC (.int 1)) dSub) dIx) sNil)) (BK.sem false .max)))
        (sSet (sVar 6) (sVar 7) (s1 (sCons (s2 (sVar 6) (sVar 7) dIx) (sCons (s2 (s2 (sVar 6) (s2 (sVar 7) (sC (.int 1)) dSub) dIx) (s2 (sVar 4) (s2 (sVar 7) (sC (.int 1)) dSub) dIx) (dAdd false)) sNil)) (BK.sem false .min)))
def L2_band_of : MS :=
    sSeq (sSet (sVar 5) (sVar 7) (s1 (sCons (s2 (sVar 5) (sVar 7) dIx) (sCons (s2 (s2 (sVar 5) (s2 (sVar 7) (sC (.int 1)) (dAdd false)) dIx) (s2 (sVar 4) (sVar 7) dIx) dSub) sNil)) (BK.sem false .max)))
        (sSet (sVar 6) (sVar 7) (s1 (sCons (s2 (sVar 6) (sVar 7) dIx) (sCons (s2 (sVar 6) (s2 (sVar 7) (sC (.int 1)) (dAdd false)) dIx) sNil)) (BK.sem false .min)))
def b_band_of : MS :=
    sSeq (sAsg (.tp [8, 9, 10, 11]) (sVar 1))
    (sSeq (sTup [12, 13] (sCons (sSl false (s2 (sVar 0) (sC (.int 2)) dIx) (sPart (some (sVar 8))) (sPart (some (sVar 9)))) (sCons (sSl false (s2 (sVar 0) (sC (.int 3)) dIx) (sPart (some (sVar 8))) (sPart (some (sVar 9)))) sNil)))
    (sSeq (sTup [14, 15] (sCons (s1 (sCons (sVar 11) (sCons (sVar 12) (sCons (sVar 13) sNil))) Pg.sem_put_within) (sCons (s1 (sCons (s2 (sVar 11) (sC (.int 1)) (dAdd false)) (sCons (sVar 12) (sCons (sVar 13) sNil))) Pg.sem_put_within) sNil)))
    (sSeq (sAsg (.nm 3) (Pg.C1_band_of))
    (sSeq (sAsg (.nm 4) (Pg.C2_band_of))
    (sSeq (sAsg (.nm 5) (s2 (s1 (sCons (sC (.int 0)) sNil) (newLs false)) (Pg.C3_band_of) (dAdd true)))
    (sSeq (sAsg (.nm 6) (s2 (s1 (sCons (sC (.int 0)) sNil) (newLs false)) (Pg.C4_band_of) (dAdd true)))
    (sSeq (sExpr (sBM (MK.chk .append) (sVar 5) (sCons (s2 (sVar 2) (s2 (sVar 3) (s1 (sC (.int 1)) dNeg) dIx) dSub) sNil) (MK.sem false .append)))
    (sSeq (sExpr (sBM (MK.chk .append) (sVar 6) (sCons (s2 (sVar 2) (s2 (sVar 3) (s1 (sC (.int 1)) dNeg) dIx) dSub) sNil) (MK.sem false .append)))
    (sSeq (sFor (.nm 7) [7] (s1 (sCons (sC (.int 1)) (sCons (s2 (s2 (sVar 9) (sVar 8) dSub) (sC (.int 1)) (dAdd false)) sNil)) dRange2)
      (Pg.L1_band_of))
    (sSeq (sFor (.nm 7) [7] (s1 (sCons (s2 (s2 (sVar 9) (sVar 8) dSub) (sC (.int 1)) dSub) (sCons (s1 (sC (.int 1)) dNeg) (sCons (s1 (sC (.int 1)) dNeg) sNil))) dRange3)
      (Pg.L2_band_of))
    (sRet (s1 (sCons (sVar 3) (sCons (sVar 4) (sCons (sVar 5) (sCons (sVar 6) sNil)))) newTs))))))))))))
def sem_band_of : List D → M D := callIO [] false (bodyS 3 19 b_band_of)
def semM_band_of : List D → M D := callIO [] true (bodyS 3 19 b_band_of)
/-! sums_between (bounds, first, last, begin, end, is_latest, parts, found, part, amount, base, steps, few, many, one, other) -/
def C1_sums_between : Envd → M D :=
    sComp false (s1 (sCons (sSl false (sVar 10) (sPart (some (sC (.int 1)))) (sPart none)) (sCons (sSl false (sIf (sTest (sVar 5)) (sVar 12) (sVar 13)) (sPart (some (sC (.int 1)))) (sPart none)) sNil)) dZip) (.tp [14, 15]) [14, 15] (fun _ => ret true) (s2 (sVar 14) (sVar 15) (dAdd false))
def L1_sums_between : MS :=
    sSeq (sAsg (.tp [10, 11, 12, 13]) (s1 (sCons (sVar 0) (sCons (sVar 8) (sCons (sVar 9) sNil))) Pg.sem_band_of))
        (sAsg (.nm 7) (s2 (sVar 7) (Pg.C1_sums_between) (dAdd false)))
def b_sums_between : MS :=
    sSeq (sTup [6, 7] (sCons (s1 (sCons (sVar 0) (sCons (sVar 1) (sCons (sVar 2) (sCons (sVar 3) (sCons (sVar 4) sNil))))) Pg.sem_parts_between) (sCons (s1 (sCons (sVar 3) sNil) (newLs false)) sNil)))
    (sSeq (sFor (.tp [8, 9]) [8, 9, 10, 11, 12, 13] (s1 (sCons (sVar 6) (sCons (s1 (sCons (sVar 6) (sCons (sVar 4) sNil)) Pg.sem_part_ends) sNil)) dZip)
      (Pg.L1_sums_between))
    (sRet (sVar 7)))
def sem_sums_between : List D → M D := callIO [] false (bodyS 6 16 b_sums_between)
def semM_sums_between : List D → M D := callIO [] true (bodyS 6 16 b_sums_between)
/-! Plan_total (self) -/
def b_Plan_total : MS :=
    sRet (s2 (s1 (sVar 0) (dFld 13 0)) (s1 (sC (.int 1)) dNeg) dIx)
def sem_Plan_total : List D → M D := callIO [] false (bodyS 1 1 b_Plan_total)
def semM_Plan_total : List D → M D := callIO [] true (bodyS 1 1 b_Plan_total)
/-! row_through (plan, time, amount, bounds, sums) -/
def b_row_through : MS :=
    sSeq (sAsg (.nm 3) (s1 (sCons (sVar 0) sNil) Pg.sem_bounds_of))
    (sSeq (sAsg (.nm 4) (s1 (sCons (sVar 3) (sCons (sC (.int 0)) (sCons (sVar 1) (sCons (sC (.int 0)) (sCons (sVar 2) (sCons (sC (.bl false)) sNil)))))) Pg.sem_sums_between))
    (sSeq (sIfS (sTest (s2 (sVar 1) (s1 (sVar 0) (dPrp 13 Pg.sem_Plan_times)) (cmpSem .Lt)))
      (sAsg (.nm 4) (s2 (sVar 4) (sSl false (s1 (sCons (sVar 3) (sCons (sVar 1) (sCons (s1 (sVar 0) (dPrp 13 Pg.sem_Plan_times)) (sCons (sVar 2) (sCons (s1 (sVar 0) (dPrp 13 Pg.sem_Plan_total)) (sCons (sC (.bl false)) sNil)))))) Pg.sem_sums_between) (sPart (some (sC (.int 1)))) (sPart none)) (dAdd false)))
      (sPass))
    (sRet (s1 (sCons (sVar 4) sNil) Pg.semM_entries_from))))
def sem_row_through : List D → M D := callIO [] false (bodyS 3 5 b_row_through)
def semM_row_through : List D → M D := callIO [] true (bodyS 3 5 b_row_through)
/-! through (plan, time, amount) -/
def b_through : MS :=
    sSeq (sExpr (s1 (sCons (sVar 1) (sCons (sC (.int 1)) (sCons (s1 (sVar 0) (dPrp 13 Pg.sem_Plan_times)) sNil))) Pg.sem_need_time))
    (sSeq (sExpr (s1 (sCons (sVar 0) (sCons (sVar 1) (sCons (sVar 2) sNil))) Pg.sem_need_amount))
    (sRet (s1 (sCons (sVar 0) (sCons (sVar 1) (sCons (sVar 2) sNil))) Pg.semM_row_through)))
def sem_through : List D → M D := callIO [] false (bodyS 3 3 b_through)
def semM_through : List D → M D := callIO [] true (bodyS 3 3 b_through)
/-! law_all (box, rows, k, longer, row, here, entry) -/
def L1_law_all : MS :=
    sIfS (sAnd (sTest (s2 (s2 (s2 (sVar 0) (sC (.int 0)) dIx) (sVar 2) dIx) (s2 (sVar 5) (sVar 6) (dAdd false)) (cmpSem .LtE))) (sTest (s2 (s2 (sVar 5) (sVar 6) (dAdd false)) (s2 (s2 (sVar 0) (sC (.int 1)) dIx) (sVar 2) dIx) (cmpSem .LtE))))
              (sExpr (sBM (MK.chk .append) (sVar 3) (sCons (s1 (sCons (s2 (sVar 4) (s1 (sCons (sVar 6) sNil) (newLs false)) (dAdd false)) (sCons (s2 (sVar 5) (sVar 6) (dAdd false)) sNil)) newTs) sNil) (MK.sem false .append)))
              (sPass)
def L2_law_all : MS :=
    sFor (.nm 6) [6] (s1 (sCons (s2 (s2 (sVar 0) (sC (.int 2)) dIx) (sVar 2) dIx) (sCons (s2 (s2 (s2 (sVar 0) (sC (.int 3)) dIx) (sVar 2) dIx) (sC (.int 1)) (dAdd false)) sNil)) dRange2)
            (Pg.L1_law_all)
def L3_law_all : MS :=
    sSeq (sAsg (.nm 3) (s1 sNil (newLs true)))
        (sSeq (sFor (.tp [4, 5]) [4, 5, 6] (iSeq (sVar 1))
          (Pg.L2_law_all))
        (sAsg (.nm 1) (sVar 3)))
def C1_law_all : Envd → M D :=
    sComp false (iSeq (sVar 1)) (.tp [4, 5]) [4, 5] (fun _ => ret true) (sVar 4)
def b_law_all : MS :=
    sSeq (sAsg (.nm 1) (s1 (sCons (s1 (sCons (s1 sNil (newLs false)) (sCons (sC (.int 0)) sNil)) newTs) sNil) (newLs false)))
    (sSeq (sFor (.nm 2) [2, 3, 4, 5, 6] (s1 (sCons (s1 (sCons (s2 (sVar 0) (sC (.int 0)) dIx) sNil) (BK.sem false .len)) sNil) dRange1)
      (Pg.L3_law_all))
    (sRet (Pg.C1_law_all)))
def sem_law_all : List D → M D := callIO [] false (bodyS 1 7 b_law_all)
def semM_law_all : List D → M D := callIO [] true (bodyS 1 7 b_law_all)
/-! law_price (bag, k, corners, spot) -/
def L1_law_price : MS :=
    sSeq (sAsg (.nm 3) (s2 (s2 (sVar 3) (sC (.int 1)) (dAdd false)) (s1 (sCons (sVar 0) (sCons (sC (.int 3)) sNil)) Pg.sem_law_draw) (dAdd false)))
        (sExpr (sBM (MK.chk .append) (sVar 2) (sCons (s1 (sCons (sVar 3) (sCons (s2 (sC (.int 1)) (s1 (sCons (sVar 0) (sCons (sC (.int 4)) sNil)) Pg.sem_law_draw) (dAdd false)) sNil)) newTs) sNil) (MK.sem false .append)))
def b_law_price : MS :=
    sSeq (sTup [2, 3] (sCons (s1 sNil (newLs true)) (sCons (s2 (s1 (sCons (sVar 0) (sCons (sC (.int 7)) sNil)) Pg.sem_law_draw) (sC (.int 5)) dSub) sNil)))
    (sSeq (sFor (.nm 1) [1] (s1 (sCons (s1 (sCons (sVar 0) (sCons (sC (.int 5)) sNil)) Pg.sem_law_draw) sNil) dRange1)
      (Pg.L1_law_price))
    (sRet (s1 (sCons (s2 (s1 (sCons (sVar 0) (sCons (sC (.int 9)) sNil)) Pg.sem_law_draw) (sC (.int 4)) dSub) (sCons (sVar 2) sNil)) newTs)))
def sem_law_price : List D → M D := callIO [true] false (bodyS 1 4 b_law_price)
def semM_law_price : List D → M D := callIO [true] true (bodyS 1 4 b_law_price)
/-! law_plan (box) -/
def b_law_plan : MS :=
    sRet (s1 (sCons (s2 (sVar 0) (sC (.int 0)) dIx) (sCons (s2 (sVar 0) (sC (.int 1)) dIx) (sCons (s2 (sVar 0) (sC (.int 2)) dIx) (sCons (s2 (sVar 0) (sC (.int 3)) dIx) sNil)))) Pg.mk_Plan_init)
def sem_law_plan : List D → M D := callIO [] false (bodyS 1 1 b_law_plan)
def semM_law_plan : List D → M D := callIO [] true (bodyS 1 1 b_law_plan)
/-! law_sums_v2 (row, entry, found, here) -/
def L1_law_sums_v2 : MS :=
    sSeq (sAsg (.nm 3) (s2 (sVar 3) (sVar 1) (dAdd false)))
        (sExpr (sBM (MK.chk .append) (sVar 2) (sCons (sVar 3) sNil) (MK.sem false .append)))
def b_law_sums_v2 : MS :=
    sSeq (sTup [2, 3] (sCons (s1 sNil (newLs true)) (sCons (sC (.int 0)) sNil)))
    (sSeq (sFor (.nm 1) [1] (iSeq (sVar 0))
      (Pg.L1_law_sums_v2))
    (sRet (sVar 2)))
def sem_law_sums_v2 : List D → M D := callIO [] false (bodyS 1 4 b_law_sums_v2)
def semM_law_sums_v2 : List D → M D := callIO [] true (bodyS 1 4 b_law_sums_v2)
/-! law_top (rows, way, sums, row) -/
def C1_law_top : Envd → M D :=
    sComp false (iSeq (sVar 0)) (.nm 3) [3] (fun _ => ret true) (s1 (sCons (sVar 3) sNil) Pg.sem_law_sums_v2)
def b_law_top : MS :=
    sSeq (sAsg (.nm 2) (Pg.C1_law_top))
    (sRet (s2 (sVar 0) (sBM (MK.chk .index) (sVar 2) (sCons (sIf (sTest (s2 (sVar 1) (sC (.int 0)) (cmpSem .Gt))) (s1 (sCons (sVar 2) sNil) (BK.sem false .max)) (s1 (sCons (sVar 2) sNil) (BK.sem false .min))) sNil) (MK.sem false .index)) dIx))
def sem_law_top : List D → M D := callIO [] false (bodyS 2 4 b_law_top)
def semM_law_top : List D → M D := callIO [] true (bodyS 2 4 b_law_top)
/-! law_squares (row, entry) -/
def C1_law_squares : Envd → M D :=
    sComp false (iSeq (sVar 0)) (.nm 1) [1] (fun _ => ret true) (s2 (sVar 1) (sVar 1) (dMul false))
def b_law_squares : MS :=
    sRet (s1 (sCons (Pg.C1_law_squares) sNil) (BK.sem false .sum))
def sem_law_squares : List D → M D := callIO [] false (bodyS 1 2 b_law_squares)
def semM_law_squares : List D → M D := callIO [] true (bodyS 1 2 b_law_squares)
/-! is_corner (thing) -/
def b_is_corner : MS :=
    sSeq (sIfS (sOr (sNot (sTest (s1 (sVar 0) (dIsi [.tuple])))) (sOr (sTest (s2 (s1 (sCons (sVar 0) sNil) (BK.sem false .len)) (sC (.int 2)) (dEq true))) (sOr (sNot (sTest (s1 (sCons (s2 (sVar 0) (sC (.int 0)) dIx) sNil) Pg.sem_is_integer))) (sNot (sTest (s1 (sCons (s2 (sVar 0) (sC (.int 1)) dIx) sNil) Pg.sem_is_integer))))))
      (sRet (sC (.bl false)))
      (sPass))
    (sRet (s2 (s2 (sVar 0) (sC (.int 1)) dIx) (sC (.int 1)) (cmpSem .GtE)))
def sem_is_corner : List D → M D := callIO [] false (bodyS 1 1 b_is_corner)
def semM_is_corner : List D → M D := callIO [] true (bodyS 1 1 b_is_corner)
/-! is_price (thing, corners, corner, one, other) -/
def C1_is_price : Envd → M D :=
    sComp false (iSeq (sVar 1)) (.nm 2) [2] (fun _ => ret true) (s1 (sCons (sVar 2) sNil) Pg.sem_is_corner)
def C2_is_price : Envd → M D :=
    sComp false (s1 (sCons (sVar 1) (sCons (sSl false (sVar 1) (sPart (some (sC (.int 1)))) (sPart none)) sNil)) dZip) (.tp [3, 4]) [3, 4] (fun _ => ret true) (s2 (s2 (sVar 3) (sC (.int 0)) dIx) (s2 (sVar 4) (sC (.int 0)) dIx) (cmpSem .Lt))
def b_is_price : MS :=
    sSeq (sIfS (sOr (sNot (sTest (s1 (sVar 0) (dIsi [.tuple])))) (sOr (sTest (s2 (s1 (sCons (sVar 0) sNil) (BK.sem false .len)) (sC (.int 2)) (dEq true))) (sNot (sTest (s1 (sCons (s2 (sVar 0) (sC (.int 0)) dIx) sNil) Pg.sem_is_integer)))))
      (sRet (sC (.bl false)))
      (sPass))
    (sSeq (sAsg (.nm 1) (s2 (sVar 0) (sC (.int 1)) dIx))
    (sSeq (sIfS (sOr (sNot (sTest (s1 (sVar 1) (dIsi [.list])))) (sTest (s2 (s1 (sCons (sVar 1) sNil) (BK.sem false .len)) (sC (.int 12)) (cmpSem .Gt))))
      (sRet (sC (.bl false)))
      (sPass))
    (sSeq (sIfS (sNot (sTest (s1 (sCons (Pg.C1_is_price) sNil) (BK.sem false .all))))
      (sRet (sC (.bl false)))
      (sPass))
    (sRet (s1 (sCons (Pg.C2_is_price) sNil) (BK.sem false .all))))))
def sem_is_price : List D → M D := callIO [] false (bodyS 1 5 b_is_price)
def semM_is_price : List D → M D := callIO [] true (bodyS 1 5 b_is_price)
/-! need_price (price) -/
def b_need_price : MS :=
    sIfS (sNot (sTest (s1 (sCons (sVar 0) sNil) Pg.sem_is_price)))
    (sRaise 6)
    (sPass)
def sem_need_price : List D → M D := callIO [] false (bodyS 1 1 b_need_price)
def semM_need_price : List D → M D := callIO [] true (bodyS 1 1 b_need_price)
/-! price_of (price, value, slope, corners, place, more) -/
def C1_price_of : Envd → M D :=
    sComp false (iSeq (sVar 3)) (.tp [4, 5]) [4, 5] (fun _ => ret true) (s2 (sVar 5) (s2 (s1 (sCons (sC (.int 0)) (sCons (s2 (sVar 1) (sVar 4) dSub) sNil)) (BK.sem false .max)) (s1 (sCons (sC (.int 0)) (sCons (s2 (sC (.int 0)) (sVar 4) dSub) sNil)) (BK.sem false .max)) dSub) (dMul false))
def b_price_of : MS :=
    sSeq (sAsg (.tp [2, 3]) (sVar 0))
    (sRet (s2 (s2 (sVar 2) (sVar 1) (dMul false)) (s1 (sCons (Pg.C1_price_of) sNil) (BK.sem false .sum)) (dAdd false)))
def sem_price_of : List D → M D := callIO [] false (bodyS 2 6 b_price_of)
def semM_price_of : List D → M D := callIO [] true (bodyS 2 6 b_price_of)
/-! price_through (plan, price, time, amount, entry) -/
def C1_price_through : Envd → M D :=
    sComp false (iSeq (s1 (sCons (sVar 0) (sCons (sVar 2) (sCons (sVar 3) sNil))) Pg.sem_row_through)) (.nm 4) [4] (fun _ => ret true) (s1 (sCons (sVar 1) (sCons (sVar 4) sNil)) Pg.sem_price_of)
def b_price_through : MS :=
    sRet (s1 (sCons (Pg.C1_price_through) sNil) (BK.sem false .sum))
def sem_price_through : List D → M D := callIO [] false (bodyS 4 5 b_price_through)
def semM_price_through : List D → M D := callIO [] true (bodyS 4 5 b_price_through)
/-! slope (plan, price, time, amount) -/
def b_slope : MS :=
    sSeq (sExpr (s1 (sCons (sVar 1) sNil) Pg.sem_need_price))
    (sSeq (sExpr (s1 (sCons (sVar 2) (sCons (sC (.int 1)) (sCons (s1 (sVar 0) (dPrp 13 Pg.sem_Plan_times)) sNil))) Pg.sem_need_time))
    (sSeq (sExpr (s1 (sCons (sVar 0) (sCons (sVar 2) (sCons (sVar 3) sNil))) Pg.sem_need_amount))
    (sSeq (sExpr (s1 (sCons (sVar 0) (sCons (sVar 2) (sCons (s2 (sVar 3) (sC (.int 1)) (dAdd false)) sNil))) Pg.sem_need_amount))
    (sRet (s2 (s1 (sCons (sVar 0) (sCons (sVar 1) (sCons (sVar 2) (sCons (s2 (sVar 3) (sC (.int 1)) (dAdd false)) sNil)))) Pg.sem_price_through) (s1 (sCons (sVar 0) (sCons (sVar 1) (sCons (sVar 2) (sCons (sVar 3) sNil)))) Pg.sem_price_through) dSub)))))
def sem_slope : List D → M D := callIO [] false (bodyS 4 4 b_slope)
def semM_slope : List D → M D := callIO [] true (bodyS 4 4 b_slope)
/-! law_cost (row, fee, found, entry, spot, more) -/
def L1_law_cost : MS :=
    sAsg (.nm 2) (s2 (sVar 2) (s2 (sVar 5) (s2 (s1 (sCons (sC (.int 0)) (sCons (s2 (sVar 3) (sVar 4) dSub) sNil)) (BK.sem false .max)) (s1 (sCons (sC (.int 0)) (sCons (s2 (sC (.int 0)) (sVar 4) dSub) sNil)) (BK.sem false .max)) dSub) (dMul false)) (dAdd false))
def L2_law_cost : MS :=
    sSeq (sAsg (.nm 2) (s2 (sVar 2) (s2 (s2 (sVar 1) (sC (.int 0)) dIx) (sVar 3) (dMul false)) (dAdd false)))
        (sFor (.tp [4, 5]) [4, 5] (iSeq (s2 (sVar 1) (sC (.int 1)) dIx))
        (Pg.L1_law_cost))
def b_law_cost : MS :=
    sSeq (sAsg (.nm 2) (sC (.int 0)))
    (sSeq (sFor (.nm 3) [3, 4, 5] (iSeq (sVar 0))
      (Pg.L2_law_cost))
    (sRet (sVar 2)))
def sem_law_cost : List D → M D := callIO [] false (bodyS 2 6 b_law_cost)
def semM_law_cost : List D → M D := callIO [] true (bodyS 2 6 b_law_cost)
/-! cost_through (plan, price, time, amount) -/
def b_cost_through : MS :=
    sSeq (sExpr (s1 (sCons (sVar 1) sNil) Pg.sem_need_price))
    (sSeq (sExpr (s1 (sCons (sVar 2) (sCons (sC (.int 1)) (sCons (s1 (sVar 0) (dPrp 13 Pg.sem_Plan_times)) sNil))) Pg.sem_need_time))
    (sSeq (sExpr (s1 (sCons (sVar 0) (sCons (sVar 2) (sCons (sVar 3) sNil))) Pg.sem_need_amount))
    (sRet (s1 (sCons (sVar 0) (sCons (sVar 1) (sCons (sVar 2) (sCons (sVar 3) sNil)))) Pg.sem_price_through))))
def sem_cost_through : List D → M D := callIO [] false (bodyS 4 4 b_cost_through)
def semM_cost_through : List D → M D := callIO [] true (bodyS 4 4 b_cost_through)
/-! law_great (bag, most, far, row, loose, near, entry, under, over, low, high, here, k) -/
def C1_law_great : Envd → M D :=
    sComp false (s1 (sCons (s2 (sC (.int 2)) (s1 (sCons (sVar 0) (sCons (sVar 1) sNil)) Pg.sem_law_draw) (dAdd false)) sNil) dRange1) (.nm 12) [12] (fun _ => ret true) (s2 (s1 (sCons (sVar 0) (sCons (sVar 2) sNil)) Pg.sem_law_draw) (s2 (sVar 2) (sC (.int 3)) dDiv) dSub)
def L1_law_great : MS :=
    sSeq (sAsg (.nm 11) (s2 (sVar 11) (sVar 6) (dAdd false)))
        (sSeq (sExpr (sBM (MK.chk .append) (sVar 7) (sCons (s2 (sVar 6) (s1 (sCons (sVar 0) (sCons (sVar 5) sNil)) Pg.sem_law_draw) dSub) sNil) (MK.sem false .append)))
        (sSeq (sExpr (sBM (MK.chk .append) (sVar 8) (sCons (s2 (sVar 6) (s1 (sCons (sVar 0) (sCons (sVar 5) sNil)) Pg.sem_law_draw) (dAdd false)) sNil) (MK.sem false .append)))
        (sSeq (sExpr (sBM (MK.chk .append) (sVar 9) (sCons (s2 (sVar 11) (s1 (sCons (sVar 0) (sCons (sVar 4) sNil)) Pg.sem_law_draw) dSub) sNil) (MK.sem false .append)))
        (sExpr (sBM (MK.chk .append) (sVar 10) (sCons (s2 (sVar 11) (s1 (sCons (sVar 0) (sCons (sVar 4) sNil)) Pg.sem_law_draw) (dAdd false)) sNil) (MK.sem false .append))))))
def b_law_great : MS :=
    sSeq (sAsg (.nm 3) (Pg.C1_law_great))
    (sSeq (sTup [7, 8, 9, 10, 11] (sCons (s1 sNil (newLs true)) (sCons (s1 sNil (newLs true)) (sCons (s1 sNil (newLs true)) (sCons (s1 sNil (newLs true)) (sCons (sC (.int 0)) sNil))))))
    (sSeq (sAsg (.nm 4) (s2 (s1 (sCons (sC (.int 1)) (sCons (s2 (sC (.int 1)) (s2 (sVar 2) (sC (.int 3)) dDiv) (dAdd false)) (sCons (s2 (sC (.int 2)) (sVar 2) (dMul false)) (sCons (s2 (sC (.int 9)) (sVar 2) (dMul false)) sNil)))) (newLs false)) (s1 (sCons (sVar 0) (sCons (sC (.int 4)) sNil)) Pg.sem_law_draw) dIx))
    (sSeq (sAsg (.nm 5) (s2 (s1 (sCons (s2 (sC (.int 1)) (s2 (sVar 2) (sC (.int 9)) dDiv) (dAdd false)) (sCons (s2 (sC (.int 1)) (sVar 2) (dAdd false)) (sCons (s2 (sC (.int 7)) (sVar 2) (dMul false)) sNil))) (newLs false)) (s1 (sCons (sVar 0) (sCons (sC (.int 3)) sNil)) Pg.sem_law_draw) dIx))
    (sSeq (sFor (.nm 6) [6] (iSeq (sVar 3))
      (Pg.L1_law_great))
    (sRet (s1 (sCons (s2 (sSl false (sVar 9) (sPart none) (sPart (some (s1 (sC (.int 1)) dNeg)))) (s1 (sCons (sVar 11) sNil) (newLs false)) (dAdd false)) (sCons (s2 (sSl false (sVar 10) (sPart none) (sPart (some (s1 (sC (.int 1)) dNeg)))) (s1 (sCons (sVar 11) sNil) (newLs false)) (dAdd false)) (sCons (sVar 7) (sCons (sVar 8) sNil)))) newTs))))))
def sem_law_great : List D → M D := callIO [true] false (bodyS 3 13 b_law_great)
def semM_law_great : List D → M D := callIO [true] true (bodyS 3 13 b_law_great)
/-! law_limits (box, k, low, high) -/
def L1_law_limits : MS :=
    sSeq (sSet (sVar 2) (sVar 1) (s1 (sCons (s2 (sVar 2) (sVar 1) dIx) (sCons (s2 (s2 (sVar 2) (s2 (sVar 1) (sC (.int 1)) dSub) dIx) (s2 (s2 (sVar 0) (sC (.int 2)) dIx) (s2 (sVar 1) (sC (.int 1)) dSub) dIx) (dAdd false)) sNil)) (BK.sem false .max)))
        (sSet (sVar 3) (sVar 1) (s1 (sCons (s2 (sVar 3) (sVar 1) dIx) (sCons (s2 (s2 (sVar 3) (s2 (sVar 1) (sC (.int 1)) dSub) dIx) (s2 (s2 (sVar 0) (sC (.int 3)) dIx) (s2 (sVar 1) (sC (.int 1)) dSub) dIx) (dAdd false)) sNil)) (BK.sem false .min)))
def L2_law_limits : MS :=
    sSeq (sSet (sVar 2) (sVar 1) (s1 (sCons (s2 (sVar 2) (sVar 1) dIx) (sCons (s2 (s2 (sVar 2) (s2 (sVar 1) (sC (.int 1)) (dAdd false)) dIx) (s2 (s2 (sVar 0) (sC (.int 3)) dIx) (sVar 1) dIx) dSub) sNil)) (BK.sem false .max)))
        (sSet (sVar 3) (sVar 1) (s1 (sCons (s2 (sVar 3) (sVar 1) dIx) (sCons (s2 (s2 (sVar 3) (s2 (sVar 1) (sC (.int 1)) (dAdd false)) dIx) (s2 (s2 (sVar 0) (sC (.int 2)) dIx) (sVar 1) dIx) dSub) sNil)) (BK.sem false .min)))
def b_law_limits : MS :=
    sSeq (sTup [2, 3] (sCons (s2 (s1 (sCons (sC (.int 0)) sNil) (newLs false)) (s2 (sVar 0) (sC (.int 0)) dIx) (dAdd true)) (sCons (s2 (s1 (sCons (sC (.int 0)) sNil) (newLs false)) (s2 (sVar 0) (sC (.int 1)) dIx) (dAdd true)) sNil)))
    (sSeq (sFor (.nm 1) [1] (s1 (sCons (sC (.int 1)) (sCons (s1 (sCons (sVar 2) sNil) (BK.sem false .len)) sNil)) dRange2)
      (Pg.L1_law_limits))
    (sSeq (sFor (.nm 1) [1] (s1 (sCons (s2 (s1 (sCons (sVar 2) sNil) (BK.sem false .len)) (sC (.int 2)) dSub) (sCons (s1 (sC (.int 1)) dNeg) (sCons (s1 (sC (.int 1)) dNeg) sNil))) dRange3)
      (Pg.L2_law_limits))
    (sRet (s1 (sCons (sVar 2) (sCons (sVar 3) sNil)) newTs))))
def sem_law_limits : List D → M D := callIO [] false (bodyS 1 4 b_law_limits)
def semM_law_limits : List D → M D := callIO [] true (bodyS 1 4 b_law_limits)
/-! best_sums (plan, is_latest) -/
def b_best_sums : MS :=
    sRet (s1 (sCons (s1 (sCons (sVar 0) sNil) Pg.sem_bounds_of) (sCons (sC (.int 0)) (sCons (s1 (sVar 0) (dPrp 13 Pg.sem_Plan_times)) (sCons (sC (.int 0)) (sCons (s1 (sVar 0) (dPrp 13 Pg.sem_Plan_total)) (sCons (sVar 1) sNil)))))) Pg.sem_sums_between)
def sem_best_sums : List D → M D := callIO [] false (bodyS 2 2 b_best_sums)
def semM_best_sums : List D → M D := callIO [] true (bodyS 2 2 b_best_sums)
/-! best_row (plan) -/
def b_best_row : MS :=
    sSeq (sExpr (s1 (sCons (sVar 0) sNil) Pg.sem_need_rows))
    (sRet (s1 (sCons (s1 (sCons (sVar 0) (sCons (sC (.bl false)) sNil)) Pg.sem_best_sums) sNil) Pg.sem_entries_from))
def sem_best_row : List D → M D := callIO [] false (bodyS 1 1 b_best_row)
def semM_best_row : List D → M D := callIO [] true (bodyS 1 1 b_best_row)
/-! sum_range (plan, time, low, high) -/
def b_sum_range : MS :=
    sSeq (sExpr (s1 (sCons (sVar 1) (sCons (sC (.int 0)) (sCons (s1 (sVar 0) (dPrp 13 Pg.sem_Plan_times)) sNil))) Pg.sem_need_time))
    (sSeq (sExpr (s1 (sCons (sVar 0) sNil) Pg.sem_need_rows))
    (sSeq (sAsg (.tp [2, 3]) (s1 (sCons (sVar 0) sNil) Pg.sem_sum_limits))
    (sRet (s1 (sCons (s2 (sVar 2) (sVar 1) dIx) (sCons (s2 (sVar 3) (sVar 1) dIx) sNil)) newTs))))
def sem_sum_range : List D → M D := callIO [] false (bodyS 2 4 b_sum_range)
def semM_sum_range : List D → M D := callIO [] true (bodyS 2 4 b_sum_range)
/-! law_is_row (box, row, sums, k) -/
def L1_law_is_row : MS :=
    sIfS (sOr (sTest (s2 (s2 (sVar 1) (sVar 3) dIx) (s2 (s2 (sVar 0) (sC (.int 2)) dIx) (sVar 3) dIx) (cmpSem .Lt))) (sOr (sTest (s2 (s2 (sVar 1) (sVar 3) dIx) (s2 (s2 (sVar 0) (sC (.int 3)) dIx) (sVar 3) dIx) (cmpSem .Gt))) (sOr (sTest (s2 (s2 (sVar 2) (sVar 3) dIx) (s2 (s2 (sVar 0) (sC (.int 0)) dIx) (sVar 3) dIx) (cmpSem .Lt))) (sTest (s2 (s2 (sVar 2) (sVar 3) dIx) (s2 (s2 (sVar 0) (sC (.int 1)) dIx) (sVar 3) dIx) (cmpSem .Gt))))))
        (sRet (sC (.bl false)))
        (sPass)
def b_law_is_row : MS :=
    sSeq (sAsg (.nm 2) (s1 (sCons (sVar 1) sNil) Pg.sem_law_sums_v2))
    (sSeq (sIfS (sTest (s2 (s1 (sCons (sVar 1) sNil) (BK.sem false .len)) (s1 (sCons (s2 (sVar 0) (sC (.int 0)) dIx) sNil) (BK.sem false .len)) (dEq true)))
      (sRet (sC (.bl false)))
      (sPass))
    (sSeq (sFor (.nm 3) [3] (s1 (sCons (s1 (sCons (sVar 1) sNil) (BK.sem false .len)) sNil) dRange1)
      (Pg.L1_law_is_row))
    (sRet (sC (.bl true)))))
def sem_law_is_row : List D → M D := callIO [] false (bodyS 2 4 b_law_is_row)
def semM_law_is_row : List D → M D := callIO [] true (bodyS 2 4 b_law_is_row)
/-! least_cost (plan, price, entry) -/
def C1_least_cost : Envd → M D :=
    sComp false (iSeq (s1 (sCons (sVar 0) sNil) Pg.sem_best_row)) (.nm 2) [2] (fun _ => ret true) (s1 (sCons (sVar 1) (sCons (sVar 2) sNil)) Pg.sem_price_of)
def b_least_cost : MS :=
    sSeq (sExpr (s1 (sCons (sVar 1) sNil) Pg.sem_need_price))
    (sRet (s1 (sCons (Pg.C1_least_cost) sNil) (BK.sem false .sum)))
def sem_least_cost : List D → M D := callIO [] false (bodyS 2 3 b_least_cost)
def semM_least_cost : List D → M D := callIO [] true (bodyS 2 3 b_least_cost)
/-! latest_row (plan) -/
def b_latest_row : MS :=
    sSeq (sExpr (s1 (sCons (sVar 0) sNil) Pg.sem_need_rows))
    (sRet (s1 (sCons (s1 (sCons (sVar 0) (sCons (sC (.bl true)) sNil)) Pg.sem_best_sums) sNil) Pg.sem_entries_from))
def sem_latest_row : List D → M D := callIO [] false (bodyS 1 1 b_latest_row)
def semM_latest_row : List D → M D := callIO [] true (bodyS 1 1 b_latest_row)
/-! is_row (plan, thing, one, amount, other, entry) -/
def C1_is_row : Envd → M D :=
    sComp false (s1 (sCons (s1 (sVar 0) (dPrp 13 Pg.sem_Plan_least)) (sCons (sVar 1) (sCons (s1 (sVar 0) (dPrp 13 Pg.sem_Plan_most)) sNil))) dZipN) (.tp [2, 5, 4]) [2, 5, 4] (fun _ => ret true) (sChain (cmpSem .LtE) (cmpSem .LtE) (sVar 2) (sVar 5) (sVar 4))
def C2_is_row : Envd → M D :=
    sComp false (s1 (sCons (s1 (sVar 0) (dPrp 13 Pg.sem_Plan_low)) (sCons (sSl false (s1 (sCons (sVar 1) sNil) Pg.sem_add_all) (sPart (some (sC (.int 1)))) (sPart none)) (sCons (s1 (sVar 0) (dPrp 13 Pg.sem_Plan_high)) sNil))) dZipN) (.tp [2, 3, 4]) [2, 3, 4] (fun _ => ret true) (sChain (cmpSem .LtE) (cmpSem .LtE) (sVar 2) (sVar 3) (sVar 4))
def b_is_row : MS :=
    sSeq (sIfS (sOr (sNot (sTest (s1 (sCons (sVar 1) sNil) Pg.sem_are_integers))) (sTest (s2 (s1 (sCons (sVar 1) sNil) (BK.sem false .len)) (s1 (sVar 0) (dPrp 13 Pg.sem_Plan_times)) (dEq true))))
      (sRet (sC (.bl false)))
      (sPass))
    (sSeq (sIfS (sNot (sTest (s1 (sCons (Pg.C1_is_row) sNil) (BK.sem false .all))))
      (sRet (sC (.bl false)))
      (sPass))
    (sRet (s1 (sCons (Pg.C2_is_row) sNil) (BK.sem false .all))))
def sem_is_row : List D → M D := callIO [] false (bodyS 2 6 b_is_row)
def semM_is_row : List D → M D := callIO [] true (bodyS 2 6 b_is_row)
/-! need_row (plan, row) -/
def b_need_row : MS :=
    sIfS (sNot (sTest (s1 (sCons (sVar 0) (sCons (sVar 1) sNil)) Pg.sem_is_row)))
    (sRaise 2)
    (sPass)
def sem_need_row : List D → M D := callIO [] false (bodyS 2 2 b_need_row)
def semM_need_row : List D → M D := callIO [] true (bodyS 2 2 b_need_row)
/-! swap_limits (plan, sums, time, first, last, low, high) -/
def L1_swap_limits : MS :=
    sAsg (.nm 3) (s2 (sVar 3) (sC (.int 1)) dSub)
def L2_swap_limits : MS :=
    sAsg (.nm 4) (s2 (sVar 4) (sC (.int 1)) (dAdd false))
def b_swap_limits : MS :=
    sSeq (sTup [3, 4] (sCons (sVar 2) (sCons (sVar 2) sNil)))
    (sSeq (sTup [5, 6] (sCons (s2 (s1 (sCons (sC (.int 0)) sNil) (newLs false)) (s1 (sVar 0) (dPrp 13 Pg.sem_Plan_low)) (dAdd false)) (sCons (s2 (s1 (sCons (sC (.int 0)) sNil) (newLs false)) (s1 (sVar 0) (dPrp 13 Pg.sem_Plan_high)) (dAdd false)) sNil)))
    (sSeq (whileL [] (sAnd (sTest (s2 (sVar 3) (sC (.int 1)) (cmpSem .Gt))) (sTest (s2 (s2 (sVar 1) (s2 (sVar 3) (sC (.int 1)) dSub) dIx) (s2 (sVar 6) (s2 (sVar 3) (sC (.int 1)) dSub) dIx) (cmpSem .Lt))))
      (Pg.L1_swap_limits) Pg.fuel)
    (sSeq (whileL [] (sAnd (sTest (s2 (sVar 4) (s1 (sVar 0) (dPrp 13 Pg.sem_Plan_times)) (cmpSem .Lt))) (sTest (s2 (s2 (sVar 1) (sVar 4) dIx) (s2 (sVar 5) (sVar 4) dIx) (cmpSem .Gt))))
      (Pg.L2_swap_limits) Pg.fuel)
    (sRet (s1 (sCons (sVar 3) (sCons (sVar 4) sNil)) newTs)))))
def sem_swap_limits : List D → M D := callIO [] false (bodyS 3 7 b_swap_limits)
def semM_swap_limits : List D → M D := callIO [] true (bodyS 3 7 b_swap_limits)
/-! evening_swap (plan, row, giving, sums, least, most, entry, taking, first, last) -/
def L1_evening_swap : MS :=
    sIfS (sAnd (sTest (s2 (s2 (sVar 1) (s2 (sVar 7) (sC (.int 1)) dSub) dIx) (s2 (sVar 6) (sC (.int 2)) dSub) (cmpSem .LtE))) (sTest (s2 (s2 (sVar 1) (s2 (sVar 7) (sC (.int 1)) dSub) dIx) (s2 (sVar 5) (s2 (sVar 7) (sC (.int 1)) dSub) dIx) (cmpSem .Lt))))
            (sRet (s1 (sCons (sVar 2) (sCons (sVar 7) sNil)) newTs))
            (sPass)
def L2_evening_swap : MS :=
    sSeq (sAsg (.nm 6) (s2 (sVar 1) (s2 (sVar 2) (sC (.int 1)) dSub) dIx))
        (sIfS (sTest (s2 (sVar 6) (s2 (sVar 4) (s2 (sVar 2) (sC (.int 1)) dSub) dIx) (cmpSem .Gt)))
        (sSeq (sAsg (.tp [8, 9]) (s1 (sCons (sVar 0) (sCons (sVar 3) (sCons (sVar 2) sNil))) Pg.sem_swap_limits))
          (sFor (.nm 7) [7] (s1 (sCons (sVar 8) (sCons (s2 (sVar 9) (sC (.int 1)) (dAdd false)) sNil)) dRange2)
          (Pg.L1_evening_swap)))
        (sPass))
def b_evening_swap : MS :=
    sSeq (sExpr (s1 (sCons (sVar 0) sNil) Pg.sem_need_rows))
    (sSeq (sExpr (s1 (sCons (sVar 0) (sCons (sVar 1) sNil)) Pg.sem_need_row))
    (sSeq (sTup [3, 4, 5] (sCons (s1 (sCons (sVar 1) sNil) Pg.sem_add_all) (sCons (s1 (sVar 0) (dPrp 13 Pg.sem_Plan_least)) (sCons (s1 (sVar 0) (dPrp 13 Pg.sem_Plan_most)) sNil))))
    (sSeq (sFor (.nm 2) [2, 6, 7, 8, 9] (s1 (sCons (sC (.int 1)) (sCons (s2 (s1 (sVar 0) (dPrp 13 Pg.sem_Plan_times)) (sC (.int 1)) (dAdd false)) sNil)) dRange2)
      (Pg.L2_evening_swap))
    (sRet (sC .non)))))
def sem_evening_swap : List D → M D := callIO [] false (bodyS 2 10 b_evening_swap)
def semM_evening_swap : List D → M D := callIO [] true (bodyS 2 10 b_evening_swap)
/-! is_best (plan, row) -/
def b_is_best : MS :=
    sRet (s2 (s1 (sCons (sVar 0) (sCons (sVar 1) sNil)) Pg.sem_evening_swap) (sC .non) (dIsN false))
def sem_is_best : List D → M D := callIO [] false (bodyS 2 2 b_is_best)
def semM_is_best : List D → M D := callIO [] true (bodyS 2 2 b_is_best)
/-! shifts (plan, other, one, two) -/
def C1_shifts : Envd → M D :=
    sComp true (s1 (sCons (sSl false (s1 (sCons (sVar 0) (sCons (sC (.bl false)) sNil)) Pg.sem_best_sums) (sPart (some (sC (.int 1)))) (sPart none)) (sCons (sSl false (s1 (sCons (sVar 1) (sCons (sC (.bl false)) sNil)) Pg.sem_best_sums) (sPart (some (sC (.int 1)))) (sPart none)) sNil)) dZip) (.tp [2, 3]) [2, 3] (fun _ => ret true) (s2 (sVar 3) (sVar 2) dSub)
def b_shifts : MS :=
    sSeq (sIfS (sTest (s2 (s1 (sVar 1) (dPrp 13 Pg.sem_Plan_times)) (s1 (sVar 0) (dPrp 13 Pg.sem_Plan_times)) (dEq true)))
      (sRaise 5)
      (sPass))
    (sSeq (sExpr (s1 (sCons (sVar 0) sNil) Pg.sem_need_rows))
    (sSeq (sExpr (s1 (sCons (sVar 1) sNil) Pg.sem_need_rows))
    (sRet (Pg.C1_shifts))))
def sem_shifts : List D → M D := callIO [] false (bodyS 2 4 b_shifts)
def semM_shifts : List D → M D := callIO [] true (bodyS 2 4 b_shifts)
/-! excess (plan, rate, entry) -/
def C1_excess : Envd → M D :=
    sComp false (iSeq (s1 (sCons (sVar 0) sNil) Pg.sem_best_row)) (.nm 2) [2] (fun _ => ret true) (s1 (sCons (sC (.int 0)) (sCons (s2 (sVar 2) (sVar 1) dSub) sNil)) (BK.sem false .max))
def b_excess : MS :=
    sRet (s1 (sCons (Pg.C1_excess) sNil) (BK.sem false .sum))
def sem_excess : List D → M D := callIO [] false (bodyS 2 3 b_excess)
def semM_excess : List D → M D := callIO [] true (bodyS 2 3 b_excess)
/-! are_needs (thing, size) -/
def b_are_needs : MS :=
    sSeq (sIfS (sOr (sNot (sTest (s1 (sVar 0) (dIsi [.list])))) (sNot (sTest (sChain (cmpSem .LtE) (cmpSem .LtE) (sC (.int 1)) (s1 (sCons (sVar 0) sNil) (BK.sem false .len)) (sC (.int 200))))))
      (sRet (sC (.bl false)))
      (sPass))
    (sRet (s1 (sCons (sComp false (iSeq (sVar 0)) (.nm 1) [1] (fun _ => ret true) (vAnd (s1 (sCons (sVar 1) sNil) Pg.sem_is_integer) (s2 (sVar 1) (sC (.int 0)) (cmpSem .GtE)))) sNil) (BK.sem false .all)))
def sem_are_needs : List D → M D := callIO [] false (bodyS 1 2 b_are_needs)
def semM_are_needs : List D → M D := callIO [] true (bodyS 1 2 b_are_needs)
/-! need_needs (thing) -/
def b_need_needs : MS :=
    sIfS (sNot (sTest (s1 (sCons (sVar 0) sNil) Pg.sem_are_needs)))
    (sRaise 7)
    (sPass)
def sem_need_needs : List D → M D := callIO [] false (bodyS 1 1 b_need_needs)
def semM_need_needs : List D → M D := callIO [] true (bodyS 1 1 b_need_needs)
/-! need_sizes (numbers, number) -/
def b_need_sizes : MS :=
    sIfS (sTest (s2 (sComp false (iSeq (sVar 0)) (.nm 1) [1] (sTest (s2 (sVar 1) (sC (.int 0)) (cmpSem .Lt))) (sVar 1)) (s1 sNil (newLs false)) (dEq true)))
    (sRaise 5)
    (sPass)
def sem_need_sizes : List D → M D := callIO [] false (bodyS 1 2 b_need_sizes)
def semM_need_sizes : List D → M D := callIO [] true (bodyS 1 2 b_need_sizes)
/-! need_delay (needs, delay) -/
def b_need_delay : MS :=
    sIfS (sOr (sTest (s2 (sVar 1) (sC (.int 0)) (cmpSem .Lt))) (sTest (s2 (s2 (s1 (sCons (sVar 0) sNil) (BK.sem false .len)) (sVar 1) (dAdd false)) (sC (.int 200)) (cmpSem .Gt))))
    (sRaise 5)
    (sPass)
def sem_need_delay : List D → M D := callIO [] false (bodyS 2 2 b_need_delay)
def semM_need_delay : List D → M D := callIO [] true (bodyS 2 2 b_need_delay)
/-! taken_sums (needs, delay) -/
def b_taken_sums : MS :=
    sRet (s2 (s2 (s1 (sCons (sC (.int 0)) sNil) (newLs false)) (sVar 1) (dMul false)) (s1 (sCons (sVar 0) sNil) Pg.sem_add_all) (dAdd false))
def sem_taken_sums : List D → M D := callIO [] false (bodyS 2 2 b_taken_sums)
def semM_taken_sums : List D → M D := callIO [] true (bodyS 2 2 b_taken_sums)
/-! plan_between_bounds (low, high, rate, index, value) -/
def b_plan_between_bounds : MS :=
    sSeq (sFor (.tp [3, 4]) [3, 4] (s1 (sCons (sVar 0) sNil) dEnum)
      (sIfS (sTest (s2 (sVar 4) (s2 (sVar 1) (sVar 3) dIx) (cmpSem .Gt)))
        (sRaiseF 11 2 (sCons (s2 (sVar 3) (sC (.int 1)) (dAdd false)) (sCons (s2 (sVar 3) (sC (.int 1)) (dAdd false)) sNil)))
        (sPass)))
    (sRet (s1 (sCons (sVar 0) (sCons (sVar 1) (sCons (s2 (s1 (sCons (sC (.int 0)) sNil) (newLs false)) (s1 (sCons (sVar 0) sNil) (BK.sem false .len)) (dMul false)) (sCons (s2 (s1 (sCons (sVar 2) sNil) (newLs false)) (s1 (sCons (sVar 0) sNil) (BK.sem false .len)) (dMul false)) sNil)))) Pg.mk_Plan_init))
def sem_plan_between_bounds : List D → M D := callIO [] false (bodyS 3 5 b_plan_between_bounds)
def semM_plan_between_bounds : List D → M D := callIO [] true (bodyS 3 5 b_plan_between_bounds)
/-! plan_between (made, needs, sender, receiver, delay, rate, taken, there, low, high, one, other, before) -/
def C1_plan_between : Envd → M D :=
    sComp false (s1 (sCons (sSl false (sVar 6) (sPart (some (sC (.int 1)))) (sPart none)) (sCons (sSl false (sVar 7) (sPart (some (sC (.int 1)))) (sPart none)) sNil)) dZip) (.tp [10, 11]) [10, 11] (fun _ => ret true) (s1 (sCons (sVar 10) (sCons (s2 (sVar 11) (sVar 2) dSub) sNil)) (BK.sem false .max))
def C2_plan_between : Envd → M D :=
    sComp false (s1 (sCons (sVar 6) (sCons (sSl false (sVar 7) (sPart (some (sC (.int 1)))) (sPart none)) sNil)) dZip) (.tp [12, 11]) [12, 11] (fun _ => ret true) (s1 (sCons (sVar 11) (sCons (s2 (sVar 12) (sVar 3) (dAdd false)) sNil)) (BK.sem false .min))
def b_plan_between : MS :=
    sSeq (sExpr (s1 (sCons (sVar 0) sNil) Pg.sem_need_needs))
    (sSeq (sExpr (s1 (sCons (sVar 1) sNil) Pg.sem_need_needs))
    (sSeq (sIfS (sOr (sTest (s2 (s1 (sCons (sVar 0) sNil) (BK.sem false .len)) (s1 (sCons (sVar 1) sNil) (BK.sem false .len)) (dEq true))) (sTest (s2 (s1 (sCons (sVar 0) sNil) (BK.sem false .sum)) (s1 (sCons (sVar 1) sNil) (BK.sem false .sum)) (dEq true))))
      (sRaise 7)
      (sPass))
    (sSeq (sExpr (s1 (sCons (s1 (sCons (sVar 2) (sCons (sVar 3) sNil)) (newLs false)) sNil) Pg.sem_need_sizes))
    (sSeq (sExpr (s1 (sCons (sVar 1) (sCons (sVar 4) sNil)) Pg.sem_need_delay))
    (sSeq (sExpr (s1 (sCons (s1 (sCons (sVar 5) sNil) (newLs false)) sNil) Pg.sem_need_sizes))
    (sSeq (sAsg (.nm 6) (s1 (sCons (sVar 1) (sCons (sVar 4) sNil)) Pg.sem_taken_sums))
    (sSeq (sAsg (.nm 7) (s2 (s1 (sCons (sVar 0) sNil) Pg.sem_add_all) (s2 (s1 (sCons (s2 (sVar 6) (s1 (sC (.int 1)) dNeg) dIx) sNil) (newLs false)) (sVar 4) (dMul false)) (dAdd false)))
    (sSeq (sAsg (.nm 8) (Pg.C1_plan_between))
    (sSeq (sAsg (.nm 9) (Pg.C2_plan_between))
    (sRet (s1 (sCons (sVar 8) (sCons (sVar 9) (sCons (sVar 5) sNil))) Pg.sem_plan_between_bounds)))))))))))
def sem_plan_between : List D → M D := callIO [] false (bodyS 6 13 b_plan_between)
def semM_plan_between : List D → M D := callIO [] true (bodyS 6 13 b_plan_between)
/-! law_needs (bag, most, far, k) -/
def b_law_needs : MS :=
    sRet (sComp false (s1 (sCons (s2 (sC (.int 1)) (s1 (sCons (sVar 0) (sCons (sVar 1) sNil)) Pg.sem_law_draw) (dAdd false)) sNil) dRange1) (.nm 3) [3] (fun _ => ret true) (s1 (sCons (sVar 0) (sCons (s2 (s1 (sCons (sC (.int 2)) (sCons (sVar 2) (sCons (s2 (sC (.int 1)) (s2 (sVar 2) (sC (.int 5)) dDiv) (dAdd false)) sNil))) (newLs false)) (s1 (sCons (sVar 0) (sCons (sC (.int 3)) sNil)) Pg.sem_law_draw) dIx) sNil)) Pg.sem_law_draw))
def sem_law_needs : List D → M D := callIO [true] false (bodyS 3 4 b_law_needs)
def semM_law_needs : List D → M D := callIO [true] true (bodyS 3 4 b_law_needs)
/-! plan_of (needs, buffer, delay, rate, taken, high, before) -/
def b_plan_of : MS :=
    sSeq (sExpr (s1 (sCons (sVar 0) sNil) Pg.sem_need_needs))
    (sSeq (sExpr (s1 (sCons (s1 (sCons (sVar 1) sNil) (newLs false)) sNil) Pg.sem_need_sizes))
    (sSeq (sExpr (s1 (sCons (sVar 0) (sCons (sVar 2) sNil)) Pg.sem_need_delay))
    (sSeq (sExpr (s1 (sCons (s1 (sCons (sVar 3) sNil) (newLs false)) sNil) Pg.sem_need_sizes))
    (sSeq (sAsg (.nm 4) (s1 (sCons (sVar 0) (sCons (sVar 2) sNil)) Pg.sem_taken_sums))
    (sSeq (sAsg (.nm 5) (sComp false (iSeq (sSl false (sVar 4) (sPart none) (sPart (some (s1 (sC (.int 1)) dNeg))))) (.nm 6) [6] (fun _ => ret true) (s1 (sCons (s2 (sVar 4) (s1 (sC (.int 1)) dNeg) dIx) (sCons (s2 (sVar 6) (sVar 1) (dAdd false)) sNil)) (BK.sem false .min))))
    (sRet (s1 (sCons (sSl false (sVar 4) (sPart (some (sC (.int 1)))) (sPart none)) (sCons (sVar 5) (sCons (sVar 3) sNil))) Pg.sem_plan_between_bounds)))))))
def sem_plan_of : List D → M D := callIO [] false (bodyS 4 7 b_plan_of)
def semM_plan_of : List D → M D := callIO [] true (bodyS 4 7 b_plan_of)
/-! need_entries (row) -/
def b_need_entries : MS :=
    sIfS (sOr (sNot (sTest (s1 (sCons (sVar 0) sNil) Pg.sem_are_integers))) (sNot (sTest (sChain (cmpSem .LtE) (cmpSem .LtE) (sC (.int 1)) (s1 (sCons (sVar 0) sNil) (BK.sem false .len)) (sC (.int 200))))))
    (sRaise 2)
    (sPass)
def sem_need_entries : List D → M D := callIO [] false (bodyS 1 1 b_need_entries)
def semM_need_entries : List D → M D := callIO [] true (bodyS 1 1 b_need_entries)
/-! compare (row, other, pairs, is_evener, is_less, one, two) -/
def C1_compare : Envd → M D :=
    sComp false (iSeq (sVar 2)) (.tp [5, 6]) [5, 6] (fun _ => ret true) (s2 (sVar 5) (sVar 6) (cmpSem .GtE))
def C2_compare : Envd → M D :=
    sComp false (iSeq (sVar 2)) (.tp [5, 6]) [5, 6] (fun _ => ret true) (s2 (sVar 5) (sVar 6) (cmpSem .LtE))
def b_compare : MS :=
    sSeq (sExpr (s1 (sCons (sVar 0) sNil) Pg.sem_need_entries))
    (sSeq (sExpr (s1 (sCons (sVar 1) sNil) Pg.sem_need_entries))
    (sSeq (sIfS (sOr (sTest (s2 (s1 (sCons (sVar 0) sNil) (BK.sem false .len)) (s1 (sCons (sVar 1) sNil) (BK.sem false .len)) (dEq true))) (sTest (s2 (s1 (sCons (sVar 0) sNil) (BK.sem false .sum)) (s1 (sCons (sVar 1) sNil) (BK.sem false .sum)) (dEq true))))
      (sRaise 2)
      (sPass))
    (sSeq (sAsg (.nm 2) (s1 (sCons (s1 (sCons (s1 (sCons (sVar 0) sNil) (BK.sem false .sorted)) sNil) Pg.sem_add_all) (sCons (s1 (sCons (s1 (sCons (sVar 1) sNil) (BK.sem false .sorted)) sNil) Pg.sem_add_all) sNil)) (dLzip false)))
    (sSeq (sAsg (.nm 3) (s1 (sCons (Pg.C1_compare) sNil) (BK.sem false .all)))
    (sSeq (sAsg (.nm 4) (s1 (sCons (Pg.C2_compare) sNil) (BK.sem false .all)))
    (sSeq (sIfS (sTest (sVar 3))
      (sRet (sIf (sTest (sVar 4)) (sC (.str "same")) (sC (.str "evener"))))
      (sPass))
    (sRet (sIf (sTest (sVar 4)) (sC (.str "less even")) (sC (.str "none"))))))))))
def sem_compare : List D → M D := callIO [] false (bodyS 2 7 b_compare)
def semM_compare : List D → M D := callIO [] true (bodyS 2 7 b_compare)
/-! law_taken (sizes, late, k) -/
def b_law_taken : MS :=
    sRet (s1 (sCons (sSl false (sVar 0) (sPart none) (sPart (some (s1 (sCons (sC (.int 0)) (sCons (s2 (sVar 2) (sVar 1) dSub) sNil)) (BK.sem false .max))))) sNil) (BK.sem false .sum))
def sem_law_taken : List D → M D := callIO [] false (bodyS 3 3 b_law_taken)
def semM_law_taken : List D → M D := callIO [] true (bodyS 3 3 b_law_taken)
/-! free_plan (low, high, least, most, one, other) -/
def C1_free_plan : Envd → M D :=
    sComp false (s1 (sCons (sVar 0) (sCons (s1 (sCons (sC (.int 0)) (sStar (sVar 1) sNil)) (newLs false)) sNil)) dZip) (.tp [4, 5]) [4, 5] (fun _ => ret true) (s2 (sVar 4) (sVar 5) dSub)
def C2_free_plan : Envd → M D :=
    sComp false (s1 (sCons (s1 (sCons (sC (.int 0)) (sStar (sVar 0) sNil)) (newLs false)) (sCons (sVar 1) sNil)) dZip) (.tp [4, 5]) [4, 5] (fun _ => ret true) (s2 (sVar 5) (sVar 4) dSub)
def b_free_plan : MS :=
    sSeq (sAsg (.nm 2) (Pg.C1_free_plan))
    (sSeq (sAsg (.nm 3) (Pg.C2_free_plan))
    (sRet (s1 (sCons (sVar 0) (sCons (sVar 1) (sCons (sVar 2) (sCons (sVar 3) sNil)))) Pg.mk_Plan_init)))
def sem_free_plan : List D → M D := callIO [] false (bodyS 2 6 b_free_plan)
def semM_free_plan : List D → M D := callIO [] true (bodyS 2 6 b_free_plan)
/-! gain (streams, price, alone, together, lows, highs, low, high, entry) -/
def C1_gain : Envd → M D :=
    sComp false (iSeq (sVar 0)) (.tp [6, 7]) [6, 7] (fun _ => ret true) (s1 (sCons (s1 (sCons (sVar 6) (sCons (sVar 7) sNil)) Pg.sem_free_plan) sNil) Pg.sem_best_row)
def C2_gain : Envd → M D :=
    sComp false (iSeq (sVar 0)) (.tp [6, 7]) [6, 7] (fun _ => ret true) (sVar 7)
def C3_gain : Envd → M D :=
    sComp false (iSeq (sVar 0)) (.tp [6, 7]) [6, 7] (fun _ => ret true) (sVar 6)
def C4_gain : Envd → M D :=
    sComp false (iSeq (sVar 2)) (.nm 8) [8] (fun _ => ret true) (s1 (sCons (sVar 1) (sCons (sVar 8) sNil)) Pg.sem_price_of)
def C5_gain : Envd → M D :=
    sComp false (iSeq (sVar 3)) (.nm 8) [8] (fun _ => ret true) (s1 (sCons (sVar 1) (sCons (sVar 8) sNil)) Pg.sem_price_of)
def b_gain : MS :=
    sSeq (sExpr (s1 (sCons (sVar 0) sNil) Pg.sem_need_streams))
    (sSeq (sExpr (s1 (sCons (sVar 1) sNil) Pg.sem_need_price))
    (sSeq (sAsg (.nm 2) (s1 (sCons (Pg.C1_gain) sNil) Pg.sem_added))
    (sSeq (sTup [4, 5] (sCons (s1 (sCons (Pg.C3_gain) sNil) Pg.sem_added) (sCons (s1 (sCons (Pg.C2_gain) sNil) Pg.sem_added) sNil)))
    (sSeq (sAsg (.nm 3) (s1 (sCons (s1 (sCons (sVar 4) (sCons (sVar 5) sNil)) Pg.sem_free_plan) sNil) Pg.sem_best_row))
    (sRet (s2 (s1 (sCons (Pg.C4_gain) sNil) (BK.sem false .sum)) (s1 (sCons (Pg.C5_gain) sNil) (BK.sem false .sum)) dSub))))))
def sem_gain : List D → M D := callIO [] false (bodyS 2 9 b_gain)
def semM_gain : List D → M D := callIO [] true (bodyS 2 9 b_gain)
/-! Sender_init (self) -/
def b_Sender_init : MS :=
    sSeq (sPut 14 0 (sVar 0) (s1 sNil (newLs false)))
    (sSeq (sPut 14 1 (sVar 0) (s1 (sCons (s1 (sCons (sC (.int 0)) (sCons (sC (.int 0)) sNil)) newTs) sNil) (newLs false)))
    (sPut 14 2 (sVar 0) (s1 (sCons (s1 sNil newTs) sNil) (newLs false))))
def mk_Sender_init : List D → M D := dMake 14 (bodyS 1 1 b_Sender_init)
/-! sure_sums (known, reach, bounds, late, early, low, high, one, other) -/
def C1_sure_sums : Envd → M D :=
    sComp false (iSeq (sVar 0)) (.nm 2) [2] (fun _ => ret true) (s2 (sVar 2) (sC (.int 1)) dIx)
def C2_sure_sums : Envd → M D :=
    sComp false (iSeq (sVar 0)) (.nm 2) [2] (fun _ => ret true) (s2 (sVar 2) (sC (.int 0)) dIx)
def C3_sure_sums : Envd → M D :=
    sComp false (iSeq (sVar 0)) (.nm 2) [2] (fun _ => ret true) (s2 (sVar 2) (sC (.int 3)) dIx)
def C4_sure_sums : Envd → M D :=
    sComp false (iSeq (sVar 0)) (.nm 2) [2] (fun _ => ret true) (s2 (sVar 2) (sC (.int 2)) dIx)
def C5_sure_sums : Envd → M D :=
    sComp false (s1 (sCons (sSl false (sVar 4) (sPart (some (sC (.int 1)))) (sPart none)) (sCons (sSl false (sVar 3) (sPart (some (sC (.int 1)))) (sPart none)) sNil)) dZip) (.tp [7, 8]) [7, 8] (fun _ => ret true) (sIf (sTest (s2 (sVar 7) (sVar 8) (dEq false))) (sVar 7) (sC .non))
def b_sure_sums : MS :=
    sSeq (sTup [5, 6] (sCons (s2 (s1 (sCons (sC (.int 0)) sNil) (newLs false)) (Pg.C2_sure_sums) (dAdd false)) (sCons (s2 (s1 (sCons (sC (.int 0)) sNil) (newLs false)) (Pg.C1_sure_sums) (dAdd false)) sNil)))
    (sSeq (sAsg (.nm 2) (s1 (sCons (sVar 5) (sCons (sVar 6) (sCons (Pg.C4_sure_sums) (sCons (Pg.C3_sure_sums) sNil)))) newTs))
    (sSeq (sAsg (.nm 3) (s1 (sCons (sVar 2) (sCons (sC (.int 0)) (sCons (s1 (sCons (sVar 0) sNil) (BK.sem false .len)) (sCons (sC (.int 0)) (sCons (s2 (sVar 1) (sC (.int 0)) dIx) (sCons (sC (.bl true)) sNil)))))) Pg.sem_sums_between))
    (sSeq (sAsg (.nm 4) (s1 (sCons (sVar 2) (sCons (sC (.int 0)) (sCons (s1 (sCons (sVar 0) sNil) (BK.sem false .len)) (sCons (sC (.int 0)) (sCons (s2 (sVar 1) (sC (.int 1)) dIx) (sCons (sC (.bl false)) sNil)))))) Pg.sem_sums_between))
    (sRet (s1 (sCons (Pg.C5_sure_sums) sNil) (BK.sem false .tuple))))))
def sem_sure_sums : List D → M D := callIO [] false (bodyS 2 9 b_sure_sums)
def semM_sure_sums : List D → M D := callIO [] true (bodyS 2 9 b_sure_sums)
/-! Sender_add (self, low, high, least, most, lo, hi, number) -/
def C1_Sender_add : Envd → M D :=
    sComp false (iSeq (s1 (sCons (sVar 1) (sCons (sVar 2) (sCons (sVar 3) (sCons (sVar 4) sNil)))) newTs)) (.nm 7) [7] (fun _ => ret true) (s1 (sCons (sVar 7) sNil) Pg.sem_is_integer)
def b_Sender_add : MS :=
    sSeq (sIfS (sNot (sTest (s1 (sCons (Pg.C1_Sender_add) sNil) (BK.sem false .all))))
      (sRaise 1)
      (sPass))
    (sSeq (sIfS (sOr (sTest (s2 (sVar 1) (sVar 2) (cmpSem .Gt))) (sTest (s2 (sVar 3) (sVar 4) (cmpSem .Gt))))
      (sRaise 1)
      (sPass))
    (sSeq (sAsg (.tp [5, 6]) (s2 (s1 (sVar 0) (dFld 14 1)) (s1 (sC (.int 1)) dNeg) dIx))
    (sSeq (sTup [5, 6] (sCons (s1 (sCons (sVar 1) (sCons (s2 (sVar 5) (sVar 3) (dAdd false)) sNil)) (BK.sem false .max)) (sCons (s1 (sCons (sVar 2) (sCons (s2 (sVar 6) (sVar 4) (dAdd false)) sNil)) (BK.sem false .min)) sNil)))
    (sSeq (sIfS (sTest (s2 (sVar 5) (sVar 6) (cmpSem .Gt)))
      (sRaise 1)
      (sPass))
    (sSeq (sExpr (sBM (MK.chk .append) (s1 (sVar 0) (dFld 14 0)) (sCons (s1 (sCons (sVar 1) (sCons (sVar 2) (sCons (sVar 3) (sCons (sVar 4) sNil)))) newTs) sNil) (MK.sem false .append)))
    (sSeq (sExpr (sBM (MK.chk .append) (s1 (sVar 0) (dFld 14 1)) (sCons (s1 (sCons (sVar 5) (sCons (sVar 6) sNil)) newTs) sNil) (MK.sem false .append)))
    (sExpr (sBM (MK.chk .append) (s1 (sVar 0) (dFld 14 2)) (sCons (s1 (sCons (s1 (sVar 0) (dFld 14 0)) (sCons (s1 (sCons (sVar 5) (sCons (sVar 6) sNil)) newTs) sNil)) Pg.sem_sure_sums) sNil) (MK.sem false .append)))))))))
def sem_Sender_add : List D → M D := callIO [] false (bodyS 5 8 b_Sender_add)
def semM_Sender_add : List D → M D := callIO [] true (bodyS 5 8 b_Sender_add)
/-! Sender_undo (self) -/
def b_Sender_undo : MS :=
    sSeq (sIfS (sTest (s2 (s1 (sVar 0) (dFld 14 0)) (s1 sNil (newLs false)) (dEq false)))
      (sRaise 10)
      (sPass))
    (sSeq (sExpr (sBM chkL (s1 (sVar 0) (dFld 14 0)) sNil dPop))
    (sSeq (sExpr (sBM chkL (s1 (sVar 0) (dFld 14 1)) sNil dPop))
    (sExpr (sBM chkL (s1 (sVar 0) (dFld 14 2)) sNil dPop))))
def sem_Sender_undo : List D → M D := callIO [] false (bodyS 1 1 b_Sender_undo)
def semM_Sender_undo : List D → M D := callIO [] true (bodyS 1 1 b_Sender_undo)
/-! Sender_reach (self) -/
def b_Sender_reach : MS :=
    sRet (s2 (s1 (sVar 0) (dFld 14 1)) (s1 (sC (.int 1)) dNeg) dIx)
def sem_Sender_reach : List D → M D := callIO [] false (bodyS 1 1 b_Sender_reach)
def semM_Sender_reach : List D → M D := callIO [] true (bodyS 1 1 b_Sender_reach)
/-! Sender_sure (self) -/
def b_Sender_sure : MS :=
    sRet (s2 (s1 (sVar 0) (dFld 14 2)) (s1 (sC (.int 1)) dNeg) dIx)
def sem_Sender_sure : List D → M D := callIO [] false (bodyS 1 1 b_Sender_sure)
def semM_Sender_sure : List D → M D := callIO [] true (bodyS 1 1 b_Sender_sure)
/-! Sender_first_open (self) -/
def b_Sender_first_open : MS :=
    sRet (sIf (sTest (s2 (sC .non) (s2 (s1 (sVar 0) (dFld 14 2)) (s1 (sC (.int 1)) dNeg) dIx) (dIn false))) (s2 (sBM (MK.chk .index) (s2 (s1 (sVar 0) (dFld 14 2)) (s1 (sC (.int 1)) dNeg) dIx) (sCons (sC .non) sNil) (MK.sem false .index)) (sC (.int 1)) (dAdd false)) (sC .non))
def sem_Sender_first_open : List D → M D := callIO [] false (bodyS 1 1 b_Sender_first_open)
def semM_Sender_first_open : List D → M D := callIO [] true (bodyS 1 1 b_Sender_first_open)
/-! law_box_v2 (bag, longest, far, row, loose, entry, under, over, lower, upper, here, k) -/
def C1_law_box_v2 : Envd → M D :=
    sComp false (s1 (sCons (s2 (sC (.int 1)) (s1 (sCons (sVar 0) (sCons (sVar 1) sNil)) Pg.sem_law_draw) (dAdd false)) sNil) dRange1) (.nm 11) [11] (fun _ => ret true) (s2 (s1 (sCons (sVar 0) (sCons (sVar 2) sNil)) Pg.sem_law_draw) (s2 (sVar 2) (sC (.int 2)) dDiv) dSub)
def L1_law_box_v2 : MS :=
    sSeq (sAsg (.nm 10) (s2 (sVar 10) (sVar 5) (dAdd false)))
        (sSeq (sExpr (sBM (MK.chk .append) (sVar 6) (sCons (s2 (sVar 5) (s1 (sCons (sVar 0) (sCons (sC (.int 3)) sNil)) Pg.sem_law_draw) dSub) sNil) (MK.sem false .append)))
        (sSeq (sExpr (sBM (MK.chk .append) (sVar 7) (sCons (s2 (sVar 5) (s1 (sCons (sVar 0) (sCons (sC (.int 3)) sNil)) Pg.sem_law_draw) (dAdd false)) sNil) (MK.sem false .append)))
        (sSeq (sExpr (sBM (MK.chk .append) (sVar 8) (sCons (s2 (sVar 10) (s1 (sCons (sVar 0) (sCons (sVar 4) sNil)) Pg.sem_law_draw) dSub) sNil) (MK.sem false .append)))
        (sExpr (sBM (MK.chk .append) (sVar 9) (sCons (s2 (sVar 10) (s1 (sCons (sVar 0) (sCons (sVar 4) sNil)) Pg.sem_law_draw) (dAdd false)) sNil) (MK.sem false .append))))))
def b_law_box_v2 : MS :=
    sSeq (sAsg (.nm 3) (Pg.C1_law_box_v2))
    (sSeq (sTup [6, 7, 8, 9, 10] (sCons (s1 sNil (newLs true)) (sCons (s1 sNil (newLs true)) (sCons (s1 sNil (newLs true)) (sCons (s1 sNil (newLs true)) (sCons (sC (.int 0)) sNil))))))
    (sSeq (sAsg (.nm 4) (s2 (s1 (sCons (sC (.int 1)) (sCons (sC (.int 2)) (sCons (sC (.int 4)) (sCons (sC (.int 9)) sNil)))) (newLs false)) (s1 (sCons (sVar 0) (sCons (sC (.int 4)) sNil)) Pg.sem_law_draw) dIx))
    (sSeq (sFor (.nm 5) [5] (iSeq (sVar 3))
      (Pg.L1_law_box_v2))
    (sRet (s1 (sCons (s2 (sSl false (sVar 8) (sPart none) (sPart (some (s1 (sC (.int 1)) dNeg)))) (s1 (sCons (sVar 10) sNil) (newLs false)) (dAdd false)) (sCons (s2 (sSl false (sVar 9) (sPart none) (sPart (some (s1 (sC (.int 1)) dNeg)))) (s1 (sCons (sVar 10) sNil) (newLs false)) (dAdd false)) (sCons (sVar 6) (sCons (sVar 7) sNil)))) newTs)))))
def sem_law_box_v2 : List D → M D := callIO [true] false (bodyS 3 12 b_law_box_v2)
def semM_law_box_v2 : List D → M D := callIO [true] true (bodyS 3 12 b_law_box_v2)
/-! Sender_twin (self, other) -/
def b_Sender_twin : MS :=
    sSeq (sAsg (.nm 1) (s1 sNil Pg.mk_Sender_init))
    (sSeq (sPut 14 0 (sVar 1) (s1 (sCons (s1 (sVar 0) (dFld 14 0)) sNil) (BK.sem false .list)))
    (sSeq (sPut 14 1 (sVar 1) (s1 (sCons (s1 (sVar 0) (dFld 14 1)) sNil) (BK.sem false .list)))
    (sSeq (sPut 14 2 (sVar 1) (s1 (sCons (s1 (sVar 0) (dFld 14 2)) sNil) (BK.sem false .list)))
    (sRet (sVar 1)))))
def sem_Sender_twin : List D → M D := callIO [] false (bodyS 1 2 b_Sender_twin)
def semM_Sender_twin : List D → M D := callIO [] true (bodyS 1 2 b_Sender_twin)
/-! law_best (rows, lowest, row) -/
def C1_law_best : Envd → M D :=
    sComp false (iSeq (sVar 0)) (.nm 2) [2] (fun _ => ret true) (s1 (sCons (sVar 2) sNil) Pg.sem_law_squares)
def C2_law_best : Envd → M D :=
    sComp false (iSeq (sVar 0)) (.nm 2) [2] (sTest (s2 (s1 (sCons (sVar 2) sNil) Pg.sem_law_squares) (sVar 1) (dEq false))) (sVar 2)
def b_law_best : MS :=
    sSeq (sAsg (.nm 1) (s1 (sCons (Pg.C1_law_best) sNil) (BK.sem false .min)))
    (sRet (Pg.C2_law_best))
def sem_law_best : List D → M D := callIO [] false (bodyS 1 3 b_law_best)
def semM_law_best : List D → M D := callIO [] true (bodyS 1 3 b_law_best)
/-! Sender_known (self) -/
def b_Sender_known : MS :=
    sRet (s1 (sCons (s1 (sVar 0) (dFld 14 0)) sNil) (BK.sem false .len))
def sem_Sender_known : List D → M D := callIO [] false (bodyS 1 1 b_Sender_known)
def semM_Sender_known : List D → M D := callIO [] true (bodyS 1 1 b_Sender_known)
/-! need_number (number, least, most) -/
def b_need_number : MS :=
    sIfS (sOr (sTest (s2 (sVar 0) (sVar 1) (cmpSem .Lt))) (sAnd (sTest (s2 (sVar 2) (sC .non) (dIsN true))) (sTest (s2 (sVar 0) (sVar 2) (cmpSem .Gt)))))
    (sRaise 5)
    (sPass)
def sem_need_number : List D → M D := callIO [] false (bodyS 3 3 b_need_number)
def semM_need_number : List D → M D := callIO [] true (bodyS 3 3 b_need_number)
/-! live_entries (plan, ahead, sums, time, bounds, times, low, high, last, goal, later) -/
def L1_live_entries : MS :=
    sAsg (.nm 9) (s1 (sCons (s2 (sVar 6) (sVar 10) dIx) (sCons (s2 (sVar 9) (s2 (s1 (sVar 0) (dPrp 13 Pg.sem_Plan_least)) (s2 (sVar 10) (sC (.int 1)) dSub) dIx) (dAdd false)) sNil)) (BK.sem false .max))
def L2_live_entries : MS :=
    sSeq (sAsg (.nm 8) (s1 (sCons (sVar 5) (sCons (s2 (s2 (sVar 3) (sC (.int 1)) (dAdd false)) (sVar 1) (dAdd false)) sNil)) (BK.sem false .min)))
        (sSeq (sAsg (.nm 9) (s2 (sVar 2) (s1 (sC (.int 1)) dNeg) dIx))
        (sSeq (sFor (.nm 10) [10] (s1 (sCons (s2 (sVar 3) (sC (.int 1)) (dAdd false)) (sCons (s2 (sVar 8) (sC (.int 1)) (dAdd false)) sNil)) dRange2)
          (Pg.L1_live_entries))
        (sExpr (sBM (MK.chk .append) (sVar 2) (sCons (s2 (s1 (sCons (sVar 4) (sCons (sVar 3) (sCons (sVar 8) (sCons (s2 (sVar 2) (s1 (sC (.int 1)) dNeg) dIx) (sCons (sVar 9) (sCons (sC (.bl true)) sNil)))))) Pg.sem_sums_between) (sC (.int 1)) dIx) sNil) (MK.sem false .append)))))
def b_live_entries : MS :=
    sSeq (sTup [4, 5] (sCons (s1 (sCons (sVar 0) sNil) Pg.sem_bounds_of) (sCons (s1 (sVar 0) (dPrp 13 Pg.sem_Plan_times)) sNil)))
    (sSeq (sAsg (.tp [6, 7]) (s1 (sCons (sVar 0) sNil) Pg.sem_sum_limits))
    (sSeq (sAsg (.nm 2) (s1 (sCons (sC (.int 0)) sNil) (newLs true)))
    (sSeq (sFor (.nm 3) [3, 8, 9, 10] (s1 (sCons (sVar 5) sNil) dRange1)
      (Pg.L2_live_entries))
    (sRet (s1 (sCons (sVar 2) sNil) Pg.sem_entries_from)))))
def sem_live_entries : List D → M D := callIO [] false (bodyS 2 11 b_live_entries)
def semM_live_entries : List D → M D := callIO [] true (bodyS 2 11 b_live_entries)
/-! live_row (plan, ahead) -/
def b_live_row : MS :=
    sSeq (sExpr (s1 (sCons (sVar 1) (sCons (sC (.int 0)) (sCons (sC .non) sNil))) Pg.sem_need_number))
    (sSeq (sExpr (s1 (sCons (sVar 0) sNil) Pg.sem_need_rows))
    (sRet (s1 (sCons (sVar 0) (sCons (sVar 1) sNil)) Pg.semM_live_entries)))
def sem_live_row : List D → M D := callIO [] false (bodyS 2 2 b_live_row)
def semM_live_row : List D → M D := callIO [] true (bodyS 2 2 b_live_row)
/-! loss_of (plan, ahead, price, best, live, entry) -/
def C1_loss_of : Envd → M D :=
    sComp false (iSeq (sVar 4)) (.nm 5) [5] (fun _ => ret true) (s1 (sCons (sVar 2) (sCons (sVar 5) sNil)) Pg.sem_price_of)
def C2_loss_of : Envd → M D :=
    sComp false (iSeq (sVar 3)) (.nm 5) [5] (fun _ => ret true) (s1 (sCons (sVar 2) (sCons (sVar 5) sNil)) Pg.sem_price_of)
def b_loss_of : MS :=
    sSeq (sExpr (s1 (sCons (sVar 1) (sCons (sC (.int 0)) (sCons (sC .non) sNil))) Pg.sem_need_number))
    (sSeq (sExpr (s1 (sCons (sVar 2) sNil) Pg.sem_need_price))
    (sSeq (sExpr (s1 (sCons (sVar 0) sNil) Pg.sem_need_rows))
    (sSeq (sAsg (.nm 3) (s1 (sCons (s1 (sCons (sVar 0) (sCons (sC (.bl false)) sNil)) Pg.sem_best_sums) sNil) Pg.sem_entries_from))
    (sSeq (sAsg (.nm 4) (s1 (sCons (sVar 0) (sCons (sVar 1) sNil)) Pg.sem_live_entries))
    (sRet (s2 (s1 (sCons (Pg.C1_loss_of) sNil) (BK.sem false .sum)) (s1 (sCons (Pg.C2_loss_of) sNil) (BK.sem false .sum)) dSub))))))
def sem_loss_of : List D → M D := callIO [] false (bodyS 3 6 b_loss_of)
def semM_loss_of : List D → M D := callIO [] true (bodyS 3 6 b_loss_of)
/-! law_best_v2 (rows, least, row) -/
def C1_law_best_v2 : Envd → M D :=
    sComp false (iSeq (sVar 0)) (.nm 2) [2] (fun _ => ret true) (s1 (sCons (sVar 2) sNil) Pg.sem_law_squares)
def C2_law_best_v2 : Envd → M D :=
    sComp false (iSeq (sVar 0)) (.nm 2) [2] (sTest (s2 (s1 (sCons (sVar 2) sNil) Pg.sem_law_squares) (sVar 1) (dEq false))) (sVar 2)
def b_law_best_v2 : MS :=
    sSeq (sAsg (.nm 1) (s1 (sCons (Pg.C1_law_best_v2) sNil) (BK.sem false .min)))
    (sRet (Pg.C2_law_best_v2))
def sem_law_best_v2 : List D → M D := callIO [] false (bodyS 1 3 b_law_best_v2)
def semM_law_best_v2 : List D → M D := callIO [] true (bodyS 1 3 b_law_best_v2)
/-! Plan_part (self, first, last, begin, end, low, high, bound) -/
def C1_Plan_part : Envd → M D :=
    sComp false (iSeq (sSl false (s1 (sVar 0) (dFld 13 0)) (sPart (some (sVar 1))) (sPart (some (s2 (sVar 2) (sC (.int 1)) dSub))))) (.nm 7) [7] (fun _ => ret true) (s2 (sVar 7) (sVar 3) dSub)
def C2_Plan_part : Envd → M D :=
    sComp false (iSeq (sSl false (s1 (sVar 0) (dFld 13 1)) (sPart (some (sVar 1))) (sPart (some (s2 (sVar 2) (sC (.int 1)) dSub))))) (.nm 7) [7] (fun _ => ret true) (s2 (sVar 7) (sVar 3) dSub)
def b_Plan_part : MS :=
    sSeq (sExpr (s1 (sCons (sVar 1) (sCons (sC (.int 0)) (sCons (s2 (s1 (sCons (s1 (sVar 0) (dFld 13 0)) sNil) (BK.sem false .len)) (sC (.int 1)) dSub) sNil))) Pg.sem_need_time))
    (sSeq (sExpr (s1 (sCons (sVar 2) (sCons (s2 (sVar 1) (sC (.int 1)) (dAdd false)) (sCons (s1 (sCons (s1 (sVar 0) (dFld 13 0)) sNil) (BK.sem false .len)) sNil))) Pg.sem_need_time))
    (sSeq (sExpr (s1 (sCons (sVar 3) (sCons (sIf (sTest (s2 (sVar 1) (sC (.int 0)) (cmpSem .Gt))) (s2 (s1 (sVar 0) (dPrp 13 Pg.sem_Plan_low)) (s2 (sVar 1) (sC (.int 1)) dSub) dIx) (sC (.int 0))) (sCons (sIf (sTest (s2 (sVar 1) (sC (.int 0)) (cmpSem .Gt))) (s2 (s1 (sVar 0) (dPrp 13 Pg.sem_Plan_high)) (s2 (sVar 1) (sC (.int 1)) dSub) dIx) (sC (.int 0))) sNil))) Pg.sem_need_number))
    (sSeq (sExpr (s1 (sCons (sVar 4) (sCons (s2 (s1 (sVar 0) (dPrp 13 Pg.sem_Plan_low)) (s2 (sVar 2) (sC (.int 1)) dSub) dIx) (sCons (s2 (s1 (sVar 0) (dPrp 13 Pg.sem_Plan_high)) (s2 (sVar 2) (sC (.int 1)) dSub) dIx) sNil))) Pg.sem_need_number))
    (sSeq (sAsg (.nm 5) (s2 (Pg.C1_Plan_part) (s1 (sCons (s2 (sVar 4) (sVar 3) dSub) sNil) (newLs false)) (dAdd false)))
    (sSeq (sAsg (.nm 6) (s2 (Pg.C2_Plan_part) (s1 (sCons (s2 (sVar 4) (sVar 3) dSub) sNil) (newLs false)) (dAdd false)))
    (sRet (s1 (sCons (sVar 5) (sCons (sVar 6) (sCons (sSl false (s1 (sVar 0) (dPrp 13 Pg.sem_Plan_least)) (sPart (some (sVar 1))) (sPart (some (sVar 2)))) (sCons (sSl false (s1 (sVar 0) (dPrp 13 Pg.sem_Plan_most)) (sPart (some (sVar 1))) (sPart (some (sVar 2)))) sNil)))) Pg.mk_Plan_init)))))))
def sem_Plan_part : List D → M D := callIO [] false (bodyS 5 8 b_Plan_part)
def semM_Plan_part : List D → M D := callIO [] true (bodyS 5 8 b_Plan_part)
/-! greatest_sums (needs, sums, found, many, last) -/
def b_greatest_sums : MS :=
    sSeq (sAsg (.nm 1) (s1 (sCons (sVar 0) sNil) Pg.sem_add_all))
    (sSeq (sAsg (.nm 2) (s1 sNil (newLs true)))
    (sSeq (sFor (.nm 3) [3] (s1 (sCons (sC (.int 1)) (sCons (s2 (s1 (sCons (sVar 0) sNil) (BK.sem false .len)) (sC (.int 1)) (dAdd false)) sNil)) dRange2)
      (sExpr (sBM (MK.chk .append) (sVar 2) (sCons (s1 (sCons (sComp false (s1 (sCons (sVar 3) (sCons (s1 (sCons (sVar 1) sNil) (BK.sem false .len)) sNil)) dRange2) (.nm 4) [4] (fun _ => ret true) (s2 (s2 (sVar 1) (sVar 4) dIx) (s2 (sVar 1) (s2 (sVar 4) (sVar 3) dSub) dIx) dSub)) sNil) (BK.sem false .max)) sNil) (MK.sem false .append))))
    (sRet (sVar 2))))
def sem_greatest_sums : List D → M D := callIO [] false (bodyS 1 5 b_greatest_sums)
def semM_greatest_sums : List D → M D := callIO [] true (bodyS 1 5 b_greatest_sums)
/-! rate_for (needs, buffer, delay, found, index, value) -/
def b_rate_for : MS :=
    sSeq (sAsg (.nm 3) (sC (.int 0)))
    (sSeq (sFor (.tp [4, 5]) [4, 5] (s1 (sCons (s1 (sCons (sVar 0) sNil) Pg.sem_greatest_sums) sNil) dEnum)
      (sIfS (sTest (s2 (sVar 4) (sC (.int 0)) (cmpSem .Gt)))
        (sAsg (.nm 3) (s1 (sCons (sVar 3) (sCons (s1 (s2 (s1 (s2 (sVar 5) (sVar 1) dSub) dNeg) (sVar 4) dDiv) dNeg) sNil)) (BK.sem false .max)))
        (sPass)))
    (sSeq (sFor (.tp [4, 5]) [4, 5] (s1 (sCons (s1 (sCons (sVar 0) sNil) Pg.sem_add_all) sNil) dEnum)
      (sIfS (sTest (s2 (sVar 4) (sC (.int 0)) (cmpSem .Gt)))
        (sAsg (.nm 3) (s1 (sCons (sVar 3) (sCons (s1 (s2 (s1 (sVar 5) dNeg) (s2 (sVar 4) (sVar 2) (dAdd false)) dDiv) dNeg) sNil)) (BK.sem false .max)))
        (sPass)))
    (sRet (sVar 3))))
def sem_rate_for : List D → M D := callIO [] false (bodyS 3 6 b_rate_for)
def semM_rate_for : List D → M D := callIO [] true (bodyS 3 6 b_rate_for)
/-! least_rate (needs, buffer, delay) -/
def b_least_rate : MS :=
    sSeq (sExpr (s1 (sCons (sVar 0) sNil) Pg.sem_need_needs))
    (sSeq (sExpr (s1 (sCons (s1 (sCons (sVar 1) sNil) (newLs false)) sNil) Pg.sem_need_sizes))
    (sSeq (sExpr (s1 (sCons (sVar 0) (sCons (sVar 2) sNil)) Pg.sem_need_delay))
    (sRet (sIf (sTest (s2 (sVar 1) (s1 (sCons (sVar 0) sNil) (BK.sem false .max)) (cmpSem .Lt))) (sC .non) (s1 (sCons (sVar 0) (sCons (sVar 1) (sCons (sVar 2) sNil))) Pg.sem_rate_for)))))
def sem_least_rate : List D → M D := callIO [] false (bodyS 3 3 b_least_rate)
def semM_least_rate : List D → M D := callIO [] true (bodyS 3 3 b_least_rate)
/-! best_entries (plan) -/
def b_best_entries : MS :=
    sRet (s1 (sCons (s1 (sCons (sVar 0) sNil) Pg.sem_best_row) sNil) (BK.sem false .sorted))
def sem_best_entries : List D → M D := callIO [] false (bodyS 1 1 b_best_entries)
def semM_best_entries : List D → M D := callIO [] true (bodyS 1 1 b_best_entries)
/-! Plan_turned (self, total, low, high, bound) -/
def C1_Plan_turned : Envd → M D :=
    sComp false (iSeq (s1 (s1 (sVar 0) (dPrp 13 Pg.sem_Plan_high)) (dRev false))) (.nm 4) [4] (fun _ => ret true) (s2 (sVar 1) (sVar 4) dSub)
def C2_Plan_turned : Envd → M D :=
    sComp false (iSeq (s1 (s1 (sVar 0) (dPrp 13 Pg.sem_Plan_low)) (dRev false))) (.nm 4) [4] (fun _ => ret true) (s2 (sVar 1) (sVar 4) dSub)
def b_Plan_turned : MS :=
    sSeq (sAsg (.nm 1) (s1 (sVar 0) (dPrp 13 Pg.sem_Plan_total)))
    (sSeq (sAsg (.nm 2) (s2 (Pg.C1_Plan_turned) (s1 (sCons (sVar 1) sNil) (newLs false)) (dAdd false)))
    (sSeq (sAsg (.nm 3) (s2 (Pg.C2_Plan_turned) (s1 (sCons (sVar 1) sNil) (newLs false)) (dAdd false)))
    (sRet (s1 (sCons (sVar 2) (sCons (sVar 3) (sCons (s1 (s1 (sVar 0) (dPrp 13 Pg.sem_Plan_least)) (dRev false)) (sCons (s1 (s1 (sVar 0) (dPrp 13 Pg.sem_Plan_most)) (dRev false)) sNil)))) Pg.mk_Plan_init))))
def sem_Plan_turned : List D → M D := callIO [] false (bodyS 1 5 b_Plan_turned)
def semM_Plan_turned : List D → M D := callIO [] true (bodyS 1 5 b_Plan_turned)
/-! peak (plan) -/
def b_peak : MS :=
    sRet (s2 (s1 (sCons (sVar 0) sNil) Pg.sem_best_entries) (s1 (sC (.int 1)) dNeg) dIx)
def sem_peak : List D → M D := callIO [] false (bodyS 1 1 b_peak)
def semM_peak : List D → M D := callIO [] true (bodyS 1 1 b_peak)
/-! buffer_for (greatest, rate, index, value) -/
def b_buffer_for : MS :=
    sRet (s1 (sCons (sComp false (s1 (sCons (sVar 0) sNil) dEnum) (.tp [2, 3]) [2, 3] (fun _ => ret true) (s2 (sVar 3) (s2 (sVar 1) (sVar 2) (dMul false)) dSub)) sNil) (BK.sem false .max))
def sem_buffer_for : List D → M D := callIO [] false (bodyS 2 4 b_buffer_for)
def semM_buffer_for : List D → M D := callIO [] true (bodyS 2 4 b_buffer_for)
/-! least_buffer (needs, rate) -/
def b_least_buffer : MS :=
    sSeq (sExpr (s1 (sCons (sVar 0) sNil) Pg.sem_need_needs))
    (sSeq (sExpr (s1 (sCons (s1 (sCons (sVar 1) sNil) (newLs false)) sNil) Pg.sem_need_sizes))
    (sRet (s1 (sCons (s1 (sCons (sVar 0) sNil) Pg.sem_greatest_sums) (sCons (sVar 1) sNil)) Pg.sem_buffer_for)))
def sem_least_buffer : List D → M D := callIO [] false (bodyS 2 2 b_least_buffer)
def semM_least_buffer : List D → M D := callIO [] true (bodyS 2 2 b_least_buffer)
/-! law_buffer (sizes, pace, size, found, here) -/
def b_law_buffer : MS :=
    sSeq (sTup [3, 4] (sCons (sC (.int 0)) (sCons (sC (.int 0)) sNil)))
    (sSeq (sFor (.nm 2) [2] (iSeq (sVar 0))
      (sSeq (sAsg (.nm 4) (s2 (sVar 2) (s1 (sCons (sC (.int 0)) (sCons (s2 (sVar 4) (sVar 1) dSub) sNil)) (BK.sem false .max)) (dAdd false)))
        (sAsg (.nm 3) (s1 (sCons (sVar 3) (sCons (sVar 4) sNil)) (BK.sem false .max)))))
    (sRet (sVar 3)))
def sem_law_buffer : List D → M D := callIO [] false (bodyS 2 5 b_law_buffer)
def semM_law_buffer : List D → M D := callIO [] true (bodyS 2 5 b_law_buffer)
/-! least_delay (needs, rate, sums, index, value) -/
def b_least_delay : MS :=
    sSeq (sExpr (s1 (sCons (sVar 0) sNil) Pg.sem_need_needs))
    (sSeq (sExpr (s1 (sCons (s1 (sCons (sVar 1) sNil) (newLs false)) sNil) Pg.sem_need_sizes))
    (sSeq (sAsg (.nm 2) (s1 (sCons (sVar 0) sNil) Pg.sem_add_all))
    (sSeq (sIfS (sTest (s2 (sVar 1) (sC (.int 0)) (dEq false)))
      (sRet (sIf (sTest (s2 (s2 (sVar 2) (s1 (sC (.int 1)) dNeg) dIx) (sC (.int 0)) (dEq false))) (sC (.int 0)) (sC .non)))
      (sPass))
    (sRet (s1 (sCons (s1 (sCons (sC (.int 0)) (sStar (sComp false (s1 (sCons (sVar 2) sNil) dEnum) (.tp [3, 4]) [3, 4] (fun _ => ret true) (s2 (s1 (s2 (s1 (sVar 4) dNeg) (sVar 1) dDiv) dNeg) (sVar 3) dSub)) sNil)) (newLs false)) sNil) (BK.sem false .max))))))
def sem_least_delay : List D → M D := callIO [] false (bodyS 2 5 b_least_delay)
def semM_least_delay : List D → M D := callIO [] true (bodyS 2 5 b_least_delay)
/-! dip (plan) -/
def b_dip : MS :=
    sRet (s2 (s1 (sCons (sVar 0) sNil) Pg.sem_best_entries) (sC (.int 0)) dIx)
def sem_dip : List D → M D := callIO [] false (bodyS 1 1 b_dip)
def semM_dip : List D → M D := callIO [] true (bodyS 1 1 b_dip)
end Pg

set_option Elab.async false
set_option linter.all false
set_option maxRecDepth 100000
set_option maxHeartbeats 1000000
/-! PgB: the bag of the laws, and what is drawn out of it. -/
namespace Pg
open PySem PyProof.Rows L2 Ev

/-! ### small things -/
@[simp] theorem atI_lit {α : Type} {xs : List α} {n : Nat} : L2.atI xs (no_index (OfNat.ofNat n) : Int) = xs[(OfNat.ofNat n : Nat)]? := by
  unfold L2.atI L2.ixN
  have e : ((OfNat.ofNat n : Int)) = ((n : Nat) : Int) := rfl
  rw [e, if_pos (Int.natCast_nonneg n)]
  show _ = xs[n]?
  by_cases h : n < xs.length
  · rw [if_pos (by omega)]; simp
  · rw [if_neg (by omega), List.getElem?_eq_none (by omega)]; rfl
theorem atI_n {α : Type} {xs : List α} {n : Nat} : L2.atI xs (n : Int) = xs[n]? := by
  by_cases h : n < xs.length
  · rw [List.getElem?_eq_getElem h]; exact L2.atI_nat (List.getElem?_eq_getElem h)
  · rw [List.getElem?_eq_none (by omega)]
    unfold L2.atI L2.ixN
    rw [if_pos (by omega), if_neg (by omega)]; rfl
theorem lg_le {n k : Nat} (h : n < 2 ^ k) : n.log2 ≤ k := by
  by_cases h0 : n = 0
  · subst h0; simp
  · exact Nat.le_of_lt ((Nat.log2_lt h0).mpr h)
theorem lg_int {i : Int} {k : Nat} (h0 : 0 ≤ i) (h : i < 2 ^ k) : i.natAbs.log2 ≤ k := lg_le (by
  have : (i.natAbs : Int) < ((2 ^ k : Nat) : Int) := by
    rw [Int.natAbs_of_nonneg h0]
    exact_mod_cast h
  exact_mod_cast this)
theorem bits_le {i : Int} {k : Nat} (h0 : 0 ≤ i) (h : i < 2 ^ k) : Builtin.Int.intBits i ≤ k := PyProof.Rows.intBits_le (by
  have : (i.natAbs : Int) < ((2 ^ k : Nat) : Int) := by
    rw [Int.natAbs_of_nonneg h0]
    exact_mod_cast h
  exact_mod_cast this)
/-- a def that makes a new list -/
theorem io_new {n len : Nat} {g : MS} {ds : List D} {j : Nat} {ys : List D} {S S' : Store} (h : nrDs ds = true) (hl : ds.length = n) (hg : g (ds.map some ++ List.replicate (len - n) none) [] = .rt (.ref j) S') (hj : S'[j]? = some (.lst ys)) (hy : nrDs ys = true) :
    callIO [] true (bodyS n len g) ds S = .ok (.ref S.length) (S ++ [.lst ys]) := by
  have hlt : j < S'.length := (List.getElem?_eq_some_iff.mp hj).1
  unfold callIO
  rw [prep_nr h]
  simp only [orStuck, subS]
  unfold bodyS
  rw [if_pos hl]
  simp only [hg, ioEnd, cfzAll, List.length_nil, o1, backW, Nat.not_lt_zero, if_false]
  have hc : cfz j S' = some ((), S'.set j (.lst ys)) := by
    unfold cfz
    simp only [hj, fzDs, mapRs_nr hy, o1]
  simp only [hc, List.getElem?_set_self hlt, okC, hy, if_true]
theorem cfz_lst {k : Nat} {xs : List D} {S : Store} (h : S[k]? = some (.lst xs)) (n : nrDs xs = true) : cfz k S = some ((), S) := by
  have hlt := (List.getElem?_eq_some_iff.mp h).1
  unfold cfz
  simp only [h, fzDs, mapRs_nr n, o1]
  congr
  rw [← (List.getElem?_eq_some_iff.mp h).2]
  exact List.set_getElem_self hlt
/-- a def that is handed one cell, and plain data -/
theorem io_cell {n len k : Nat} {g : MS} {ds : List D} {d d' : D} {xs ys : List D} {S S' S'' : Store} (hk : S[k]? = some (.lst xs)) (hx : nrDs xs = true) (h : nrDs ds = true) (hl : (D.ref 0 :: ds).length = n)
    (hg : g ((D.ref 0 :: ds).map some ++ List.replicate (len - n) none) [.lst xs] = .rt d S') (hf : fzD d S' = some (d', S'')) (h0 : S''[0]? = some (.lst ys)) (hy : nrDs ys = true) :
    callIO [true] false (bodyS n len g) (.ref k :: ds) S = .ok d' (S.set k (.lst ys)) := by
  unfold callIO
  have hp : prep [true] (.ref k :: ds) [] S = some (.ref 0 :: ds, [k], S) := by
    unfold prep
    simp only [List.headD_cons, List.not_mem_nil, if_false, cfz_lst hk hx, o1, List.tail_cons, List.nil_append, List.length_nil]
    rw [prep_nr h]
  rw [hp]
  have hsub : subS [k] S = some [.lst xs] := by
    unfold subS
    simp only [hk, o1, okC, hx, gd, if_true, subS]
  simp only [orStuck, hsub]
  unfold bodyS
  rw [if_pos hl]
  simp only [hg, hf]
  have he : ioEnd [k] S S'' = some (S.set k (.lst ys), S'') := by
    unfold ioEnd
    have c1 : cfzAll [k].length S'' = some ((), S'') := by
      show cfzAll 1 S'' = _
      unfold cfzAll cfzAll
      simp only [o1, cfz_lst h0 hy]
    simp only [c1, o1]
    unfold backW
    simp only [h0, o1, okC, hy, gd, if_true, backW]
  rw [he]

/-! ### the bag -/
structure Bag where
  xs : List Int
  i : Nat
  cur : Int
  stir : Int
  n : Int
abbrev Bag.items (b : Bag) : List D := [.lst (b.xs.map D.int), .int b.i, .int b.cur, .int b.stir, .int b.n]
abbrev Bag.cell (b : Bag) : Cell := .lst b.items
/-- m: not more than m turns were stirred -/
structure Bag.Ok (b : Bag) (m : Int) : Prop where
  xs0 : ∀ x ∈ b.xs, 0 ≤ x
  i : b.i ≤ b.xs.length
  cur : 0 ≤ b.cur
  s0 : 0 ≤ b.stir
  s1 : b.stir < 2147483647
  n0 : 0 ≤ b.n
  n1 : b.n ≤ m
theorem Bag.Ok.mono {b : Bag} {m m' : Int} (h : b.Ok m) (l : m ≤ m') : b.Ok m' := ⟨h.xs0, h.i, h.cur, h.s0, h.s1, h.n0, Int.le_trans h.n1 l⟩
/-- more than any law stirs -/
def Most : Int := 1000000000000
/-- a number that may be asked for -/
structure Wide (w : Int) : Prop where
  pos : 0 < w
  few : w < 2 ^ 2000
theorem Wide.lg {w : Int} (h : Wide w) : w.natAbs.log2 ≤ 2000 := lg_int (Int.le_of_lt h.pos) h.few
theorem bag_nr (b : Bag) : nrDs b.items = true := by simp
@[simp] theorem ixN_lit {n i : Nat} : L2.ixN n (no_index (OfNat.ofNat i) : Int) = if (OfNat.ofNat i : Nat) < n then some (OfNat.ofNat i) else none := by
  unfold L2.ixN
  have e : ((OfNat.ofNat i : Int)) = ((i : Nat) : Int) := rfl
  rw [e, if_pos (by omega)]
  show _ = if i < n then some i else none
  by_cases h : i < n
  · rw [if_pos (by omega), if_pos h]; simp
  · rw [if_neg (by omega), if_neg h]
/-! stirred -/
abbrev sbody : MS := (sSeq (sSet (sVar 0) (sC (.int 4)) (s2 (s2 (sVar 0) (sC (.int 4)) dIx) (sC (.int 1)) (dAdd false)))
        (sSeq (sAsg (.nm 4) (s2 (s2 (s2 (s2 (s2 (sVar 0) (sC (.int 3)) dIx) (sC (.int 3)) dPow) (s2 (sC (.int 69621)) (s2 (sVar 0) (sC (.int 3)) dIx) (dMul false)) (dAdd false)) (s2 (sC (.int 1031)) (s2 (sVar 0) (sC (.int 4)) dIx) (dMul false)) (dAdd false)) (sC (.int 1)) (dAdd false)))
        (sSeq (sSet (sVar 0) (sC (.int 3)) (s2 (s1 (sCons (sVar 4) sNil) (BK.sem false .int)) (sC (.int 2147483647)) dMod))
        (sAsg (.nm 2) (s2 (s2 (sVar 2) (sC (.int 134217728)) (dMul false)) (s2 (s2 (sVar 0) (sC (.int 3)) dIx) (sC (.int 16)) dDiv) (dAdd false))))))
theorem stir_turn {b : Bag} {m : Int} (ok : b.Ok m) (hm : m ≤ Most) {w f k : Int} {j : Nat} (f0 : 0 ≤ f) (f1 : f < 2 ^ (27 * j)) (hj : j ≤ 100) (z : Option D) :
    ∃ (b' : Bag) (f' : Int) (e : Option D), sbody [some (.ref 0), some (.int w), some (.int f), some (.int k), z] [b.cell] = .nx [some (.ref 0), some (.int w), some (.int f'), some (.int k), e] [b'.cell] ∧
      b'.Ok (m + 1) ∧ b'.xs = b.xs ∧ b'.i = b.i ∧ b'.cur = b.cur ∧ 0 ≤ f' ∧ f' < 2 ^ (27 * (j + 1)) := by
  obtain ⟨xs, i, cur, st, n⟩ := b
  have h3 := ok.s0; have h4 := ok.s1; have h5 := ok.n0; have h6 := ok.n1
  unfold Most at hm
  dsimp only at h3 h4 h5 h6
  have p1 : (Builtin.Int.intBits st : Int) * 3 ≤ 2 ^ 27 := by
    have : Builtin.Int.intBits st ≤ 31 := bits_le h3 (by omega)
    omega
  have p2 : (69621 : Int).natAbs.log2 + st.natAbs.log2 < 1000000 := by
    have := lg_int (k := 31) h3 (by omega)
    have : (69621 : Int).natAbs.log2 = 16 := by decide
    omega
  have p3 : (1031 : Int).natAbs.log2 + (n + 1).natAbs.log2 < 1000000 := by
    have := lg_int (i := n + 1) (k := 50) (by omega) (by omega)
    have : (1031 : Int).natAbs.log2 = 10 := by decide
    omega
  have p4 : f.natAbs.log2 + (134217728 : Int).natAbs.log2 < 1000000 := by
    have := lg_int f0 f1
    have : (134217728 : Int).natAbs.log2 = 27 := by decide
    omega
  refine ⟨⟨xs, i, cur, (st ^ 3 + 69621 * st + 1031 * (n + 1) + 1) % 2147483647, n + 1⟩, f * 134217728 + (st ^ 3 + 69621 * st + 1031 * (n + 1) + 1) % 2147483647 / 16, some (.int (st ^ 3 + 69621 * st + 1031 * (n + 1) + 1)), ?_, ⟨ok.xs0, ok.i, ok.cur, by dsimp only; omega, by dsimp only; omega, by dsimp only; omega, by dsimp only; omega⟩, rfl, rfl, rfl, by omega, ?_⟩
  · simp [sbody, stc, Bag.items, Bag.cell, dPow_int (i := st) (j := 3) (by decide) p1, dMul_int p2, dMul_int p3, dMul_int p4, dMod_int (i := st ^ 3 + 69621 * st + 1031 * (n + 1) + 1) (j := 2147483647) (by decide),
      dDiv_int (i := (st ^ 3 + 69621 * st + 1031 * (n + 1) + 1) % 2147483647) (j := 16) (by decide) (by decide)]
  · have e : (2 : Int) ^ (27 * (j + 1)) = 2 ^ (27 * j) * 134217728 := by
      rw [show 27 * (j + 1) = 27 * j + 27 by omega, Int.pow_add]; rfl
    rw [e]
    generalize (2 : Int) ^ (27 * j) = p at f1
    omega
@[simp] theorem dRange1_int {j : Int} {S : Store} : dRange1 [.int j] S = if okR j = true then .ok (rangeD 0 j.toNat) S else .stuck := (rfl)
@[simp] theorem dRange2_int {i j : Int} {S : Store} : dRange2 [.int i, .int j] S = if (okR i && okR j) = true then .ok (rangeD i (j - i).toNat) S else .stuck := (rfl)
theorem okR_of {i : Int} (h1 : -4000000000000000000 ≤ i) (h2 : i ≤ 4000000000000000000) : okR i = true := by
  unfold okR
  simp only [Bool.and_eq_true, decide_eq_true_eq]
  omega
theorem rangeD_get {lo : Int} {n i : Nat} {d : D} (h : (rangeD lo n)[i]? = some d) : d = .int (lo + i) ∧ i < n := by
  unfold rangeD at h
  rw [List.getElem?_map] at h
  by_cases hi : i < n
  · rw [List.getElem?_range hi] at h
    cases h
    exact ⟨rfl, hi⟩
  · rw [List.getElem?_eq_none (by simpa using hi)] at h
    cases h
/-- what stays of a bag that was stirred -/
structure Bag.Same (b b' : Bag) : Prop where
  xs : b'.xs = b.xs
  i : b'.i = b.i
  cur : b'.cur = b.cur
theorem stirred_eq {b : Bag} {m : Int} {S : Store} {k : Nat} {w : Int} (hk : S[k]? = some b.cell) (ok : b.Ok m) (hm : m + 100 ≤ Most) (W : Wide w) :
    ∃ (b' : Bag) (r : Int), sem_law_stirred [.ref k, .int w] S = .ok (.int r) (S.set k b'.cell) ∧ b'.Ok (m + 100) ∧ b.Same b' ∧ 0 ≤ r ∧ r < w := by
  have w0 := W.pos
  have hb : Builtin.Int.intBits w ≤ 2000 := bits_le (Int.le_of_lt w0) W.few
  have hbi : (Builtin.Int.intBits w : Int) / 27 ≤ 75 ∧ 0 ≤ (Builtin.Int.intBits w : Int) / 27 := by omega
  obtain ⟨t, ht⟩ : ∃ t : Nat, (1 + (Builtin.Int.intBits w : Int) / 27) = (t : Int) := ⟨(1 + (Builtin.Int.intBits w : Int) / 27).toNat, by omega⟩
  have ht2 : t ≤ 76 := by omega
  have loop : ∃ (b' : Bag) (f' : Int), forL (.nm 3) [3, 4] sbody (rangeD 0 t) [some (.ref 0), some (.int w), some (.int 0), none, none] [b.cell] = .nx [some (.ref 0), some (.int w), some (.int f'), none, none] [b'.cell] ∧ b'.Ok (m + 100) ∧ b.Same b' := by
    refine forL_gen (fun r => ∃ (b' : Bag) (f' : Int), r = .nx [some (.ref 0), some (.int w), some (.int f'), none, none] [b'.cell] ∧ b'.Ok (m + 100) ∧ b.Same b')
      (fun i e S => ∃ (b' : Bag) (f' : Int), e = [some (.ref 0), some (.int w), some (.int f'), none, none] ∧ S = [b'.cell] ∧ b'.Ok (m + i) ∧ b.Same b' ∧ 0 ≤ f' ∧ f' < 2 ^ (27 * i))
      ⟨b, 0, by simp, rfl, ok.mono (by simp), ⟨rfl, rfl, rfl⟩, by omega, by simp⟩ (fun i d e S hi ⟨b', f', he, hS, o, sm, f0, f1⟩ => ?_) fun e S ⟨b', f', he, hS, o, sm, _, _⟩ => ?_
    · obtain ⟨rfl, hlt⟩ := rangeD_get hi
      subst he; subst hS
      obtain ⟨b2, f2, z, h1, h2, h3, h4, h5, h6, h7⟩ := stir_turn o (w := w) (f := f') (k := 0 + (i : Int)) (j := i) (by omega) f0 f1 (by omega) none
      refine ⟨_, rfl, ?_⟩
      simp only [List.set_cons_succ, List.set_cons_zero]
      rw [h1]
      exact ⟨b2, f2, by simp, rfl, h2.mono (by simp; omega), ⟨h3.trans sm.xs, h4.trans sm.i, h5.trans sm.cur⟩, h6, h7⟩
    · exact ⟨b', f', by rw [he, hS], o.mono (by rw [rangeD_len]; omega), sm⟩
  obtain ⟨b', f', h1, h2, h3⟩ := loop
  refine ⟨b', f' % w, io_cell hk (by simp) (by simp) rfl (d := .int (f' % w)) (S' := [b'.cell]) (S'' := [b'.cell]) ?_ (fz_nr rfl) rfl (by simp), h2, h3, Int.emod_nonneg _ (by omega), Int.emod_lt_of_pos _ w0⟩
  have h1' := h1
  simp [b_law_stirred, dDiv_int (i := (Builtin.Int.intBits w : Int)) (j := 27) (by decide) (by decide), ht, okR_of (i := (t : Int)) (by omega) (by omega)]
  simp only [sbody, bk_int] at h1'
  simp only [Bag.cell, Bag.items] at h1'
  rw [h1']
  simp [dMod_int w0]
/-! drawn -/
theorem draw_eq {b : Bag} {m : Int} {S : Store} {k : Nat} {w : Int} (hk : S[k]? = some b.cell) (ok : b.Ok m) (hm : m + 100 ≤ Most) (W : Wide w) :
    ∃ (b' : Bag) (r : Int), sem_law_draw [.ref k, .int w] S = .ok (.int r) (S.set k b'.cell) ∧ b'.Ok (m + 100) ∧ 0 ≤ r ∧ r < w := by
  have w0 := W.pos
  have wl : w.natAbs.log2 < 9000 := by have := W.lg; omega
  have h1 := ok.xs0; have h2 := ok.i; have h3 := ok.cur; have h5 := ok.s0; have h6 := ok.s1; have h7 := ok.n0; have h8 := ok.n1
  obtain ⟨xs, i, cur, st, n⟩ := b
  dsimp only at h1 h2 h3 h5 h6 h7 h8
  by_cases c0 : cur = 0
  · by_cases c1 : i < xs.length
    · have x0 : 0 ≤ xs[i] := h1 _ (List.getElem_mem c1)
      have gx : (xs.map D.int)[i]? = some (.int xs[i]) := by rw [List.getElem?_map, List.getElem?_eq_getElem c1]; rfl
      refine ⟨⟨xs, i + 1, xs[i] / w, st, n⟩, xs[i] % w, io_cell hk (by simp) (by simp) rfl (d := .int (xs[i] % w)) (S' := [Bag.cell ⟨xs, i + 1, xs[i] / w, st, n⟩]) (S'' := [Bag.cell ⟨xs, i + 1, xs[i] / w, st, n⟩]) ?_ (fz_nr rfl) rfl (by simp),
        ⟨h1, by dsimp only; omega, Int.ediv_nonneg x0 (by omega), h5, h6, h7, by dsimp only; omega⟩, Int.emod_nonneg _ (by omega), Int.emod_lt_of_pos _ w0⟩
      subst c0
      simp [b_law_draw, stc, Bag.items, Bag.cell, c1, atI_n, gx, dMod_int w0, dDiv_int w0 wl]
    · obtain ⟨b', r, e1, e2, e3, e4⟩ := stirred_eq (b := ⟨xs, i, cur, st, n⟩) (S := [Bag.cell ⟨xs, i, cur, st, n⟩]) (k := 0) rfl ok hm W
      obtain ⟨e4, e5⟩ := e4
      refine ⟨b', r, io_cell hk (by simp) (by simp) rfl (d := .int r) (S' := [b'.cell]) (S'' := [b'.cell]) ?_ (fz_nr rfl) rfl (by simp), e2, e4, e5⟩
      subst c0
      simp [b_law_draw, stc, Bag.items, Bag.cell, c1] at e1 ⊢
      rw [e1]
      simp
  · refine ⟨⟨xs, i, cur / w, st, n⟩, cur % w, io_cell hk (by simp) (by simp) rfl (d := .int (cur % w)) (S' := [Bag.cell ⟨xs, i, cur / w, st, n⟩]) (S'' := [Bag.cell ⟨xs, i, cur / w, st, n⟩]) ?_ (fz_nr rfl) rfl (by simp),
      ⟨h1, h2, Int.ediv_nonneg h3 (by omega), h5, h6, h7, by dsimp only; omega⟩, Int.emod_nonneg _ (by omega), Int.emod_lt_of_pos _ w0⟩
    simp [b_law_draw, stc, Bag.items, Bag.cell, c0, dMod_int w0, dDiv_int w0 wl]
end Pg

set_option Elab.async false
set_option linter.all false
set_option maxRecDepth 100000
set_option maxHeartbeats 1000000
/-! PgC: the bag that a law begins with; alike. -/
namespace Pg
open PySem L2 Ev

theorem cutD_map {c : Int → D} {xs : List Int} (lo hi : Option Int) : cutD (xs.map c) lo hi = (((xs.drop (HT.sIx xs.length 0 lo)).take (HT.sIx xs.length xs.length hi - HT.sIx xs.length 0 lo))).map c := by
  unfold cutD
  simp [List.map_drop, List.map_take]
@[simp] theorem dSl_scr {xs : List Int} {lo hi : Option Int} {mu : Bool} {S : Store} : dSl mu (.scr xs) lo hi S = newL mu (cutD (xs.map D.int) lo hi) S := (rfl)
theorem bag_turns (m1 : MS) (hm : m1 = (sAsg (.nm 1) (s2 (s1 (sCons (s2 (s2 (s2 (sVar 1) (sC (.int 48271)) (dMul false)) (s2 (s1 (sCons (sVar 2) sNil) (BK.sem false .int)) (sC (.int 2147483629)) dMod) (dAdd false)) (sC (.int 1)) (dAdd false)) sNil) (BK.sem false .int)) (sC (.int 2147483647)) dMod))) :
    ∀ (xs : List Int) (st : Int) (w z : Option D), 0 ≤ st → st < 2147483647 → ∃ st', 0 ≤ st' ∧ st' < 2147483647 ∧ forL (.nm 2) [2] m1 (xs.map D.int) [w, some (.int st), z] [] = .nx [w, some (.int st'), none] []
  | [], st, w, z, h1, h2 => ⟨st, h1, h2, by simp [forL]⟩
  | x :: xs, st, w, z, h1, h2 => by
    obtain ⟨st', a, b, c⟩ := bag_turns m1 hm xs ((st * 48271 + x % 2147483629 + 1) % 2147483647) w (some (.int x)) (by omega) (by omega)
    refine ⟨st', a, b, ?_⟩
    have p : st.natAbs.log2 + (48271 : Int).natAbs.log2 < 1000000 := by
      have := lg_int (k := 31) h1 (by omega)
      have : (48271 : Int).natAbs.log2 = 15 := by decide
      omega
    rw [List.map_cons]
    unfold forL
    simp [hm, dMul_int p, dMod_int (i := x) (j := 2147483629) (by decide), dMod_int (i := st * 48271 + x % 2147483629 + 1) (j := 2147483647) (by decide)]
    simpa [hm] using c
theorem bag_eq (ns : List Int) (S : Store) (hl : ns.length ≤ 63) : ∃ b : Bag, semM_law_bag [.scr ns] S = .ok (.ref S.length) (S ++ [b.cell]) ∧ b.Ok 0 := by
  obtain ⟨ys, hy, hyl⟩ : ∃ ys : List Int, cutD (ns.map D.int) none (some 63) = ys.map D.int ∧ ys.length ≤ 63 := ⟨_, cutD_map _ _, by simp; omega⟩
  obtain ⟨st, s0, s1, loop⟩ := bag_turns _ rfl ys 141 (some (.scr ns)) none (by decide) (by decide)
  refine ⟨⟨ys.map fun x => (x.natAbs : Int) % (10 ^ 60) ^ 10, 0, 0, st, 0⟩, io_new (j := 0) (S' := [Bag.cell ⟨ys.map fun x => (x.natAbs : Int) % (10 ^ 60) ^ 10, 0, 0, st, 0⟩]) (by simp) rfl ?_ rfl (by simp [← List.map_map]), ⟨fun x hx => ?_, Nat.zero_le _, Int.le_refl _, s0, s1, Int.le_refl _, Int.le_refl _⟩⟩
  · simp [b_law_bag, hy]
    simp at loop
    rw [loop]
    simp [hy]
    rw [sComp_of (items := ys.map D.int) (S1 := []) (ys := (ys.map fun x => D.int ((x.natAbs : Int) % (10 ^ 60) ^ 10))) (S2 := []) (by simp [hy]) (by rw [sizeL]; simp; omega) (by
      refine compL_mapOf (c := D.int) fun x hx => ⟨_, rfl, rfl, ?_⟩
      have q1 : (Builtin.Int.intBits 10 : Int) * 60 ≤ 2 ^ 27 := by
        have : Builtin.Int.intBits 10 ≤ 4 := bits_le (by decide) (by decide)
        omega
      have q2 : (Builtin.Int.intBits (10 ^ 60) : Int) * 10 ≤ 2 ^ 27 := by
        have : Builtin.Int.intBits (10 ^ 60) ≤ 200 := bits_le (by decide) (by decide)
        omega
      have e1 : dPow (.int 10) (.int 60) [] = .ok (.int (10 ^ 60)) [] := dPow_int (by decide) q1
      have e2 : dPow (.int (10 ^ 60)) (.int 10) [] = .ok (.int ((10 ^ 60) ^ 10)) [] := dPow_int (by decide) q2
      simp only [sBM_ap, s2_ap, s1_ap, sCons_ap, sVar_ap, sC_ap, sNil_ap, rb_ok, bk_int, bk_abs, wipeD_cons, wipeD_nil, List.set_cons_succ, List.set_cons_zero, List.getElem?_cons_succ, List.getElem?_cons_zero, vr_some, dAbs_int, dInt_int, e1, e2]
      exact dMod_int (by decide))]
    rw [newL_f]
    simp only [rb_ok]
    rw [newLs_ap (by rw [sizeL]; simp)]
    simp
  · obtain ⟨y, _, rfl⟩ := List.mem_map.mp hx
    exact Int.emod_nonneg _ (by decide)
end Pg

set_option Elab.async false
set_option linter.all false
set_option maxRecDepth 100000
set_option maxHeartbeats 1000000
/-! PgD: alike of a value and itself. -/
namespace Pg
open PySem L2 Ev

theorem compL_true {t : Tg} {elt : Envd → M D} {env : Envd} {S : Store} {items : List D} (h : ∀ d ∈ items, ∃ e1, t.bind d env S = .ok e1 S ∧ elt e1 S = .ok (.bl true) S) :
    compL t (fun _ => ret true) elt env items S = .ok ((List.replicate items.length true).map D.bl) S := by
  have := compL_map (t := t) (test := fun _ => ret true) (elt := elt) (env := env) (S := S) (f := fun _ => D.bl true) (items := items) fun d hd => by
    obtain ⟨e1, a, b⟩ := h d hd
    exact ⟨e1, a, rfl, b⟩
  rw [this]
  congr 1
  simp [List.map_const']
mutual
/-- few enough to be walked -/
def fewD : D → Bool
  | .lst xs => decide (xs.length ≤ 100000) && fewDs xs
  | .tup xs => decide (xs.length ≤ 100000) && fewDs xs
  | _ => true
def fewDs : List D → Bool
  | [] => true
  | d :: ds => fewD d && fewDs ds
end
theorem fewDs_mem {ds : List D} (h : fewDs ds = true) : ∀ d ∈ ds, fewD d = true := by
  induction ds with
  | nil => intro d hd; cases hd
  | cons e ds ih =>
    simp only [fewDs, Bool.and_eq_true] at h
    intro d hd
    rcases List.mem_cons.mp hd with rfl | hd
    · exact h.1
    · exact ih h.2 d hd
theorem alike_seq {self : List D → M D} {d : D} {t : String} {xs : List D} {S : Store} (ht : tyD [] d = some t) (hb : (isB t "list" || isB t "tuple") = true) (hl : dLen [d] [] = .ok (.int xs.length) []) (hi : ∀ (i : Nat) (x : D), xs[i]? = some x → dIx d (.int i) [] = .ok x [])
    (few : xs.length ≤ 100000) (ih : ∀ x ∈ xs, self [x, x] [] = .ok (.bl true) []) (hn : nrD d = true) : callIO [] false (bodyS 2 3 (b_law_alike self)) [d, d] S = .ok (.bl true) S := by
  refine io_pure (d := .bl true) (S' := []) (S'' := []) (by simp [hn]) rfl ?_ rfl
  have comp : sComp false (s1 (sCons (s1 (sCons (sVar 1) sNil) dLen) sNil) dRange1) (.nm 2) [2] (fun _ => ret true) (s1 (sCons (s2 (sVar 0) (sVar 2) dIx) (sCons (s2 (sVar 1) (sVar 2) dIx) sNil)) self) [some d, some d, none] [] = .ok (.lst ((List.replicate xs.length true).map D.bl)) [] := by
    rw [sComp_of (items := rangeD 0 xs.length) (S1 := []) (ys := (List.replicate xs.length true).map D.bl) (S2 := []) (by simp [hl, okR_of (i := (xs.length : Int)) (by omega) (by omega)]) (by rw [rangeD_len, sizeL]; omega) ?_]
    · simp
    · have := compL_true (t := .nm 2) (elt := s1 (sCons (s2 (sVar 0) (sVar 2) dIx) (sCons (s2 (sVar 1) (sVar 2) dIx) sNil)) self) (env := wipeD [some d, some d, none] [2]) (S := []) (items := rangeD 0 xs.length) fun y hy => by
        obtain ⟨i, hlt⟩ := List.getElem?_of_mem hy
        obtain ⟨rfl, hi2⟩ := rangeD_get hlt
        refine ⟨_, rfl, ?_⟩
        have e := hi i xs[i] (List.getElem?_eq_getElem hi2)
        have e2 := ih xs[i] (List.getElem_mem hi2)
        simp [e, e2]
      rw [this, rangeD_len]
  simp at comp
  simp [b_law_alike, ht, TK.name, hb, hl, comp]
theorem alike_same : ∀ (n : Nat) {d : D} {S : Store}, plD n d = true → fewD d = true → sem0_law_alike (n + 1) [d, d] S = .ok (.bl true) S
  | n + 1, .lst xs, S, h, hf => by
    simp only [plD] at h
    simp only [fewD, Bool.and_eq_true, decide_eq_true_eq] at hf
    refine alike_seq (t := "list") (xs := xs) rfl (by decide) rfl (fun i x hx => by simp [atI_n, hx]) hf.1 (fun x hx => alike_same n (plDs_mem h x hx) (fewDs_mem hf.2 x hx)) (plDs_nr h)
  | n + 1, .tup xs, S, h, hf => by
    simp only [plD] at h
    simp only [fewD, Bool.and_eq_true, decide_eq_true_eq] at hf
    refine alike_seq (t := "tuple") (xs := xs) rfl (by decide) rfl (fun i x hx => by simp [atI_n, hx]) hf.1 (fun x hx => alike_same n (plDs_mem h x hx) (fewDs_mem hf.2 x hx)) (plDs_nr h)
  | n, .non, S, h, _ => by
    refine io_pure (d := .bl true) (S' := []) (S'' := []) rfl rfl ?_ rfl
    simp [b_law_alike, TK.name, isB, dEq_pl (n := 0) (d := .non) (e := .non) plD_non plD_non (by decide)]
  | n, .bl b, S, h, _ => by
    refine io_pure (d := .bl true) (S' := []) (S'' := []) rfl rfl ?_ rfl
    simp [b_law_alike, TK.name, isB]
  | n, .int b, S, h, _ => by
    refine io_pure (d := .bl true) (S' := []) (S'' := []) rfl rfl ?_ rfl
    simp [b_law_alike, TK.name, isB]
  | n, .str b, S, h, _ => by
    refine io_pure (d := .bl true) (S' := []) (S'' := []) rfl rfl ?_ rfl
    have h0 : plD 0 (.str b) = true := by cases n <;> simpa only [plD] using h
    simp [b_law_alike, TK.name, isB, dEq_pl (n := 0) (d := .str b) (e := .str b) h0 h0 (by decide)]
  | 0, .lst xs, S, h, _ => by simp only [plD] at h; cases h
  | 0, .tup xs, S, h, _ => by simp only [plD] at h; cases h
  | n, .scr xs, S, h, _ => by cases n <;> (simp only [plD] at h; cases h)
  | n, .dct ks xs, S, h, _ => by cases n <;> (simp only [plD] at h; cases h)
  | n, .obj c xs, S, h, _ => by cases n <;> (simp only [plD] at h; cases h)
  | n, .ref k, S, h, _ => by cases n <;> (simp only [plD] at h; cases h)
  | n, .exn c xs, S, h, _ => by cases n <;> (simp only [plD] at h; cases h)
theorem alike_pl {n : Nat} {d : D} {S : Store} (h : plD n d = true) (l : n ≤ 5) (hf : fewD d = true) : sem_law_alike [d, d] S = .ok (.bl true) S := by
  have up : ∀ (m : Nat) {n : Nat} {d : D}, plD n d = true → n ≤ m → plD m d = true := by
    intro m
    induction m with
    | zero => intro n d h l; rw [Nat.le_zero.mp l] at h; exact h
    | succ m ih =>
      intro n d h l
      cases n with
      | zero =>
        cases d <;> (first | (simp only [plD]; done) | (simp only [plD] at h ⊢; exact h) | (simp only [plD] at h; cases h))
      | succ n =>
        cases d with
        | lst xs =>
          simp only [plD] at h ⊢
          exact plDs_all fun d hd => ih (plDs_mem h d hd) (by omega)
        | tup xs =>
          simp only [plD] at h ⊢
          exact plDs_all fun d hd => ih (plDs_mem h d hd) (by omega)
        | _ => (first | (simp only [plD]; done) | (simp only [plD] at h ⊢; exact h) | (simp only [plD] at h; cases h))
  exact alike_same 5 (up 5 h l) hf
end Pg

set_option Elab.async false
set_option linter.all false
set_option maxRecDepth 100000
set_option maxHeartbeats 4000000
/-! K56P: what the defs of the law do, by data. -/
namespace Pg
open PySem Ev
/-! law_asked (way, some, one, two, e, shown) -/
def b_law_asked : MS :=
    sSeq (sTryAs [1, 2, 3, 5, 6, 8, 11] 0 4
      (sIfS (sTest (s2 (sVar 0) (sC (.int 0)) (dEq false)))
        (sExpr (s1 (sCons (sVar 1) (sCons (sVar 2) (sCons (sVar 3) sNil))) Pg.sem_joint))
        (sIfS (sTest (s2 (sVar 0) (sC (.int 1)) (dEq false)))
          (sExpr (s1 (sCons (sVar 1) (sCons (sVar 2) sNil)) Pg.sem_shares))
          (sExpr (s1 (sCons (sVar 1) (sCons (sVar 2) sNil)) Pg.sem_gain))))
      (sSeq (sAsg (.nm 5) (s1 (sCons (s1 (sVar 4) (dIsX [1, 2, 3, 5, 6, 8, 11] 8)) (sCons (s1 (sVar 4) (dIsX [1, 2, 3, 5, 6, 8, 11] 5)) (sCons (s1 (sVar 4) (dIsX [1, 2, 3, 5, 6, 8, 11] 2)) sNil))) (newLs false)))
        (sRet (sBM (MK.chk .index) (s2 (sVar 5) (s1 (sCons (s1 (sVar 4) (dIsX [1, 2, 3, 5, 6, 8, 11] 6)) (sCons (sC (.bl true)) sNil)) (newLs false)) (dAdd false)) (sCons (sC (.bl true)) sNil) (MK.sem false .index)))))
    (sRet (sC .non))
def sem_law_asked : List D → M D := callIO [] false (bodyS 4 6 b_law_asked)
def semM_law_asked : List D → M D := callIO [] true (bodyS 4 6 b_law_asked)
/-! law (script, bag, good, bad, lists, fees, turn, told, way, odd) -/
def L1_law : MS :=
    sSeq (sTup [8, 9] (sCons (s1 (sCons (sVar 1) (sCons (sC (.int 3)) sNil)) Pg.sem_law_draw) (sCons (s2 (sVar 4) (s1 (sCons (sVar 1) (sCons (s1 (sCons (sVar 4) sNil) (BK.sem false .len)) sNil)) Pg.sem_law_draw) dIx) sNil)))
        (sSeq (sAsg (.nm 7) (s1 (sCons (s1 (sCons (sVar 8) (sCons (s2 (sVar 3) (s1 (sCons (sVar 1) (sCons (s1 (sCons (sVar 3) sNil) (BK.sem false .len)) sNil)) Pg.sem_law_draw) dIx) (sCons (sVar 9) (sCons (sVar 9) sNil)))) Pg.sem_law_asked) (sCons (s1 (sCons (sC (.int 0)) (sCons (sVar 2) (sCons (sVar 9) (sCons (sVar 9) sNil)))) Pg.sem_law_asked) sNil)) (newLs true)))
        (sSeq (sAsg (.nm 7) (s2 (sVar 7) (s1 (sCons (s1 (sCons (sC (.int 0)) (sCons (sVar 2) (sCons (s1 (sCons (sC (.int 0)) (sCons (sC (.int 0)) sNil)) (newLs false)) (sCons (sVar 9) sNil)))) Pg.sem_law_asked) (sCons (s1 (sCons (sC (.int 1)) (sCons (sVar 2) (sCons (sVar 9) (sCons (sC (.int 0)) sNil)))) Pg.sem_law_asked) sNil)) (newLs false)) (dAdd true)))
        (sSeq (sExpr (sBM (MK.chk .append) (sVar 7) (sCons (s1 (sCons (sC (.int 2)) (sCons (sVar 2) (sCons (s2 (sVar 5) (s1 (sCons (sVar 1) (sCons (s1 (sCons (sVar 5) sNil) (BK.sem false .len)) sNil)) Pg.sem_law_draw) dIx) (sCons (sC (.int 0)) sNil)))) Pg.sem_law_asked) sNil) (MK.sem false .append)))
        (sSeq (sExpr (sBM (MK.chk .append) (sVar 7) (sCons (s1 (sCons (sVar 8) (sCons (s2 (sVar 3) (s1 (sCons (sVar 1) (sCons (s1 (sCons (sVar 3) sNil) (BK.sem false .len)) sNil)) Pg.sem_law_draw) dIx) (sCons (s1 (sCons (sC (.int 0)) (sCons (sC (.int 0)) sNil)) (newLs false)) (sCons (s1 (sCons (sC (.int 1)) (sCons (sC (.int 1)) sNil)) (newLs false)) sNil)))) Pg.sem_law_asked) sNil) (MK.sem false .append)))
        (sIfS (sNot (sTest (s1 (sCons (sVar 7) (sCons (s1 (sCons (sC (.int 0)) (sCons (sC (.int 1)) (sCons (sC (.int 1)) (sCons (sC (.int 2)) (sCons (sC (.int 3)) (sCons (sC (.int 0)) sNil)))))) (newLs false)) sNil)) Pg.sem_law_alike)))
        (sRet (sC (.bl false)))
        (sPass))))))
def b_law : MS :=
    sSeq (sAsg (.nm 1) (s1 (sCons (sVar 0) sNil) Pg.semM_law_bag))
    (sSeq (sAsg (.nm 2) (s1 (sCons (s1 (sCons (s1 (sCons (sC (.int 0)) (sCons (sC (.int 3)) sNil)) (newLs false)) (sCons (s1 (sCons (sC (.int 2)) (sCons (sC (.int 3)) sNil)) (newLs false)) sNil)) newTs) (sCons (s1 (sCons (s1 (sCons (s1 (sC (.int 1)) dNeg) (sCons (sC (.int 2)) sNil)) (newLs false)) (sCons (s1 (sCons (sC (.int 1)) (sCons (sC (.int 2)) sNil)) (newLs false)) sNil)) newTs) sNil)) (newLs false)))
    (sSeq (sAsg (.nm 3) (s1 (sCons (sC .non) (sCons (s1 sNil newTs) (sCons (s1 sNil (newLs false)) (sCons (sC (.dct [] [])) (sCons (sC (.int 3)) (sCons (s2 (sVar 2) (sC (.int 0)) dIx) (sCons (s1 (sCons (sC .non) sNil) (newLs false)) (sCons (s1 (sCons (s1 (sCons (s1 (sCons (sC (.int 0)) sNil) (newLs false)) (sCons (s1 (sCons (sC (.int 1)) sNil) (newLs false)) sNil)) newTs) sNil) (newLs false)) (sCons (s1 (sCons (s1 (sCons (s1 (sCons (sC (.int 1)) sNil) (newLs false)) (sCons (s1 (sCons (sC (.int 0)) sNil) (newLs false)) sNil)) newTs) sNil) (newLs false)) (sCons (s1 (sCons (s1 (sCons (s1 (sCons (sC (.int 0)) (sCons (sC (.int 1)) sNil)) (newLs false)) (sCons (s1 (sCons (sC (.int 1)) (sCons (sC (.int 0)) sNil)) (newLs false)) sNil)) newTs) sNil) (newLs false)) (sCons (s1 (sCons (s1 (sCons (s1 (sCons (sC (.int 0)) sNil) (newLs false)) (sCons (s1 (sCons (sC (.int 0)) sNil) (newLs false)) (sCons (s1 (sCons (sC (.int 0)) sNil) (newLs false)) sNil))) newTs) sNil) (newLs false)) sNil))))))))))) (newLs false)))
    (sSeq (sAsg (.nm 3) (s2 (sVar 3) (s1 (sCons (s1 (sCons (s1 (sCons (s1 (sCons (sC (.int 0)) sNil) (newLs false)) (sCons (s1 (sCons (sC (.int 0)) sNil) (newLs false)) sNil)) (newLs false)) sNil) (newLs false)) (sCons (s1 (sCons (s1 (sCons (s1 (sCons (sC (.int 0)) sNil) newTs) (sCons (s1 (sCons (sC (.int 0)) sNil) (newLs false)) sNil)) newTs) sNil) (newLs false)) (sCons (s1 (sCons (s1 (sCons (s1 (sCons (sC (.bl true)) sNil) (newLs false)) (sCons (s1 (sCons (sC (.int 1)) sNil) (newLs false)) sNil)) newTs) sNil) (newLs false)) (sCons (s1 (sCons (s1 (sCons (s1 sNil (newLs false)) (sCons (s1 sNil (newLs false)) sNil)) newTs) sNil) (newLs false)) (sCons (s1 (sCons (s1 (sCons (s1 (sCons (sC (.int 0)) (sCons (sC (.int 1)) sNil)) (newLs false)) (sCons (s1 (sCons (sC (.int 1)) sNil) (newLs false)) sNil)) newTs) sNil) (newLs false)) (sCons (s1 (sCons (s2 (sVar 2) (sC (.int 0)) dIx) (sCons (s1 (sCons (s1 (sCons (sC (.int 0)) sNil) (newLs false)) (sCons (s1 (sCons (sC (.int 0)) sNil) (newLs false)) sNil)) newTs) sNil)) (newLs false)) sNil)))))) (newLs false)) (dAdd false)))
    (sSeq (sAsg (.nm 3) (s2 (sVar 3) (s1 (sCons (s2 (s2 (sVar 2) (sC (.int 10)) (dMul false)) (sSl false (sVar 2) (sPart none) (sPart (some (sC (.int 1))))) (dAdd false)) (sCons (s1 (sCons (s1 (sCons (s2 (s1 (sCons (sC (.int 0)) sNil) (newLs false)) (sC (.int 201)) (dMul false)) (sCons (s2 (s1 (sCons (sC (.int 0)) sNil) (newLs false)) (sC (.int 201)) (dMul false)) sNil)) newTs) sNil) (newLs false)) (sCons (s1 (sCons (s1 (sCons (sC (.str "0")) (sCons (sC (.str "0")) sNil)) newTs) sNil) (newLs false)) (sCons (s1 (sCons (s2 (sVar 2) (sC (.int 0)) dIx) (sCons (sC .non) sNil)) (newLs false)) (sCons (s1 (sCons (sVar 2) sNil) (BK.sem false .tuple)) sNil))))) (newLs false)) (dAdd false)))
    (sSeq (sAsg (.nm 4) (s1 (sCons (sC .non) (sCons (s1 sNil newTs) (sCons (s1 sNil (newLs false)) (sCons (s1 (sCons (sC (.int 0)) sNil) (newLs false)) (sCons (s1 (sCons (sC (.int 0)) (sCons (sC (.int 0)) (sCons (sC (.int 0)) sNil))) (newLs false)) (sCons (s1 (sCons (sC (.bl true)) (sCons (sC (.int 0)) sNil)) (newLs false)) (sCons (s1 (sCons (sC (.str "0")) (sCons (sC (.int 0)) sNil)) (newLs false)) (sCons (sC (.int 3)) (sCons (s1 (sCons (sC (.int 0)) (sCons (sC (.int 0)) sNil)) newTs) (sCons (sC (.dct [] [])) (sCons (s1 (sCons (sC .non) (sCons (sC (.int 0)) sNil)) (newLs false)) (sCons (s1 (sCons (s1 (sCons (sC (.int 0)) sNil) (newLs false)) (sCons (sC (.int 0)) sNil)) (newLs false)) sNil)))))))))))) (newLs false)))
    (sSeq (sAsg (.nm 5) (s1 (sCons (sC .non) (sCons (s1 sNil newTs) (sCons (s1 (sCons (sC (.int 0)) (sCons (s1 sNil newTs) sNil)) newTs) (sCons (s1 (sCons (sC (.int 0)) (sCons (s1 sNil (newLs false)) sNil)) (newLs false)) (sCons (s1 (sCons (sC (.bl true)) (sCons (s1 sNil (newLs false)) sNil)) newTs) (sCons (s1 (sCons (sC (.int 0)) (sCons (s1 (sCons (s1 (sCons (sC (.int 1)) (sCons (sC (.int 0)) sNil)) newTs) sNil) (newLs false)) sNil)) newTs) (sCons (s1 (sCons (sC (.int 0)) (sCons (s1 (sCons (s1 (sCons (sC (.int 2)) (sCons (sC (.int 1)) sNil)) newTs) (sCons (s1 (sCons (sC (.int 1)) (sCons (sC (.int 1)) sNil)) newTs) sNil)) (newLs false)) sNil)) newTs) (sCons (s1 (sCons (sC (.int 0)) (sCons (sC .non) sNil)) newTs) sNil)))))))) (newLs false)))
    (sSeq (sFor (.nm 6) [6, 7, 8, 9] (s1 (sCons (sC (.int 6)) sNil) dRange1)
      (Pg.L1_law))
    (sSeq (sAsg (.nm 7) (s1 (sCons (s1 (sCons (sC (.int 0)) (sCons (sVar 2) (sCons (s1 (sCons (sC (.int 0)) (sCons (sC (.int 2)) sNil)) (newLs false)) (sCons (s1 (sCons (sC (.int 0)) (sCons (sC (.int 1)) sNil)) (newLs false)) sNil)))) Pg.sem_law_asked) (sCons (s1 (sCons (sC (.int 0)) (sCons (sVar 2) (sCons (s1 (sCons (s1 (sC (.int 9)) dNeg) (sCons (sC (.int 0)) sNil)) (newLs false)) (sCons (s1 (sCons (sC (.int 9)) (sCons (sC (.int 0)) sNil)) (newLs false)) sNil)))) Pg.sem_law_asked) (sCons (s1 (sCons (sC (.int 1)) (sCons (sVar 2) (sCons (s1 (sCons (s1 (sC (.int 1)) dNeg) (sCons (sC (.int 6)) sNil)) (newLs false)) (sCons (sC (.int 0)) sNil)))) Pg.sem_law_asked) sNil))) (newLs true)))
    (sSeq (sAsg (.nm 7) (s2 (sVar 7) (s1 (sCons (s1 (sCons (sC (.int 1)) (sCons (sVar 2) (sCons (s1 (sCons (s1 (sC (.int 2)) dNeg) (sCons (sC (.int 7)) sNil)) (newLs false)) (sCons (sC (.int 0)) sNil)))) Pg.sem_law_asked) (sCons (s1 (sCons (sC (.int 1)) (sCons (sVar 2) (sCons (s1 (sCons (sC (.int 3)) (sCons (sC (.int 2)) sNil)) (newLs false)) (sCons (sC (.int 0)) sNil)))) Pg.sem_law_asked) (sCons (s1 (sCons (sC (.int 1)) (sCons (sVar 2) (sCons (s1 (sCons (sC (.int 4)) (sCons (sC (.int 1)) sNil)) (newLs false)) (sCons (sC (.int 0)) sNil)))) Pg.sem_law_asked) sNil))) (newLs false)) (dAdd true)))
    (sSeq (sAsg (.nm 7) (s2 (sVar 7) (s1 (sCons (s1 (sCons (sC (.int 1)) (sCons (sVar 2) (sCons (s1 (sCons (sC (.int 0)) (sCons (sC (.int 4)) sNil)) (newLs false)) (sCons (sC (.int 0)) sNil)))) Pg.sem_law_asked) (sCons (s1 (sCons (sC (.int 2)) (sCons (s2 (sVar 2) (sC (.int 10)) (dMul false)) (sCons (s1 (sCons (sC (.int 0)) (sCons (s1 sNil (newLs false)) sNil)) newTs) (sCons (sC (.int 0)) sNil)))) Pg.sem_law_asked) sNil)) (newLs false)) (dAdd true)))
    (sSeq (sExpr (sBM (MK.chk .append) (sVar 7) (sCons (s1 (sCons (sC (.int 1)) (sCons (s1 (sCons (s1 (sCons (s2 (s1 (sCons (sC (.int 0)) sNil) (newLs false)) (sC (.int 200)) (dMul false)) (sCons (s2 (s1 (sCons (sC (.int 0)) sNil) (newLs false)) (sC (.int 200)) (dMul false)) sNil)) newTs) sNil) (newLs false)) (sCons (s2 (s1 (sCons (sC (.int 0)) sNil) (newLs false)) (sC (.int 200)) (dMul false)) (sCons (sC (.int 0)) sNil)))) Pg.sem_law_asked) sNil) (MK.sem false .append)))
    (sRet (s1 (sCons (sVar 7) (sCons (s1 (sCons (sC (.int 1)) (sCons (sC .non) (sCons (sC .non) (sCons (sC (.int 2)) (sCons (sC .non) (sCons (sC (.int 2)) (sCons (sC (.int 2)) (sCons (sC .non) (sCons (sC .non) sNil))))))))) (newLs false)) sNil)) Pg.sem_law_alike)))))))))))))
def sem_law : List D → M D := callIO [] false (bodyS 1 10 b_law)
def semM_law : List D → M D := callIO [] true (bodyS 1 10 b_law)
end Pg

set_option Elab.async false
set_option linter.all false
set_option maxRecDepth 100000
set_option maxHeartbeats 4000000
/-! K56C: k56: what is asked, by runs of the kernel. -/
namespace K56
open PySem L2 Ev Pg

abbrev g0 : D := .tup [.lst [.int 0, .int 3], .lst [.int 2, .int 3]]
abbrev g1 : D := .tup [.lst [.int (-1), .int 2], .lst [.int 1, .int 2]]
abbrev good : List D := [g0, g1]
abbrev z1 : D := .lst [.int 0]
abbrev o1' : D := .lst [.int 1]
def bad : List D := [.non, .tup [], .lst [], .dct [] [], .int 3, g0, .lst [.non], .lst [.tup [z1, o1']], .lst [.tup [o1', z1]], .lst [.tup [.lst [.int 0, .int 1], .lst [.int 1, .int 0]]], .lst [.tup [z1, z1, z1]],
  .lst [.lst [z1, z1]], .lst [.tup [.tup [.int 0], z1]], .lst [.tup [.lst [.bl true], o1']], .lst [.tup [.lst [], .lst []]], .lst [.tup [.lst [.int 0, .int 1], o1']], .lst [g0, .tup [z1, z1]],
  .lst ((List.replicate 10 good).flatten ++ [g0]), .lst [.tup [.lst (List.replicate 201 (.int 0)), .lst (List.replicate 201 (.int 0))]], .lst [.tup [.str "0", .str "0"]], .lst [g0, .non], .tup good]
def lists : List D := [.non, .tup [], .lst [], z1, .lst [.int 0, .int 0, .int 0], .lst [.bl true, .int 0], .lst [.str "0", .int 0], .int 3, .tup [.int 0, .int 0], .dct [] [], .lst [.non, .int 0], .lst [z1, .int 0]]
def fees : List D := [.non, .tup [], .tup [.int 0, .tup []], .lst [.int 0, .lst []], .tup [.bl true, .lst []], .tup [.int 0, .lst [.tup [.int 1, .int 0]]], .tup [.int 0, .lst [.tup [.int 2, .int 1], .tup [.int 1, .int 1]]], .tup [.int 0, .non]]
def casesB : List (List D) := lists.map fun o => [.int 0, .lst good, o, o]
def casesC : List (List D) := lists.map fun o => [.int 0, .lst good, .lst [.int 0, .int 0], o]
def casesD : List (List D) := lists.map fun o => [.int 1, .lst good, o, .int 0]
def casesE : List (List D) := fees.map fun o => [.int 2, .lst good, o, .int 0]
def casesF : List (List D) := bad.flatMap fun b => [[.int 0, b, .lst [.int 0, .int 0], .lst [.int 1, .int 1]], [.int 1, b, .lst [.int 0, .int 0], .lst [.int 1, .int 1]], [.int 2, b, .lst [.int 0, .int 0], .lst [.int 1, .int 1]]]
theorem runB : casesB.map (fun ds => sem_law_asked ds []) = List.replicate 12 (.ok (.int 1) []) := by kernel_rfl
theorem runC : casesC.map (fun ds => sem_law_asked ds []) = List.replicate 12 (.ok (.int 1) []) := by kernel_rfl
theorem runD : casesD.map (fun ds => sem_law_asked ds []) = List.replicate 12 (.ok (.int 2) []) := by kernel_rfl
theorem runE : casesE.map (fun ds => sem_law_asked ds []) = List.replicate 8 (.ok (.int 3) []) := by kernel_rfl
theorem runF : casesF.map (fun ds => sem_law_asked ds []) = List.replicate 66 (.ok (.int 0) []) := by kernel_rfl
end K56

set_option Elab.async false
set_option linter.all false
set_option maxRecDepth 100000
set_option maxHeartbeats 8000000
/-! K56G: k56 holds, by data. -/
namespace K56
open PySem L2 Ev Pg

/-- wrong streams, whatever else is handed in -/
def casesA : List (List D) := bad.flatMap fun b => lists.flatMap fun o => [[.int 0, b, o, o], [.int 1, b, o, o], [.int 2, b, o, o]]
theorem runA : casesA.map (fun ds => sem_law_asked ds []) = List.replicate 792 (.ok (.int 0) []) := by kernel_rfl
theorem bad_nr : nrDs bad = true := by kernel_rfl
theorem lists_nr : nrDs lists = true := by kernel_rfl
theorem fees_nr : nrDs fees = true := by kernel_rfl
theorem nr_mem : ∀ {xs : List D}, nrDs xs = true → ∀ e ∈ xs, nrD e = true
  | [], _, e, he => by cases he
  | x :: xs, h, e, he => by
    simp only [nrDs_cons, Bool.and_eq_true] at h
    rcases List.mem_cons.mp he with rfl | he
    · exact h.1
    · exact nr_mem h.2 e he
theorem ask {cs : List (List D)} {n : Nat} {r w x y z : D} (h : cs.map (fun ds => sem_law_asked ds []) = List.replicate n (.ok r [])) (m : [w, x, y, z] ∈ cs) (nr : nrDs [w, x, y, z] = true) (S : Store) : sem_law_asked [w, x, y, z] S = .ok r S := io_any nr (run_mem h m)
theorem pickD {xs : List D} {r : Int} (h0 : 0 ≤ r) (h1 : r < xs.length) : ∃ d, L2.atI xs r = some d ∧ d ∈ xs := by
  obtain ⟨i, rfl⟩ : ∃ i : Nat, r = (i : Int) := ⟨r.toNat, by omega⟩
  have hl : i < xs.length := by omega
  exact ⟨xs[i], by rw [atI_n, List.getElem?_eq_getElem hl], List.getElem_mem hl⟩
theorem asks (w o bb b2 f : D) (hw : w = .int 0 ∨ w = .int 1 ∨ w = .int 2) (ho : o ∈ lists) (hb : bb ∈ bad) (hb2 : b2 ∈ bad) (hf : f ∈ fees) (S : Store) :
    sem_law_asked [w, bb, o, o] S = .ok (.int 0) S ∧ sem_law_asked [.int 0, .lst good, o, o] S = .ok (.int 1) S ∧ sem_law_asked [.int 0, .lst good, .lst [.int 0, .int 0], o] S = .ok (.int 1) S ∧ sem_law_asked [.int 1, .lst good, o, .int 0] S = .ok (.int 2) S ∧
    sem_law_asked [.int 2, .lst good, f, .int 0] S = .ok (.int 3) S ∧ sem_law_asked [w, b2, .lst [.int 0, .int 0], .lst [.int 1, .int 1]] S = .ok (.int 0) S := by
  have no := nr_mem lists_nr o ho
  have nb := nr_mem bad_nr bb hb
  have nb2 := nr_mem bad_nr b2 hb2
  have nf := nr_mem fees_nr f hf
  have nw : nrD w = true := by rcases hw with rfl | rfl | rfl <;> rfl
  have ng : nrD (.lst good) = true := by decide
  refine ⟨ask runA ?_ (by simp only [nrDs_cons, nrDs_nil, nw, nb, no, Bool.and_self]) S, ask runB ?_ (by simp only [nrDs_cons, nrDs_nil, ng, no, nrD_int, Bool.and_self]) S, ask runC ?_ (by simp only [nrDs_cons, nrDs_nil, ng, no, nrD_int, nrD_lst, Bool.and_self]) S, ask runD ?_ (by simp only [nrDs_cons, nrDs_nil, ng, no, nrD_int, Bool.and_self]) S,
    ask runE ?_ (by simp only [nrDs_cons, nrDs_nil, ng, nf, nrD_int, Bool.and_self]) S, ask runF ?_ (by simp only [nrDs_cons, nrDs_nil, nw, nb2, nrD_int, nrD_lst, Bool.and_self]) S⟩
  · refine List.mem_flatMap.mpr ⟨bb, hb, List.mem_flatMap.mpr ⟨o, ho, ?_⟩⟩
    rcases hw with rfl | rfl | rfl <;> simp
  · exact List.mem_map.mpr ⟨o, ho, rfl⟩
  · exact List.mem_map.mpr ⟨o, ho, rfl⟩
  · exact List.mem_map.mpr ⟨o, ho, rfl⟩
  · exact List.mem_map.mpr ⟨f, hf, rfl⟩
  · refine List.mem_flatMap.mpr ⟨b2, hb2, ?_⟩
    rcases hw with rfl | rfl | rfl <;> simp
abbrev due1 : List D := [.int 0, .int 1, .int 1, .int 2, .int 3, .int 0]
theorem due1_ok : plD 1 (.lst due1) = true := by kernel_rfl
theorem gt {b l : Cell} {c : Store} : (b :: (c ++ [l]))[c.length + 1]? = some l := by
  rw [List.getElem?_cons_succ, List.getElem?_append_right (Nat.le_refl _), Nat.sub_self]
  rfl
theorem st {b l l' : Cell} {c : Store} : (b :: (c ++ [l])).set (c.length + 1) l' = b :: (c ++ [l']) := by
  rw [List.set_cons_succ, List.set_append_right _ _ (Nat.le_refl _), Nat.sub_self]
  rfl
theorem told_add {b : Cell} {c c1 : Store} {xs ys : List D} (h : c1 = c ++ [.lst xs]) (l : xs.length + ys.length ≤ 100) : dAdd true (.ref (c.length + 1)) (.lst ys) (b :: (c ++ [.lst xs])) = .ok (.ref (c1.length + 1)) (b :: (c1 ++ [.lst (xs ++ ys)])) := by
  show (match seqL (b :: (c ++ [.lst xs])) (.ref (c.length + 1)), seqL (b :: (c ++ [.lst xs])) (.lst ys) with
      | some us, some vs => if us.length + vs.length ≤ sizeLine then newL true (us ++ vs) (b :: (c ++ [Cell.lst xs])) else R.stuck
      | _, _ => .stuck) = _
  subst h
  simp only [seqL_ref, gt, cl_lst, seqL_lst]
  rw [if_pos (by rw [sizeLine_eq]; omega), newL_t]
  simp
theorem told_app {b : Cell} {d : D} {c : Store} {xs : List D} (l : xs.length ≤ 100) : apc (c.length + 1) d (some (.lst xs)) (b :: (c ++ [.lst xs])) = .ok .non (b :: (c ++ [.lst (xs ++ [d])])) := by
  rw [apc_ok (by rw [sizeL]; omega), st]
theorem told_alike {b : Cell} {c : Store} {xs : List D} {n : Nat} (h : plD n (.lst xs) = true) (l : n ≤ 5) (f : fewD (.lst xs) = true) (hn : nrDs xs = true) : sem_law_alike [.ref (c.length + 1), .lst xs] (b :: (c ++ [.lst xs])) = .ok (.bl true) (b :: (c ++ [.frz xs])) := by
  have h1 := io_frz (mr := false) (sem := bodyS 2 3 (b_law_alike (sem0_law_alike 5))) (ds := [.lst xs]) (S := b :: (c ++ [.lst xs])) gt hn
  rw [st] at h1
  exact h1.trans (alike_pl h l f)
/-- one turn -/
theorem turn_eq {b : Bag} {m : Int} {w0 w6 : Option D} {c : Store} (ok : b.Ok m) (hm : m + 1000 ≤ Most) :
    ∃ (b' : Bag) (c' : Store) (e : Envd), L1_law [w0, some (.ref 0), some (.lst good), some (.lst bad), some (.lst lists), some (.lst fees), w6, none, none, none] (b.cell :: c) = .nx e (b'.cell :: c') ∧ wipeD e [6, 7, 8, 9] = [w0, some (.ref 0), some (.lst good), some (.lst bad), some (.lst lists), some (.lst fees), none, none, none, none] ∧ b'.Ok (m + 1000) := by
  unfold Most at hm
  obtain ⟨c1, h1⟩ : ∃ c1, c1 = c ++ [.lst [.int 0, .int 1]] := ⟨_, rfl⟩
  obtain ⟨b1, r1, d1, o1, a1, e1⟩ := draw_eq (S := b.cell :: c) (k := 0) rfl ok (by unfold Most; omega) (w := 3) ⟨by omega, by omega⟩
  obtain ⟨b2, r2, d2, o2, a2, e2⟩ := draw_eq (S := b1.cell :: c) (k := 0) rfl o1 (by unfold Most; omega) (w := 12) ⟨by omega, by omega⟩
  obtain ⟨b3, r3, d3, o3, a3, e3⟩ := draw_eq (S := b2.cell :: c) (k := 0) rfl o2 (by unfold Most; omega) (w := 22) ⟨by omega, by omega⟩
  obtain ⟨b4, r4, d4, o4, a4, e4⟩ := draw_eq (S := b3.cell :: (c1 ++ [.lst [.int 0, .int 1, .int 1, .int 2]])) (k := 0) rfl o3 (by unfold Most; omega) (w := 8) ⟨by omega, by omega⟩
  obtain ⟨b5, r5, d5, o5, a5, e5⟩ := draw_eq (S := b4.cell :: (c1 ++ [.lst [.int 0, .int 1, .int 1, .int 2, .int 3]])) (k := 0) rfl o4 (by unfold Most; omega) (w := 22) ⟨by omega, by omega⟩
  obtain ⟨o, ho, mo⟩ := pickD (xs := lists) a2 e2
  obtain ⟨bb, hb, mb⟩ := pickD (xs := bad) a3 e3
  obtain ⟨f, hf, mf⟩ := pickD (xs := fees) a4 e4
  obtain ⟨b6, hb2, mb2⟩ := pickD (xs := bad) a5 e5
  have qs := asks (.int r1) o bb b6 f (by rcases (by omega : r1 = 0 ∨ r1 = 1 ∨ r1 = 2) with rfl | rfl | rfl <;> simp) mo mb mb2 mf
  have q1 := fun S => (qs S).1
  have q2 := fun S => (qs S).2.1
  have q3 := fun S => (qs S).2.2.1
  have q4 := fun S => (qs S).2.2.2.1
  have q5 := fun S => (qs S).2.2.2.2.1
  have q6 := fun S => (qs S).2.2.2.2.2
  have nl2 : ∀ (x y : D) (S : Store), newLs false [x, y] S = .ok (.lst [x, y]) S := fun x y S => newLs_ap (by rw [sizeL]; simp)
  have nl6 : ∀ (x y z u v w : D) (S : Store), newLs false [x, y, z, u, v, w] S = .ok (.lst [x, y, z, u, v, w]) S := fun x y z u v w S => newLs_ap (by rw [sizeL]; simp)
  have nlT : ∀ (x y : D) (b : Cell), newLs true [x, y] (b :: c) = .ok (.ref (c.length + 1)) (b :: (c ++ [.lst [x, y]])) := fun x y b => newLs_ap (by rw [sizeL]; simp)
  have ll : BK.sem false .len [.lst lists] = fun S => .ok (.int 12) S := funext fun S => rfl
  have lb : BK.sem false .len [.lst bad] = fun S => .ok (.int 22) S := funext fun S => rfl
  have lf : BK.sem false .len [.lst fees] = fun S => .ok (.int 8) S := funext fun S => rfl
  have ixl : ∀ S, dIx (.lst lists) (.int r2) S = .ok o S := fun S => by rw [dIx_lst, ho]; rfl
  have ixb : ∀ S, dIx (.lst bad) (.int r3) S = .ok bb S := fun S => by rw [dIx_lst, hb]; rfl
  have ixf : ∀ S, dIx (.lst fees) (.int r4) S = .ok f S := fun S => by rw [dIx_lst, hf]; rfl
  have ixb2 : ∀ S, dIx (.lst bad) (.int r5) S = .ok b6 S := fun S => by rw [dIx_lst, hb2]; rfl
  have ad := fun b : Cell => told_add (b := b) (ys := [.int 1, .int 2]) h1 (by simp)
  have ap1 := fun b : Cell => told_app (b := b) (d := .int 3) (c := c1) (xs := [.int 0, .int 1, .int 1, .int 2]) (by simp)
  have ap2 := fun b : Cell => told_app (b := b) (d := .int 0) (c := c1) (xs := [.int 0, .int 1, .int 1, .int 2, .int 3]) (by simp)
  have al := fun b : Cell => told_alike (b := b) (c := c1) (xs := due1) due1_ok (by omega) (by decide) (by decide)
  simp only [List.set_cons_zero] at d1 d2 d3 d4 d5
  simp only [List.cons_append, List.nil_append] at ad ap1 ap2
  have g1 : ∀ b : Cell, (b :: (c1 ++ [Cell.lst [D.int 0, D.int 1, D.int 1, D.int 2]]))[c1.length + 1]? = some (.lst [D.int 0, D.int 1, D.int 1, D.int 2]) := fun b => gt
  have g2 : ∀ b : Cell, (b :: (c1 ++ [Cell.lst [D.int 0, D.int 1, D.int 1, D.int 2, D.int 3]]))[c1.length + 1]? = some (.lst [D.int 0, D.int 1, D.int 1, D.int 2, D.int 3]) := fun b => gt
  have sl1 : ∀ b : Cell, seqL (b :: (c1 ++ [Cell.lst [D.int 0, D.int 1, D.int 1, D.int 2]])) (.ref (c1.length + 1)) = some [D.int 0, D.int 1, D.int 1, D.int 2] := fun b => by rw [seqL_ref, gt]; rfl
  have sl2 : ∀ b : Cell, seqL (b :: (c1 ++ [Cell.lst [D.int 0, D.int 1, D.int 1, D.int 2, D.int 3]])) (.ref (c1.length + 1)) = some [D.int 0, D.int 1, D.int 1, D.int 2, D.int 3] := fun b => by rw [seqL_ref, gt]; rfl
  have m1 : ∀ b : Cell, MK.sem false .append (.ref (c1.length + 1)) [.int 3] (b :: (c1 ++ [Cell.lst [D.int 0, D.int 1, D.int 1, D.int 2]])) = .ok .non (b :: (c1 ++ [Cell.lst [D.int 0, D.int 1, D.int 1, D.int 2, D.int 3]])) := fun b => by rw [mk_append, gt, ap1]
  have m2 : ∀ b : Cell, MK.sem false .append (.ref (c1.length + 1)) [.int 0] (b :: (c1 ++ [Cell.lst [D.int 0, D.int 1, D.int 1, D.int 2, D.int 3]])) = .ok .non (b :: (c1 ++ [Cell.lst due1])) := fun b => by rw [mk_append, gt, ap2]
  refine ⟨b5, c1 ++ [.frz due1], [w0, some (.ref 0), some (.lst good), some (.lst bad), some (.lst lists), some (.lst fees), w6, some (.ref (c1.length + 1)), some (.int r1), some o], ?_, rfl, o5.mono (by omega)⟩
  simp only [L1_law, sSeq_ap, sTup_ap, sAsg_nm, sExpr_ap, sIfS_ap, sNot_ap, sTest_ap, sPass_ap, sBM_ap, sCons_ap, sNil_ap, sVar_ap, sC_ap, s1_ap, s2_ap, List.getElem?_cons_succ, List.getElem?_cons_zero, List.set_cons_succ, List.set_cons_zero, vr_some, rb_ok, eB_ok, rs_nx, asB_ap, Bool.not_true, Bool.false_eq_true, if_false, List.length_cons, List.length_nil, if_true, setAll_cons, setAll_nil, ll, lb, lf, d1, d2, d3, d4, d5, ixl, ixb, ixf, ixb2, q1, q2, q3, q4, q5, q6, nlT, nl2, nl6, ad, mkchk_append, chkL_ap, sl1, sl2, cko_some, m1, m2, al]
theorem seq_nx {m r : MS} {env e : Envd} {S S' : Store} (h : m env S = .nx e S') : sSeq m r env S = r e S' := by rw [sSeq_ap, h, rs_nx]
abbrev due : List D := [.int 1, .non, .non, .int 2, .non, .int 2, .int 2, .non, .non]
theorem due_ok : plD 1 (.lst due) = true := by kernel_rfl
def casesZ : List (List D) := [[.int 0, .lst good, .lst [.int 0, .int 2], .lst [.int 0, .int 1]]]
def casesY : List (List D) := [[.int 0, .lst good, .lst [.int (-9), .int 0], .lst [.int 9, .int 0]], [.int 1, .lst good, .lst [.int (-1), .int 6], .int 0], [.int 1, .lst good, .lst [.int 3, .int 2], .int 0], [.int 2, .lst (List.replicate 10 good).flatten, .tup [.int 0, .lst []], .int 0], [.int 1, .lst [.tup [.lst (List.replicate 200 (.int 0)), .lst (List.replicate 200 (.int 0))]], .lst (List.replicate 200 (.int 0)), .int 0]]
def casesX : List (List D) := [[.int 1, .lst good, .lst [.int (-2), .int 7], .int 0], [.int 1, .lst good, .lst [.int 4, .int 1], .int 0], [.int 1, .lst good, .lst [.int 0, .int 4], .int 0]]
theorem runZ : casesZ.map (fun ds => sem_law_asked ds []) = List.replicate 1 (.ok (.int 1) []) := by kernel_rfl
theorem runY : casesY.map (fun ds => sem_law_asked ds []) = List.replicate 5 (.ok .non []) := by kernel_rfl
theorem runX : casesX.map (fun ds => sem_law_asked ds []) = List.replicate 3 (.ok (.int 2) []) := by kernel_rfl
theorem law_holds (ns : List Int) (hl : ns.length ≤ 63) : ∃ S, sem_law [.scr ns] [] = .ok (.bl true) S := by
  obtain ⟨b, hb, ok⟩ := bag_eq ns [] hl
  have loop : ∃ (b' : Bag) (c : Store), forL (.nm 6) [6, 7, 8, 9] L1_law (rangeD 0 6) [some (.scr ns), some (.ref 0), some (.lst good), some (.lst bad), some (.lst lists), some (.lst fees), none, none, none, none] [b.cell] = .nx [some (.scr ns), some (.ref 0), some (.lst good), some (.lst bad), some (.lst lists), some (.lst fees), none, none, none, none] (b'.cell :: c) := by
    refine forL_gen (fun R => ∃ (b' : Bag) (c : Store), R = .nx [some (.scr ns), some (.ref 0), some (.lst good), some (.lst bad), some (.lst lists), some (.lst fees), none, none, none, none] (b'.cell :: c))
      (fun i e S => e = [some (.scr ns), some (.ref 0), some (.lst good), some (.lst bad), some (.lst lists), some (.lst fees), none, none, none, none] ∧ ∃ (b' : Bag) (c : Store), S = b'.cell :: c ∧ b'.Ok (10000000 * (i : Int))) ⟨rfl, b, [], rfl, ok.mono (by simp)⟩ (fun i d e S hi ⟨he, b1, c, hS, o1⟩ => ?_) fun e S ⟨he, b1, c, hS, o1⟩ => ⟨b1, c, by rw [he, hS]⟩
    obtain ⟨rfl, hlt⟩ := rangeD_get hi
    subst he; subst hS
    obtain ⟨b2, c2, env', t1, w, o2⟩ := turn_eq (w0 := some (.scr ns)) (w6 := some (.int (0 + (i : Int)))) (c := c) o1 (by unfold Most; omega)
    refine ⟨_, rfl, ?_⟩
    simp only [List.set_cons_succ, List.set_cons_zero]
    rw [t1]
    exact ⟨w, b2, c2, rfl, o2.mono (by omega)⟩
  obtain ⟨b1, c, lp⟩ := loop
  obtain ⟨c1, h1⟩ : ∃ c1, c1 = c ++ [.lst [.int 1, .non, .non]] := ⟨_, rfl⟩
  obtain ⟨c2, h2⟩ : ∃ c2, c2 = c1 ++ [.lst [.int 1, .non, .non, .int 2, .non, .int 2]] := ⟨_, rfl⟩
  refine ⟨[], io_pure (d := .bl true) (S' := b1.cell :: (c2 ++ [.frz due])) (S'' := b1.cell :: (c2 ++ [.frz due])) rfl rfl ?_ (fz_nr rfl)⟩
  show b_law [some (.scr ns), none, none, none, none, none, none, none, none, none] [] = _
  refine (seq_nx (e := [some (.scr ns), some (.ref 0), none, none, none, none, none, none, none, none]) (S' := [b.cell]) ?_).trans ?_
  · simp only [sSeq_ap, sPass_ap, sBreak_ap, sCont_ap, sExpr_ap, sRet_ap, sRetN_ap, sRaise_ap, sRaiseF_ap, sIfS_ap, sAsg_nm, sAsg_tp, sTup_ap, sSet_ap, sFor_ap, sC_ap, s1_ap, s2_ap, sVar_ap, vr_some, sNil_ap, sCons_ap, sTest_ap, asB_ap, sAnd_ap, sOr_ap, sNot_ap, vAnd_ap, vOr_ap, vNot_ap, sIf_ap, sChain_ap, sPart_none, sPart_some, asI_int, sSl_ap, sBM_ap, iSeq_ap, wk_tup, wk_lst, wk_str, wk_ref, wkc_lst, wkc_frz, seqL_ref, seqL_lst, cl_lst, cl_frz, ato_some, ixo_some, dIx_tup, dIx_lst, dIx_ref, cko_some, chkL_ap, chkS_str, mkchk_append, mkchk_extend, mkchk_insert, mkchk_popAt, mkchk_index, mkchk_split, mkchk_join, mkchk_starts, mk_append, dSet_ref, bk_len, bk_abs, bk_int, bk_str, bk_list, bk_tuple, bk_sum, bk_all, bk_any, bk_max, bk_min, bk_sorted, lno_some, dLen_ref, dLen_lst, dLen_tup, dAdd_int, dSub_int, dNeg_int, dLt_int, dLe_int, dGt_int, dGe_int, dIsN_non, dIsN_int, dIsN_lst, dIsN_tup, dEq_int, dEq_bl, dInt_int, dAbs_int, dMax_two, dMin_two, dSum_ints, rb_ok, rb_exc, rb_stuck, eB_ok, eB_exc, eB_stuck, rs_nx, rs_rt, rs_bk, rs_ct, rs_exc, rs_stuck, bind_nm, bind_tp2, bind_tp3, bind_tp4, setAll_nil, setAll_cons, wipeD_nil, wipeD_cons, List.getElem?_cons_succ, List.getElem?_cons_zero, List.set_cons_succ, List.set_cons_zero, List.length_cons, List.length_nil, List.nil_append, List.cons_append, if_true, newL_f, newL_t, dFld_obj, dPrp_obj, nxr_ok, isI_obj, sMth_ap, dList_tup, dList_lst, dTuple_lst, dTuple_tup, dSl_lst, dSl_tup, slo_some, dSl_ref, dRev_lst, sTryM_ap, tryr_nx, tryr_rt, noX_nx, noX_rt, sPut_ap, dPut_ref, Bool.not_true, Bool.not_false, Bool.false_eq_true, if_false, decide_true, decide_false, bnd_ap, ret_ap, Nat.zero_add, hb]
  refine (seq_nx (e := [some (.scr ns), some (.ref 0), some (.lst good), none, none, none, none, none, none, none]) (S' := [b.cell]) ?_).trans ?_
  · kernel_rfl
  refine (seq_nx (e := [some (.scr ns), some (.ref 0), some (.lst good), some (.lst (bad.take 11)), none, none, none, none, none, none]) (S' := [b.cell]) ?_).trans ?_
  · kernel_rfl
  refine (seq_nx (e := [some (.scr ns), some (.ref 0), some (.lst good), some (.lst (bad.take 17)), none, none, none, none, none, none]) (S' := [b.cell]) ?_).trans ?_
  · kernel_rfl
  refine (seq_nx (e := [some (.scr ns), some (.ref 0), some (.lst good), some (.lst bad), none, none, none, none, none, none]) (S' := [b.cell]) ?_).trans ?_
  · kernel_rfl
  refine (seq_nx (e := [some (.scr ns), some (.ref 0), some (.lst good), some (.lst bad), some (.lst lists), none, none, none, none, none]) (S' := [b.cell]) ?_).trans ?_
  · kernel_rfl
  refine (seq_nx (e := [some (.scr ns), some (.ref 0), some (.lst good), some (.lst bad), some (.lst lists), some (.lst fees), none, none, none, none]) (S' := [b.cell]) ?_).trans ?_
  · kernel_rfl
  have rg : ∀ S : Store, dRange1 [.int 6] S = .ok (rangeD 0 6) S := fun S => rfl
  refine (seq_nx (e := [some (.scr ns), some (.ref 0), some (.lst good), some (.lst bad), some (.lst lists), some (.lst fees), none, none, none, none]) (S' := b1.cell :: c) ?_).trans ?_
  · simp only [sSeq_ap, sPass_ap, sBreak_ap, sCont_ap, sExpr_ap, sRet_ap, sRetN_ap, sRaise_ap, sRaiseF_ap, sIfS_ap, sAsg_nm, sAsg_tp, sTup_ap, sSet_ap, sFor_ap, sC_ap, s1_ap, s2_ap, sVar_ap, vr_some, sNil_ap, sCons_ap, sTest_ap, asB_ap, sAnd_ap, sOr_ap, sNot_ap, vAnd_ap, vOr_ap, vNot_ap, sIf_ap, sChain_ap, sPart_none, sPart_some, asI_int, sSl_ap, sBM_ap, iSeq_ap, wk_tup, wk_lst, wk_str, wk_ref, wkc_lst, wkc_frz, seqL_ref, seqL_lst, cl_lst, cl_frz, ato_some, ixo_some, dIx_tup, dIx_lst, dIx_ref, cko_some, chkL_ap, chkS_str, mkchk_append, mkchk_extend, mkchk_insert, mkchk_popAt, mkchk_index, mkchk_split, mkchk_join, mkchk_starts, mk_append, dSet_ref, bk_len, bk_abs, bk_int, bk_str, bk_list, bk_tuple, bk_sum, bk_all, bk_any, bk_max, bk_min, bk_sorted, lno_some, dLen_ref, dLen_lst, dLen_tup, dAdd_int, dSub_int, dNeg_int, dLt_int, dLe_int, dGt_int, dGe_int, dIsN_non, dIsN_int, dIsN_lst, dIsN_tup, dEq_int, dEq_bl, dInt_int, dAbs_int, dMax_two, dMin_two, dSum_ints, rb_ok, rb_exc, rb_stuck, eB_ok, eB_exc, eB_stuck, rs_nx, rs_rt, rs_bk, rs_ct, rs_exc, rs_stuck, bind_nm, bind_tp2, bind_tp3, bind_tp4, setAll_nil, setAll_cons, wipeD_nil, wipeD_cons, List.getElem?_cons_succ, List.getElem?_cons_zero, List.set_cons_succ, List.set_cons_zero, List.length_cons, List.length_nil, List.nil_append, List.cons_append, if_true, newL_f, newL_t, dFld_obj, dPrp_obj, nxr_ok, isI_obj, sMth_ap, dList_tup, dList_lst, dTuple_lst, dTuple_tup, dSl_lst, dSl_tup, slo_some, dSl_ref, dRev_lst, sTryM_ap, tryr_nx, tryr_rt, noX_nx, noX_rt, sPut_ap, dPut_ref, Bool.not_true, Bool.not_false, Bool.false_eq_true, if_false, decide_true, decide_false, bnd_ap, ret_ap, Nat.zero_add, rg]
    exact lp
  have nl2 : ∀ (x y : D) (S : Store), newLs false [x, y] S = .ok (.lst [x, y]) S := fun x y S => newLs_ap (by rw [sizeL]; simp)
  have nt2 : ∀ (x y : D) (S : Store), newTs [x, y] S = .ok (.tup [x, y]) S := fun x y S => newTs_ap (by rw [sizeL]; simp)
  have nl0 : ∀ (S : Store), newLs false [] S = .ok (.lst []) S := fun S => newLs_ap (by rw [sizeL]; simp)
  have nl1 : ∀ (x : D) (S : Store), newLs false [x] S = .ok (.lst [x]) S := fun x S => newLs_ap (by rw [sizeL]; simp)
  have nl3 : ∀ (x y z : D) (S : Store), newLs false [x, y, z] S = .ok (.lst [x, y, z]) S := fun x y z S => newLs_ap (by rw [sizeL]; simp)
  have nl9 : ∀ (S : Store), newLs false due S = .ok (.lst due) S := fun S => newLs_ap (by rw [sizeL]; simp)
  have nlT : ∀ (x y z : D) (b : Cell), newLs true [x, y, z] (b :: c) = .ok (.ref (c.length + 1)) (b :: (c ++ [.lst [x, y, z]])) := fun x y z b => newLs_ap (by rw [sizeL]; simp)
  have mu1 : ∀ S, dMul false (.lst good) (.int 10) S = .ok (.lst (List.replicate 10 good).flatten) S := fun S => by kernel_rfl
  have mu2 : ∀ S, dMul false (.lst [.int 0]) (.int 200) S = .ok (.lst (List.replicate 200 (.int 0))) S := fun S => by kernel_rfl
  have nr200 : nrDs (List.replicate 200 (D.int 0)) = true := by kernel_rfl
  have q1 := fun S => ask runZ (S := S) (w := .int 0) (x := .lst good) (y := .lst [.int 0, .int 2]) (z := .lst [.int 0, .int 1]) (List.mem_cons_self ..) (by decide)
  have q2 := fun S => ask runY (S := S) (w := .int 0) (x := .lst good) (y := .lst [.int (-9), .int 0]) (z := .lst [.int 9, .int 0]) (by simp [casesY]) (by decide)
  have q3 := fun S => ask runY (S := S) (w := .int 1) (x := .lst good) (y := .lst [.int (-1), .int 6]) (z := .int 0) (by simp [casesY]) (by decide)
  have q4 := fun S => ask runX (S := S) (w := .int 1) (x := .lst good) (y := .lst [.int (-2), .int 7]) (z := .int 0) (by simp [casesX]) (by decide)
  have q5 := fun S => ask runY (S := S) (w := .int 1) (x := .lst good) (y := .lst [.int 3, .int 2]) (z := .int 0) (by simp [casesY]) (by decide)
  have q6 := fun S => ask runX (S := S) (w := .int 1) (x := .lst good) (y := .lst [.int 4, .int 1]) (z := .int 0) (by simp [casesX]) (by decide)
  have q7 := fun S => ask runX (S := S) (w := .int 1) (x := .lst good) (y := .lst [.int 0, .int 4]) (z := .int 0) (by simp [casesX]) (by decide)
  have q8 := fun S => ask runY (S := S) (w := .int 2) (x := .lst (List.replicate 10 good).flatten) (y := .tup [.int 0, .lst []]) (z := .int 0) (by simp only [casesY, List.mem_cons, true_or, or_true]) (by kernel_rfl)
  have q9 := fun S => ask runY (S := S) (w := .int 1) (x := .lst [.tup [.lst (List.replicate 200 (.int 0)), .lst (List.replicate 200 (.int 0))]]) (y := .lst (List.replicate 200 (.int 0))) (z := .int 0) (by simp only [casesY, List.mem_cons, true_or, or_true]) (by kernel_rfl)
  have ad1 := fun b : Cell => told_add (b := b) (ys := [.int 2, .non, .int 2]) h1 (by simp)
  have ad2 := fun b : Cell => told_add (b := b) (ys := [.int 2, .non]) h2 (by simp)
  simp only [List.cons_append, List.nil_append] at ad1 ad2
  have sl1 : ∀ b : Cell, seqL (b :: (c2 ++ [Cell.lst [.int 1, .non, .non, .int 2, .non, .int 2, .int 2, .non]])) (.ref (c2.length + 1)) = some [.int 1, .non, .non, .int 2, .non, .int 2, .int 2, .non] := fun b => by rw [seqL_ref, gt]; rfl
  have m1 : ∀ b : Cell, MK.sem false .append (.ref (c2.length + 1)) [.non] (b :: (c2 ++ [Cell.lst [.int 1, .non, .non, .int 2, .non, .int 2, .int 2, .non]])) = .ok .non (b :: (c2 ++ [Cell.lst due])) := fun b => by rw [mk_append, gt, told_app (by simp)]; rfl
  have al := fun b : Cell => told_alike (b := b) (c := c2) (xs := due) due_ok (by omega) (by decide) (by decide)
  have ng : ∀ (i : Int) (S : Store), dNeg (.int i) S = .ok (.int (-i)) S := fun i S => rfl
  simp only [sSeq_ap, sTup_ap, sAsg_nm, sExpr_ap, sIfS_ap, sNot_ap, sTest_ap, sPass_ap, sBM_ap, sCons_ap, sNil_ap, sVar_ap, sC_ap, s1_ap, s2_ap, List.getElem?_cons_succ, List.getElem?_cons_zero, List.set_cons_succ, List.set_cons_zero, vr_some, rb_ok, eB_ok, rs_nx, asB_ap, sRet_ap, q1, q2, q3, q4, q5, q6, q7, q8, q9, nlT, nl2, nl1, nl0, nl3, nl9, nt2, mu1, mu2, ng, ad1, ad2, mkchk_append, chkL_ap, sl1, cko_some, m1, al]
end K56

set_option Elab.async false
set_option linter.all false
set_option maxRecDepth 100000
set_option maxHeartbeats 4000000
namespace K56
open PySem PySem.Spec PyProof.Rows L2 Ev
def top (i : Nat) : Stmt := PySem.Challenge.pw_evenbits_k56_errors_of_streams.main.body.getD i (.Pass ⟨0, 0, 0, 0⟩)
def cm (i j : Nat) : Stmt := (clsBody (top i)).getD j (.Pass ⟨0, 0, 0, 0⟩)
/-! _law_bag -/
def N_law_bag : List Str := ["script", "stir", "cell"]
def P_law_bag : List Str := ["script"]
theorem sc_law_bag : FnScope N_law_bag P_law_bag (defScope (top 53)) := C8.fnScope_by (by decide +kernel)
def cc_law_bag : CC := { N := N_law_bag, sc := defScope (top 53), cellOk := fun _ => true, fns := [], fnsM := [], kfns := [], cons := [], excs := [], mus := [(305, 11, 87)], kills := [(303, [2])], fuel := Pg.fuel }
theorem is_law_bag : compSs (cc_law_bag) 40 40 (defBody (top 53)) = some (Pg.b_law_bag) := by kernel_rfl
/-! _law_alike -/
def N_law_alike : List Str := ["found", "due", "k"]
def P_law_alike : List Str := ["found", "due"]
theorem sc_law_alike : FnScope N_law_alike P_law_alike (defScope (top 56)) := C8.fnScope_by (by decide +kernel)
def cc_law_alike (self : List D → M D) : CC := { N := N_law_alike, sc := defScope (top 56), cellOk := fun _ => true, fns := [("_law_alike", self)], fnsM := [], kfns := [], cons := [], excs := [], mus := [], kills := [], fuel := Pg.fuel }
theorem is_law_alike (self : List D → M D) : compSs (cc_law_alike self) 40 40 (defBody (top 56)) = some (Pg.b_law_alike self) := by kernel_rfl
/-! is_integer -/
def N_is_integer : List Str := ["thing"]
def P_is_integer : List Str := ["thing"]
theorem sc_is_integer : FnScope N_is_integer P_is_integer (defScope (top 12)) := C8.fnScope_by (by decide +kernel)
def cc_is_integer : CC := { N := N_is_integer, sc := defScope (top 12), cellOk := fun _ => true, fns := [], fnsM := [], kfns := [], cons := [], excs := [], mus := [], kills := [], fuel := Pg.fuel }
theorem is_is_integer : compSs (cc_is_integer) 40 40 (defBody (top 12)) = some (Pg.b_is_integer) := by kernel_rfl
/-! are_integers -/
def N_are_integers : List Str := ["thing", "number"]
def P_are_integers : List Str := ["thing"]
theorem sc_are_integers : FnScope N_are_integers P_are_integers (defScope (top 13)) := C8.fnScope_by (by decide +kernel)
def cc_are_integers : CC := { N := N_are_integers, sc := defScope (top 13), cellOk := fun _ => true, fns := [("is_integer", Pg.sem_is_integer)], fnsM := [], kfns := [], cons := [], excs := [], mus := [], kills := [], fuel := Pg.fuel }
theorem is_are_integers : compSs (cc_are_integers) 40 40 (defBody (top 13)) = some (Pg.b_are_integers) := by kernel_rfl
/-! is_stream -/
def N_is_stream : List Str := ["thing", "low", "high", "one", "other"]
def P_is_stream : List Str := ["thing"]
theorem sc_is_stream : FnScope N_is_stream P_is_stream (defScope (top 45)) := C8.fnScope_by (by decide +kernel)
def cc_is_stream : CC := { N := N_is_stream, sc := defScope (top 45), cellOk := fun _ => true, fns := [("are_integers", Pg.sem_are_integers)], fnsM := [], kfns := [], cons := [("MOST_TIMES", (.int 200))], excs := [], mus := [], kills := [], fuel := Pg.fuel }
theorem is_is_stream : compSs (cc_is_stream) 40 40 (defBody (top 45)) = some (Pg.b_is_stream) := by kernel_rfl
/-! need_streams -/
def N_need_streams : List Str := ["thing", "one"]
def P_need_streams : List Str := ["thing"]
theorem sc_need_streams : FnScope N_need_streams P_need_streams (defScope (top 46)) := C8.fnScope_by (by decide +kernel)
def cc_need_streams : CC := { N := N_need_streams, sc := defScope (top 46), cellOk := fun _ => true, fns := [("is_stream", Pg.sem_is_stream)], fnsM := [], kfns := [], cons := [("MOST_STREAMS", (.int 20))], excs := [("InvalidStreams", 8)], mus := [], kills := [], fuel := Pg.fuel }
theorem is_need_streams : compSs (cc_need_streams) 40 40 (defBody (top 46)) = some (Pg.b_need_streams) := by kernel_rfl
/-! need_bounds -/
def N_need_bounds : List Str := ["low", "high", "least", "most", "bounds", "one", "other"]
def P_need_bounds : List Str := ["low", "high", "least", "most"]
theorem sc_need_bounds : FnScope N_need_bounds P_need_bounds (defScope (top 14)) := C8.fnScope_by (by decide +kernel)
def cc_need_bounds : CC := { N := N_need_bounds, sc := defScope (top 14), cellOk := fun _ => true, fns := [("are_integers", Pg.sem_are_integers)], fnsM := [], kfns := [], cons := [("MOST_TIMES", (.int 200))], excs := [("InvalidPlan", 1)], mus := [], kills := [(32, [4])], fuel := Pg.fuel }
theorem is_need_bounds : compSs (cc_need_bounds) 40 40 (defBody (top 14)) = some (Pg.b_need_bounds) := by kernel_rfl
/-! Plan.__init__ -/
def N_Plan_init : List Str := ["self", "low", "high", "least", "most"]
def P_Plan_init : List Str := ["self", "low", "high", "least", "most"]
theorem sc_Plan_init : FnScope N_Plan_init P_Plan_init (defScope (cm 18 0)) := C8.fnScope_by (by decide +kernel)
def cc_Plan_init : CC := { N := N_Plan_init, sc := defScope (cm 18 0), cellOk := fun _ => true, fns := [("need_bounds", Pg.sem_need_bounds)], fnsM := [], kfns := [], cons := [], excs := [], mus := [], kills := [], fuel := Pg.fuel, flds := [("kept_low", (13, 0)), ("kept_high", (13, 1)), ("kept_least", (13, 2)), ("kept_most", (13, 3))] }
theorem is_Plan_init : compSs (cc_Plan_init) 40 40 (defBody (cm 18 0)) = some (Pg.b_Plan_init) := by kernel_rfl
/-! added -/
def N_added : List Str := ["lists", "numbers"]
def P_added : List Str := ["lists"]
theorem sc_added : FnScope N_added P_added (defScope (top 47)) := C8.fnScope_by (by decide +kernel)
def cc_added : CC := { N := N_added, sc := defScope (top 47), cellOk := fun _ => true, fns := [], fnsM := [], kfns := [], cons := [], excs := [], mus := [], kills := [], fuel := Pg.fuel }
theorem is_added : compSs (cc_added) 40 40 (defBody (top 47)) = some (Pg.b_added) := by kernel_rfl
/-! joint -/
def N_joint : List Str := ["streams", "least", "most", "times", "one", "other", "low", "high"]
def P_joint : List Str := ["streams", "least", "most"]
theorem sc_joint : FnScope N_joint P_joint (defScope (top 48)) := C8.fnScope_by (by decide +kernel)
def cc_joint : CC := { N := N_joint, sc := defScope (top 48), cellOk := fun _ => true, fns := [("need_streams", Pg.sem_need_streams), ("are_integers", Pg.sem_are_integers), ("Plan", Pg.mk_Plan_init), ("added", Pg.sem_added)], fnsM := [], kfns := [], cons := [], excs := [("InvalidNumber", 5)], mus := [], kills := [], fuel := Pg.fuel }
theorem is_joint : compSs (cc_joint) 40 40 (defBody (top 48)) = some (Pg.b_joint) := by kernel_rfl
/-! add_all -/
def N_add_all : List Str := ["numbers", "found", "number"]
def P_add_all : List Str := ["numbers"]
theorem sc_add_all : FnScope N_add_all P_add_all (defScope (top 17)) := C8.fnScope_by (by decide +kernel)
def cc_add_all : CC := { N := N_add_all, sc := defScope (top 17), cellOk := fun _ => true, fns := [], fnsM := [], kfns := [], cons := [], excs := [], mus := [(46, 12, 15)], kills := [(47, [2])], fuel := Pg.fuel }
theorem is_add_all : compSs (cc_add_all) 40 40 (defBody (top 17)) = some (Pg.b_add_all) := by kernel_rfl
/-! entries_from -/
def N_entries_from : List Str := ["sums", "one", "other"]
def P_entries_from : List Str := ["sums"]
theorem sc_entries_from : FnScope N_entries_from P_entries_from (defScope (top 24)) := C8.fnScope_by (by decide +kernel)
def cc_entries_from : CC := { N := N_entries_from, sc := defScope (top 24), cellOk := fun _ => true, fns := [], fnsM := [], kfns := [], cons := [], excs := [], mus := [(146, 11, 62)], kills := [], fuel := Pg.fuel }
theorem is_entries_from : compSs (cc_entries_from) 40 40 (defBody (top 24)) = some (Pg.b_entries_from) := by kernel_rfl
/-! shares -/
def N_shares : List Str := ["streams", "row", "lows", "highs", "rest", "found", "low", "high", "sums", "amount", "one", "other", "bound", "need"]
def P_shares : List Str := ["streams", "row"]
theorem sc_shares : FnScope N_shares P_shares (defScope (top 49)) := C8.fnScope_by (by decide +kernel)
def cc_shares : CC := { N := N_shares, sc := defScope (top 49), cellOk := fun _ => true, fns := [("need_streams", Pg.sem_need_streams), ("added", Pg.sem_added), ("are_integers", Pg.sem_are_integers), ("add_all", Pg.sem_add_all), ("entries_from", Pg.sem_entries_from)], fnsM := [], kfns := [], cons := [], excs := [("InvalidRow", 2)], mus := [(282, 12, 14)], kills := [(283, [6, 7, 8])], fuel := Pg.fuel }
theorem is_shares : compSs (cc_shares) 40 40 (defBody (top 49)) = some (Pg.b_shares) := by kernel_rfl
/-! is_corner -/
def N_is_corner : List Str := ["thing"]
def P_is_corner : List Str := ["thing"]
theorem sc_is_corner : FnScope N_is_corner P_is_corner (defScope (top 39)) := C8.fnScope_by (by decide +kernel)
def cc_is_corner : CC := { N := N_is_corner, sc := defScope (top 39), cellOk := fun _ => true, fns := [("is_integer", Pg.sem_is_integer)], fnsM := [], kfns := [], cons := [], excs := [], mus := [], kills := [], fuel := Pg.fuel }
theorem is_is_corner : compSs (cc_is_corner) 40 40 (defBody (top 39)) = some (Pg.b_is_corner) := by kernel_rfl
/-! is_price -/
def N_is_price : List Str := ["thing", "corners", "corner", "one", "other"]
def P_is_price : List Str := ["thing"]
theorem sc_is_price : FnScope N_is_price P_is_price (defScope (top 40)) := C8.fnScope_by (by decide +kernel)
def cc_is_price : CC := { N := N_is_price, sc := defScope (top 40), cellOk := fun _ => true, fns := [("is_integer", Pg.sem_is_integer), ("is_corner", Pg.sem_is_corner)], fnsM := [], kfns := [], cons := [("MOST_CORNERS", (.int 12))], excs := [], mus := [], kills := [], fuel := Pg.fuel }
theorem is_is_price : compSs (cc_is_price) 40 40 (defBody (top 40)) = some (Pg.b_is_price) := by kernel_rfl
/-! need_price -/
def N_need_price : List Str := ["price"]
def P_need_price : List Str := ["price"]
theorem sc_need_price : FnScope N_need_price P_need_price (defScope (top 41)) := C8.fnScope_by (by decide +kernel)
def cc_need_price : CC := { N := N_need_price, sc := defScope (top 41), cellOk := fun _ => true, fns := [("is_price", Pg.sem_is_price)], fnsM := [], kfns := [], cons := [], excs := [("InvalidPrice", 6)], mus := [], kills := [], fuel := Pg.fuel }
theorem is_need_price : compSs (cc_need_price) 40 40 (defBody (top 41)) = some (Pg.b_need_price) := by kernel_rfl
/-! Plan.least -/
def N_Plan_least : List Str := ["self"]
def P_Plan_least : List Str := ["self"]
theorem sc_Plan_least : FnScope N_Plan_least P_Plan_least (defScope (cm 18 4)) := C8.fnScope_by (by decide +kernel)
def cc_Plan_least : CC := { N := N_Plan_least, sc := defScope (cm 18 4), cellOk := fun _ => true, fns := [], fnsM := [], kfns := [], cons := [], excs := [], mus := [], kills := [], fuel := Pg.fuel, flds := [("kept_least", (13, 2))] }
theorem is_Plan_least : compSs (cc_Plan_least) 40 40 (defBody (cm 18 4)) = some (Pg.b_Plan_least) := by kernel_rfl
/-! Plan.most -/
def N_Plan_most : List Str := ["self"]
def P_Plan_most : List Str := ["self"]
theorem sc_Plan_most : FnScope N_Plan_most P_Plan_most (defScope (cm 18 5)) := C8.fnScope_by (by decide +kernel)
def cc_Plan_most : CC := { N := N_Plan_most, sc := defScope (cm 18 5), cellOk := fun _ => true, fns := [], fnsM := [], kfns := [], cons := [], excs := [], mus := [], kills := [], fuel := Pg.fuel, flds := [("kept_most", (13, 3))] }
theorem is_Plan_most : compSs (cc_Plan_most) 40 40 (defBody (cm 18 5)) = some (Pg.b_Plan_most) := by kernel_rfl
/-! Plan.times -/
def N_Plan_times : List Str := ["self"]
def P_Plan_times : List Str := ["self"]
theorem sc_Plan_times : FnScope N_Plan_times P_Plan_times (defScope (cm 18 1)) := C8.fnScope_by (by decide +kernel)
def cc_Plan_times : CC := { N := N_Plan_times, sc := defScope (cm 18 1), cellOk := fun _ => true, fns := [], fnsM := [], kfns := [], cons := [], excs := [], mus := [], kills := [], fuel := Pg.fuel, flds := [("kept_low", (13, 0))] }
theorem is_Plan_times : compSs (cc_Plan_times) 40 40 (defBody (cm 18 1)) = some (Pg.b_Plan_times) := by kernel_rfl
/-! Plan.low -/
def N_Plan_low : List Str := ["self"]
def P_Plan_low : List Str := ["self"]
theorem sc_Plan_low : FnScope N_Plan_low P_Plan_low (defScope (cm 18 2)) := C8.fnScope_by (by decide +kernel)
def cc_Plan_low : CC := { N := N_Plan_low, sc := defScope (cm 18 2), cellOk := fun _ => true, fns := [], fnsM := [], kfns := [], cons := [], excs := [], mus := [(65, 15, 34)], kills := [], fuel := Pg.fuel, flds := [("kept_low", (13, 0))] }
theorem is_Plan_low : compSs (cc_Plan_low) 40 40 (defBody (cm 18 2)) = some (Pg.b_Plan_low) := by kernel_rfl
/-! Plan.high -/
def N_Plan_high : List Str := ["self"]
def P_Plan_high : List Str := ["self"]
theorem sc_Plan_high : FnScope N_Plan_high P_Plan_high (defScope (cm 18 3)) := C8.fnScope_by (by decide +kernel)
def cc_Plan_high : CC := { N := N_Plan_high, sc := defScope (cm 18 3), cellOk := fun _ => true, fns := [], fnsM := [], kfns := [], cons := [], excs := [], mus := [(69, 15, 35)], kills := [], fuel := Pg.fuel, flds := [("kept_high", (13, 1))] }
theorem is_Plan_high : compSs (cc_Plan_high) 40 40 (defBody (cm 18 3)) = some (Pg.b_Plan_high) := by kernel_rfl
/-! sum_limits -/
def N_sum_limits : List Str := ["plan", "time", "low", "high", "least", "most", "times"]
def P_sum_limits : List Str := ["plan"]
theorem sc_sum_limits : FnScope N_sum_limits P_sum_limits (defScope (top 20)) := C8.fnScope_by (by decide +kernel)
def cc_sum_limits : CC := { N := N_sum_limits, sc := defScope (top 20), cellOk := fun _ => true, fns := [], fnsM := [], kfns := [], cons := [], excs := [], mus := [(119, 17, 31), (119, 33, 48)], kills := [(121, [1]), (124, [1])], fuel := Pg.fuel, prps := [("high", (13, Pg.sem_Plan_high)), ("low", (13, Pg.sem_Plan_low)), ("times", (13, Pg.sem_Plan_times)), ("most", (13, Pg.sem_Plan_most)), ("least", (13, Pg.sem_Plan_least))] }
theorem is_sum_limits : compSs (cc_sum_limits) 40 40 (defBody (top 20)) = some (Pg.b_sum_limits) := by kernel_rfl
/-! has_row -/
def N_has_row : List Str := ["plan", "low", "high", "one", "other"]
def P_has_row : List Str := ["plan"]
theorem sc_has_row : FnScope N_has_row P_has_row (defScope (top 21)) := C8.fnScope_by (by decide +kernel)
def cc_has_row : CC := { N := N_has_row, sc := defScope (top 21), cellOk := fun _ => true, fns := [("sum_limits", Pg.sem_sum_limits)], fnsM := [], kfns := [], cons := [], excs := [], mus := [], kills := [], fuel := Pg.fuel }
theorem is_has_row : compSs (cc_has_row) 40 40 (defBody (top 21)) = some (Pg.b_has_row) := by kernel_rfl
/-! conflict -/
def N_conflict : List Str := ["plan", "first", "low", "high", "least", "most", "last"]
def P_conflict : List Str := ["plan"]
theorem sc_conflict : FnScope N_conflict P_conflict (defScope (top 22)) := C8.fnScope_by (by decide +kernel)
def cc_conflict : CC := { N := N_conflict, sc := defScope (top 22), cellOk := fun _ => true, fns := [("add_all", Pg.sem_add_all)], fnsM := [], kfns := [], cons := [], excs := [], mus := [], kills := [(134, [1, 6]), (135, [6])], fuel := Pg.fuel, prps := [("high", (13, Pg.sem_Plan_high)), ("low", (13, Pg.sem_Plan_low)), ("most", (13, Pg.sem_Plan_most)), ("least", (13, Pg.sem_Plan_least)), ("times", (13, Pg.sem_Plan_times))] }
theorem is_conflict : compSs (cc_conflict) 40 40 (defBody (top 22)) = some (Pg.b_conflict) := by kernel_rfl
/-! need_rows -/
def N_need_rows : List Str := ["plan", "first", "last"]
def P_need_rows : List Str := ["plan"]
theorem sc_need_rows : FnScope N_need_rows P_need_rows (defScope (top 23)) := C8.fnScope_by (by decide +kernel)
def cc_need_rows : CC := { N := N_need_rows, sc := defScope (top 23), cellOk := fun _ => true, fns := [("has_row", Pg.sem_has_row), ("conflict", Pg.sem_conflict)], fnsM := [], kfns := [], cons := [], excs := [], mus := [], kills := [], fuel := Pg.fuel, excF := [("NoRow", (11, 2))] }
theorem is_need_rows : compSs (cc_need_rows) 40 40 (defBody (top 23)) = some (Pg.b_need_rows) := by kernel_rfl
/-! put_within -/
def N_put_within : List Str := ["level", "least", "most", "one", "other"]
def P_put_within : List Str := ["level", "least", "most"]
theorem sc_put_within : FnScope N_put_within P_put_within (defScope (top 27)) := C8.fnScope_by (by decide +kernel)
def cc_put_within : CC := { N := N_put_within, sc := defScope (top 27), cellOk := fun _ => true, fns := [], fnsM := [], kfns := [], cons := [], excs := [], mus := [], kills := [], fuel := Pg.fuel }
theorem is_put_within : compSs (cc_put_within) 40 40 (defBody (top 27)) = some (Pg.b_put_within) := by kernel_rfl
/-! level_of -/
def N_level_of : List Str := ["least", "most", "amount", "values", "value", "rising", "low", "high", "middle", "one", "other"]
def P_level_of : List Str := ["least", "most", "amount"]
theorem sc_level_of : FnScope N_level_of P_level_of (defScope (top 28)) := C8.fnScope_by (by decide +kernel)
def cc_level_of : CC := { N := N_level_of, sc := defScope (top 28), cellOk := fun _ => true, fns := [("put_within", Pg.sem_put_within)], fnsM := [], kfns := [], cons := [], excs := [], mus := [], kills := [(155, [8])], fuel := Pg.fuel }
theorem is_level_of : compSs (cc_level_of) 40 40 (defBody (top 28)) = some (Pg.b_level_of) := by kernel_rfl
/-! widest_pair -/
def N_widest_pair : List Str := ["ahead", "behind", "steps", "first", "index", "way", "found", "wide"]
def P_widest_pair : List Str := ["ahead", "behind", "steps"]
theorem sc_widest_pair : FnScope N_widest_pair P_widest_pair (defScope (top 29)) := C8.fnScope_by (by decide +kernel)
def cc_widest_pair : CC := { N := N_widest_pair, sc := defScope (top 29), cellOk := fun _ => true, fns := [("add_all", Pg.sem_add_all)], fnsM := [], kfns := [], cons := [], excs := [], mus := [], kills := [(167, [4, 7])], fuel := Pg.fuel }
theorem is_widest_pair : compSs (cc_widest_pair) 40 40 (defBody (top 29)) = some (Pg.b_widest_pair) := by kernel_rfl
/-! cut_once -/
def N_cut_once : List Str := ["low", "high", "least", "most", "level", "steps", "wide", "first", "last", "step", "bound"]
def P_cut_once : List Str := ["low", "high", "least", "most"]
theorem sc_cut_once : FnScope N_cut_once P_cut_once (defScope (top 30)) := C8.fnScope_by (by decide +kernel)
def cc_cut_once : CC := { N := N_cut_once, sc := defScope (top 30), cellOk := fun _ => true, fns := [("level_of", Pg.sem_level_of), ("widest_pair", Pg.sem_widest_pair), ("put_within", Pg.sem_put_within)], fnsM := [], kfns := [], cons := [], excs := [], mus := [], kills := [], fuel := Pg.fuel }
theorem is_cut_once : compSs (cc_cut_once) 40 40 (defBody (top 30)) = some (Pg.b_cut_once) := by kernel_rfl
/-! parts_between -/
def N_parts_between : List Str := ["bounds", "first", "last", "begin", "end", "waiting", "found", "low", "high", "ends", "ties", "level", "one", "other"]
def P_parts_between : List Str := ["bounds", "first", "last", "begin", "end"]
theorem sc_parts_between : FnScope N_parts_between P_parts_between (defScope (top 31)) := C8.fnScope_by (by decide +kernel)
def cc_parts_between : CC := { N := N_parts_between, sc := defScope (top 31), cellOk := fun _ => true, fns := [("cut_once", Pg.sem_cut_once)], fnsM := [], kfns := [], cons := [], excs := [], mus := [(185, 22, 49), (185, 51, 53)], kills := [(186, [1, 2, 3, 4, 7, 8, 9, 10, 11, 12, 13]), (194, [12, 13])], fuel := Pg.fuel }
theorem is_parts_between : compSs (cc_parts_between) 40 40 (defBody (top 31)) = some (Pg.b_parts_between) := by kernel_rfl
/-! part_ends -/
def N_part_ends : List Str := ["parts", "end", "part"]
def P_part_ends : List Str := ["parts", "end"]
theorem sc_part_ends : FnScope N_part_ends P_part_ends (defScope (top 33)) := C8.fnScope_by (by decide +kernel)
def cc_part_ends : CC := { N := N_part_ends, sc := defScope (top 33), cellOk := fun _ => true, fns := [], fnsM := [], kfns := [], cons := [], excs := [], mus := [], kills := [], fuel := Pg.fuel }
theorem is_part_ends : compSs (cc_part_ends) 40 40 (defBody (top 33)) = some (Pg.b_part_ends) := by kernel_rfl
/-! band_of -/
def N_band_of : List Str := ["bounds", "part", "end", "base", "steps", "few", "many", "index", "first", "last", "begin", "level", "least", "most", "plain", "raised", "amount", "one", "other"]
def P_band_of : List Str := ["bounds", "part", "end"]
theorem sc_band_of : FnScope N_band_of P_band_of (defScope (top 32)) := C8.fnScope_by (by decide +kernel)
def cc_band_of : CC := { N := N_band_of, sc := defScope (top 32), cellOk := fun _ => true, fns := [("put_within", Pg.sem_put_within), ("add_all", Pg.sem_add_all)], fnsM := [], kfns := [], cons := [], excs := [], mus := [(204, 10, 100), (205, 11, 93)], kills := [(208, [7]), (211, [7])], fuel := Pg.fuel }
theorem is_band_of : compSs (cc_band_of) 40 40 (defBody (top 32)) = some (Pg.b_band_of) := by kernel_rfl
/-! sums_between -/
def N_sums_between : List Str := ["bounds", "first", "last", "begin", "end", "is_latest", "parts", "found", "part", "amount", "base", "steps", "few", "many", "one", "other"]
def P_sums_between : List Str := ["bounds", "first", "last", "begin", "end", "is_latest"]
theorem sc_sums_between : FnScope N_sums_between P_sums_between (defScope (top 34)) := C8.fnScope_by (by decide +kernel)
def cc_sums_between : CC := { N := N_sums_between, sc := defScope (top 34), cellOk := fun _ => true, fns := [("parts_between", Pg.sem_parts_between), ("part_ends", Pg.sem_part_ends), ("band_of", Pg.sem_band_of)], fnsM := [], kfns := [], cons := [], excs := [], mus := [], kills := [(219, [8, 9, 10, 11, 12, 13])], fuel := Pg.fuel }
theorem is_sums_between : compSs (cc_sums_between) 40 40 (defBody (top 34)) = some (Pg.b_sums_between) := by kernel_rfl
/-! bounds_of -/
def N_bounds_of : List Str := ["plan"]
def P_bounds_of : List Str := ["plan"]
theorem sc_bounds_of : FnScope N_bounds_of P_bounds_of (defScope (top 26)) := C8.fnScope_by (by decide +kernel)
def cc_bounds_of : CC := { N := N_bounds_of, sc := defScope (top 26), cellOk := fun _ => true, fns := [], fnsM := [], kfns := [], cons := [], excs := [], mus := [], kills := [], fuel := Pg.fuel, prps := [("most", (13, Pg.sem_Plan_most)), ("least", (13, Pg.sem_Plan_least)), ("high", (13, Pg.sem_Plan_high)), ("low", (13, Pg.sem_Plan_low))] }
theorem is_bounds_of : compSs (cc_bounds_of) 40 40 (defBody (top 26)) = some (Pg.b_bounds_of) := by kernel_rfl
/-! Plan.total -/
def N_Plan_total : List Str := ["self"]
def P_Plan_total : List Str := ["self"]
theorem sc_Plan_total : FnScope N_Plan_total P_Plan_total (defScope (cm 18 6)) := C8.fnScope_by (by decide +kernel)
def cc_Plan_total : CC := { N := N_Plan_total, sc := defScope (cm 18 6), cellOk := fun _ => true, fns := [], fnsM := [], kfns := [], cons := [], excs := [], mus := [], kills := [], fuel := Pg.fuel, flds := [("kept_low", (13, 0))] }
theorem is_Plan_total : compSs (cc_Plan_total) 40 40 (defBody (cm 18 6)) = some (Pg.b_Plan_total) := by kernel_rfl
/-! best_sums -/
def N_best_sums : List Str := ["plan", "is_latest"]
def P_best_sums : List Str := ["plan", "is_latest"]
theorem sc_best_sums : FnScope N_best_sums P_best_sums (defScope (top 35)) := C8.fnScope_by (by decide +kernel)
def cc_best_sums : CC := { N := N_best_sums, sc := defScope (top 35), cellOk := fun _ => true, fns := [("sums_between", Pg.sem_sums_between), ("bounds_of", Pg.sem_bounds_of)], fnsM := [], kfns := [], cons := [], excs := [], mus := [], kills := [], fuel := Pg.fuel, prps := [("total", (13, Pg.sem_Plan_total)), ("times", (13, Pg.sem_Plan_times))] }
theorem is_best_sums : compSs (cc_best_sums) 40 40 (defBody (top 35)) = some (Pg.b_best_sums) := by kernel_rfl
/-! best_row -/
def N_best_row : List Str := ["plan"]
def P_best_row : List Str := ["plan"]
theorem sc_best_row : FnScope N_best_row P_best_row (defScope (top 36)) := C8.fnScope_by (by decide +kernel)
def cc_best_row : CC := { N := N_best_row, sc := defScope (top 36), cellOk := fun _ => true, fns := [("need_rows", Pg.sem_need_rows), ("entries_from", Pg.sem_entries_from), ("best_sums", Pg.sem_best_sums)], fnsM := [], kfns := [], cons := [], excs := [], mus := [], kills := [], fuel := Pg.fuel }
theorem is_best_row : compSs (cc_best_row) 40 40 (defBody (top 36)) = some (Pg.b_best_row) := by kernel_rfl
/-! free_plan -/
def N_free_plan : List Str := ["low", "high", "least", "most", "one", "other"]
def P_free_plan : List Str := ["low", "high"]
theorem sc_free_plan : FnScope N_free_plan P_free_plan (defScope (top 50)) := C8.fnScope_by (by decide +kernel)
def cc_free_plan : CC := { N := N_free_plan, sc := defScope (top 50), cellOk := fun _ => true, fns := [("Plan", Pg.mk_Plan_init)], fnsM := [], kfns := [], cons := [], excs := [], mus := [], kills := [], fuel := Pg.fuel }
theorem is_free_plan : compSs (cc_free_plan) 40 40 (defBody (top 50)) = some (Pg.b_free_plan) := by kernel_rfl
/-! price_of -/
def N_price_of : List Str := ["price", "value", "slope", "corners", "place", "more"]
def P_price_of : List Str := ["price", "value"]
theorem sc_price_of : FnScope N_price_of P_price_of (defScope (top 42)) := C8.fnScope_by (by decide +kernel)
def cc_price_of : CC := { N := N_price_of, sc := defScope (top 42), cellOk := fun _ => true, fns := [], fnsM := [], kfns := [], cons := [], excs := [], mus := [], kills := [], fuel := Pg.fuel }
theorem is_price_of : compSs (cc_price_of) 40 40 (defBody (top 42)) = some (Pg.b_price_of) := by kernel_rfl
/-! gain -/
def N_gain : List Str := ["streams", "price", "alone", "together", "lows", "highs", "low", "high", "entry"]
def P_gain : List Str := ["streams", "price"]
theorem sc_gain : FnScope N_gain P_gain (defScope (top 51)) := C8.fnScope_by (by decide +kernel)
def cc_gain : CC := { N := N_gain, sc := defScope (top 51), cellOk := fun _ => true, fns := [("need_streams", Pg.sem_need_streams), ("need_price", Pg.sem_need_price), ("added", Pg.sem_added), ("best_row", Pg.sem_best_row), ("free_plan", Pg.sem_free_plan), ("price_of", Pg.sem_price_of)], fnsM := [], kfns := [], cons := [], excs := [], mus := [], kills := [], fuel := Pg.fuel }
theorem is_gain : compSs (cc_gain) 40 40 (defBody (top 51)) = some (Pg.b_gain) := by kernel_rfl
/-! _law_asked -/
def N_law_asked : List Str := ["way", "some", "one", "two", "e", "shown"]
def P_law_asked : List Str := ["way", "some", "one", "two"]
theorem sc_law_asked : FnScope N_law_asked P_law_asked (defScope (top 57)) := C8.fnScope_by (by decide +kernel)
def cc_law_asked : CC := { N := N_law_asked, sc := defScope (top 57), cellOk := fun _ => true, fns := [("joint", Pg.sem_joint), ("shares", Pg.sem_shares), ("gain", Pg.sem_gain)], fnsM := [], kfns := [], cons := [], excs := [], mus := [], kills := [], fuel := Pg.fuel, xcs := [1, 2, 3, 5, 6, 8, 11], hds := [("EvenError", 0), ("InvalidPlan", 1), ("InvalidRow", 2), ("InvalidTime", 3), ("InvalidNumber", 5), ("InvalidPrice", 6), ("InvalidStreams", 8), ("NoRow", 11)], xfl := [("first", (11, 1)), ("last", (11, 0))] }
theorem is_law_asked : compSs (cc_law_asked) 40 40 (defBody (top 57)) = some (Pg.b_law_asked) := by kernel_rfl
/-! _law_stirred -/
def N_law_stirred : List Str := ["bag", "wide", "found", "k", "mixed"]
def P_law_stirred : List Str := ["bag", "wide"]
theorem sc_law_stirred : FnScope N_law_stirred P_law_stirred (defScope (top 54)) := C8.fnScope_by (by decide +kernel)
def cc_law_stirred : CC := { N := N_law_stirred, sc := defScope (top 54), cellOk := fun _ => true, fns := [], fnsM := [], kfns := [], cons := [], excs := [], mus := [], kills := [(308, [3, 4])], fuel := Pg.fuel }
theorem is_law_stirred : compSs (cc_law_stirred) 40 40 (defBody (top 54)) = some (Pg.b_law_stirred) := by kernel_rfl
/-! _law_draw -/
def N_law_draw : List Str := ["bag", "wide", "found"]
def P_law_draw : List Str := ["bag", "wide"]
theorem sc_law_draw : FnScope N_law_draw P_law_draw (defScope (top 55)) := C8.fnScope_by (by decide +kernel)
def cc_law_draw : CC := { N := N_law_draw, sc := defScope (top 55), cellOk := fun _ => true, fns := [("_law_stirred", Pg.sem_law_stirred)], fnsM := [], kfns := [], cons := [], excs := [], mus := [], kills := [], fuel := Pg.fuel }
theorem is_law_draw : compSs (cc_law_draw) 40 40 (defBody (top 55)) = some (Pg.b_law_draw) := by kernel_rfl
/-! law -/
def N_law : List Str := ["script", "bag", "good", "bad", "lists", "fees", "turn", "told", "way", "odd"]
def P_law : List Str := ["script"]
theorem sc_law : FnScope N_law P_law (defScope (top 58)) := C8.fnScope_by (by decide +kernel)
def cc_law : CC := { N := N_law, sc := defScope (top 58), cellOk := fun _ => true, fns := [("_law_draw", Pg.sem_law_draw), ("_law_asked", Pg.sem_law_asked), ("_law_alike", Pg.sem_law_alike)], fnsM := [("_law_bag", Pg.semM_law_bag)], kfns := [], cons := [], excs := [], mus := [(346, 10, 26), (355, 15, 104), (356, 15, 85), (361, 11, 119), (362, 11, 115), (363, 11, 88)], kills := [(353, [6, 7, 8, 9])], fuel := Pg.fuel }
theorem is_law : compSs (cc_law) 40 40 (defBody (top 58)) = some (Pg.b_law) := by kernel_rfl
end K56

set_option Elab.async false
set_option linter.all false
set_option maxRecDepth 100000
set_option maxHeartbeats 4000000
namespace K56
open PySem PySem.Spec PyProof.Rows L2 Ev
/-! the head -/
def d_law_bag : DefX := ⟨.glo "_law_bag", "_law_bag", "_law_bag", defArgs (top 53), defBody (top 53), defScope (top 53)⟩
def d_law_alike : DefX := ⟨.glo "_law_alike", "_law_alike", "_law_alike", defArgs (top 56), defBody (top 56), defScope (top 56)⟩
def d_is_integer : DefX := ⟨.glo "is_integer", "is_integer", "is_integer", defArgs (top 12), defBody (top 12), defScope (top 12)⟩
def d_are_integers : DefX := ⟨.glo "are_integers", "are_integers", "are_integers", defArgs (top 13), defBody (top 13), defScope (top 13)⟩
def d_is_stream : DefX := ⟨.glo "is_stream", "is_stream", "is_stream", defArgs (top 45), defBody (top 45), defScope (top 45)⟩
def d_need_streams : DefX := ⟨.glo "need_streams", "need_streams", "need_streams", defArgs (top 46), defBody (top 46), defScope (top 46)⟩
def d_need_bounds : DefX := ⟨.glo "need_bounds", "need_bounds", "need_bounds", defArgs (top 14), defBody (top 14), defScope (top 14)⟩
def d_Plan_init : DefX := ⟨.mth "Plan" "__init__", "__init__", "Plan.__init__", defArgs (cm 18 0), defBody (cm 18 0), defScope (cm 18 0)⟩
def d_added : DefX := ⟨.glo "added", "added", "added", defArgs (top 47), defBody (top 47), defScope (top 47)⟩
def d_joint : DefX := ⟨.glo "joint", "joint", "joint", defArgs (top 48), defBody (top 48), defScope (top 48)⟩
def d_add_all : DefX := ⟨.glo "add_all", "add_all", "add_all", defArgs (top 17), defBody (top 17), defScope (top 17)⟩
def d_entries_from : DefX := ⟨.glo "entries_from", "entries_from", "entries_from", defArgs (top 24), defBody (top 24), defScope (top 24)⟩
def d_shares : DefX := ⟨.glo "shares", "shares", "shares", defArgs (top 49), defBody (top 49), defScope (top 49)⟩
def d_is_corner : DefX := ⟨.glo "is_corner", "is_corner", "is_corner", defArgs (top 39), defBody (top 39), defScope (top 39)⟩
def d_is_price : DefX := ⟨.glo "is_price", "is_price", "is_price", defArgs (top 40), defBody (top 40), defScope (top 40)⟩
def d_need_price : DefX := ⟨.glo "need_price", "need_price", "need_price", defArgs (top 41), defBody (top 41), defScope (top 41)⟩
def d_Plan_least : DefX := ⟨.get "Plan" "least", "least", "Plan.least", defArgs (cm 18 4), defBody (cm 18 4), defScope (cm 18 4)⟩
def d_Plan_most : DefX := ⟨.get "Plan" "most", "most", "Plan.most", defArgs (cm 18 5), defBody (cm 18 5), defScope (cm 18 5)⟩
def d_Plan_times : DefX := ⟨.get "Plan" "times", "times", "Plan.times", defArgs (cm 18 1), defBody (cm 18 1), defScope (cm 18 1)⟩
def d_Plan_low : DefX := ⟨.get "Plan" "low", "low", "Plan.low", defArgs (cm 18 2), defBody (cm 18 2), defScope (cm 18 2)⟩
def d_Plan_high : DefX := ⟨.get "Plan" "high", "high", "Plan.high", defArgs (cm 18 3), defBody (cm 18 3), defScope (cm 18 3)⟩
def d_sum_limits : DefX := ⟨.glo "sum_limits", "sum_limits", "sum_limits", defArgs (top 20), defBody (top 20), defScope (top 20)⟩
def d_has_row : DefX := ⟨.glo "has_row", "has_row", "has_row", defArgs (top 21), defBody (top 21), defScope (top 21)⟩
def d_conflict : DefX := ⟨.glo "conflict", "conflict", "conflict", defArgs (top 22), defBody (top 22), defScope (top 22)⟩
def d_need_rows : DefX := ⟨.glo "need_rows", "need_rows", "need_rows", defArgs (top 23), defBody (top 23), defScope (top 23)⟩
def d_put_within : DefX := ⟨.glo "put_within", "put_within", "put_within", defArgs (top 27), defBody (top 27), defScope (top 27)⟩
def d_level_of : DefX := ⟨.glo "level_of", "level_of", "level_of", defArgs (top 28), defBody (top 28), defScope (top 28)⟩
def d_widest_pair : DefX := ⟨.glo "widest_pair", "widest_pair", "widest_pair", defArgs (top 29), defBody (top 29), defScope (top 29)⟩
def d_cut_once : DefX := ⟨.glo "cut_once", "cut_once", "cut_once", defArgs (top 30), defBody (top 30), defScope (top 30)⟩
def d_parts_between : DefX := ⟨.glo "parts_between", "parts_between", "parts_between", defArgs (top 31), defBody (top 31), defScope (top 31)⟩
def d_part_ends : DefX := ⟨.glo "part_ends", "part_ends", "part_ends", defArgs (top 33), defBody (top 33), defScope (top 33)⟩
def d_band_of : DefX := ⟨.glo "band_of", "band_of", "band_of", defArgs (top 32), defBody (top 32), defScope (top 32)⟩
def d_sums_between : DefX := ⟨.glo "sums_between", "sums_between", "sums_between", defArgs (top 34), defBody (top 34), defScope (top 34)⟩
def d_bounds_of : DefX := ⟨.glo "bounds_of", "bounds_of", "bounds_of", defArgs (top 26), defBody (top 26), defScope (top 26)⟩
def d_Plan_total : DefX := ⟨.get "Plan" "total", "total", "Plan.total", defArgs (cm 18 6), defBody (cm 18 6), defScope (cm 18 6)⟩
def d_best_sums : DefX := ⟨.glo "best_sums", "best_sums", "best_sums", defArgs (top 35), defBody (top 35), defScope (top 35)⟩
def d_best_row : DefX := ⟨.glo "best_row", "best_row", "best_row", defArgs (top 36), defBody (top 36), defScope (top 36)⟩
def d_free_plan : DefX := ⟨.glo "free_plan", "free_plan", "free_plan", defArgs (top 50), defBody (top 50), defScope (top 50)⟩
def d_price_of : DefX := ⟨.glo "price_of", "price_of", "price_of", defArgs (top 42), defBody (top 42), defScope (top 42)⟩
def d_gain : DefX := ⟨.glo "gain", "gain", "gain", defArgs (top 51), defBody (top 51), defScope (top 51)⟩
def d_law_asked : DefX := ⟨.glo "_law_asked", "_law_asked", "_law_asked", defArgs (top 57), defBody (top 57), defScope (top 57)⟩
def d_law_stirred : DefX := ⟨.glo "_law_stirred", "_law_stirred", "_law_stirred", defArgs (top 54), defBody (top 54), defScope (top 54)⟩
def d_law_draw : DefX := ⟨.glo "_law_draw", "_law_draw", "_law_draw", defArgs (top 55), defBody (top 55), defScope (top 55)⟩
def d_law : DefX := ⟨.glo "law", "law", "law", defArgs (top 58), defBody (top 58), defScope (top 58)⟩
def d_NoRow_init : DefX := ⟨.mth "NoRow" "__init__", "__init__", "NoRow.__init__", defArgs (cm 9 0), defBody (cm 9 0), defScope (cm 9 0)⟩
def fn : List DefX := [d_law_bag, d_law_alike, d_is_integer, d_are_integers, d_is_stream, d_need_streams, d_need_bounds, d_Plan_init, d_added, d_joint, d_add_all, d_entries_from, d_shares, d_is_corner, d_is_price, d_need_price, d_Plan_least, d_Plan_most, d_Plan_times, d_Plan_low, d_Plan_high, d_sum_limits, d_has_row, d_conflict, d_need_rows, d_put_within, d_level_of, d_widest_pair, d_cut_once, d_parts_between, d_part_ends, d_band_of, d_sums_between, d_bounds_of, d_Plan_total, d_best_sums, d_best_row, d_free_plan, d_price_of, d_gain, d_law_asked, d_law_stirred, d_law_draw, d_law, d_NoRow_init]
def fa : List He.Fa := [.glo "_law_bag", .glo "_law_alike", .glo "is_integer", .glo "are_integers", .glo "is_stream", .glo "need_streams", .glo "need_bounds", .glo "added", .glo "joint", .glo "add_all", .glo "entries_from", .glo "shares", .glo "is_corner", .glo "is_price", .glo "need_price", .glo "sum_limits", .glo "has_row", .glo "conflict", .glo "need_rows", .glo "put_within", .glo "level_of", .glo "widest_pair", .glo "cut_once", .glo "parts_between", .glo "part_ends", .glo "band_of", .glo "sums_between", .glo "bounds_of", .glo "best_sums", .glo "best_row", .glo "free_plan", .glo "price_of", .glo "gain", .glo "_law_asked", .glo "_law_stirred", .glo "_law_draw", .glo "law", .free "len", .free "abs", .free "int", .free "str", .free "list", .free "tuple", .free "sum", .free "all", .free "any", .free "max", .free "min", .free "sorted", .free "range", .free "zip", .free "enumerate", .free "isinstance", .free "bool", .free "set", .int "MOST_TIMES" 200, .int "MOST_CORNERS" 12, .int "MOST_STREAMS" 20, .glo "InvalidPlan", .exc "InvalidPlan", .glo "InvalidRow", .exc "InvalidRow", .glo "InvalidNumber", .exc "InvalidNumber", .glo "InvalidPrice", .exc "InvalidPrice", .glo "InvalidStreams", .exc "InvalidStreams", .glo "NoRow", .glo "EvenError", .glo "InvalidTime", .glo "Plan", .cls "Plan", .noat "Plan" "kept_low", .noat "Plan" "kept_high", .noat "Plan" "kept_least", .noat "Plan" "kept_most", .mkr "Plan"]
def fx : List Fx := [.xini "NoRow", .xsee "NoRow" ["last", "first"], .einit "EvenError", .xsee "InvalidPlan" [], .xsee "InvalidRow" [], .xsee "InvalidTime" [], .xsee "InvalidNumber" [], .xsee "InvalidPrice" [], .xsee "InvalidStreams" [], .xsub "InvalidPlan" "EvenError" true, .xsub "InvalidPlan" "InvalidPlan" true, .xsub "InvalidPlan" "InvalidRow" false, .xsub "InvalidPlan" "InvalidTime" false, .xsub "InvalidPlan" "InvalidNumber" false, .xsub "InvalidPlan" "InvalidPrice" false, .xsub "InvalidPlan" "InvalidStreams" false, .xsub "InvalidPlan" "NoRow" false, .xsub "InvalidRow" "EvenError" true, .xsub "InvalidRow" "InvalidPlan" false, .xsub "InvalidRow" "InvalidRow" true, .xsub "InvalidRow" "InvalidTime" false, .xsub "InvalidRow" "InvalidNumber" false, .xsub "InvalidRow" "InvalidPrice" false, .xsub "InvalidRow" "InvalidStreams" false, .xsub "InvalidRow" "NoRow" false, .xsub "InvalidTime" "EvenError" true, .xsub "InvalidTime" "InvalidPlan" false, .xsub "InvalidTime" "InvalidRow" false, .xsub "InvalidTime" "InvalidTime" true, .xsub "InvalidTime" "InvalidNumber" false, .xsub "InvalidTime" "InvalidPrice" false, .xsub "InvalidTime" "InvalidStreams" false, .xsub "InvalidTime" "NoRow" false, .xsub "InvalidNumber" "EvenError" true, .xsub "InvalidNumber" "InvalidPlan" false, .xsub "InvalidNumber" "InvalidRow" false, .xsub "InvalidNumber" "InvalidTime" false, .xsub "InvalidNumber" "InvalidNumber" true, .xsub "InvalidNumber" "InvalidPrice" false, .xsub "InvalidNumber" "InvalidStreams" false, .xsub "InvalidNumber" "NoRow" false, .xsub "InvalidPrice" "EvenError" true, .xsub "InvalidPrice" "InvalidPlan" false, .xsub "InvalidPrice" "InvalidRow" false, .xsub "InvalidPrice" "InvalidTime" false, .xsub "InvalidPrice" "InvalidNumber" false, .xsub "InvalidPrice" "InvalidPrice" true, .xsub "InvalidPrice" "InvalidStreams" false, .xsub "InvalidPrice" "NoRow" false, .xsub "InvalidStreams" "EvenError" true, .xsub "InvalidStreams" "InvalidPlan" false, .xsub "InvalidStreams" "InvalidRow" false, .xsub "InvalidStreams" "InvalidTime" false, .xsub "InvalidStreams" "InvalidNumber" false, .xsub "InvalidStreams" "InvalidPrice" false, .xsub "InvalidStreams" "InvalidStreams" true, .xsub "InvalidStreams" "NoRow" false, .xsub "NoRow" "EvenError" true, .xsub "NoRow" "InvalidPlan" false, .xsub "NoRow" "InvalidRow" false, .xsub "NoRow" "InvalidTime" false, .xsub "NoRow" "InvalidNumber" false, .xsub "NoRow" "InvalidPrice" false, .xsub "NoRow" "InvalidStreams" false, .xsub "NoRow" "NoRow" true, .prop "Plan" "least", .prop "Plan" "most", .prop "Plan" "times", .prop "Plan" "low", .prop "Plan" "high", .prop "Plan" "total"]
def loose0 : List Str := ["MOST_TIMES", "MOST_CORNERS", "MOST_STREAMS", "EvenError", "InvalidPlan", "InvalidRow", "InvalidTime", "InvalidNumber", "InvalidPrice", "InvalidStreams", "NoRow", "Plan", "_wall", "is_integer", "are_integers", "need_bounds", "need_time", "need_number", "add_all", "sum_limits", "has_row", "conflict", "need_rows", "entries_from", "bounds_of", "put_within", "level_of", "widest_pair", "cut_once", "parts_between"]
def loose1 : List Str := ["band_of", "part_ends", "sums_between", "best_sums", "best_row", "is_corner", "is_price", "need_price", "price_of", "is_stream", "need_streams", "added", "joint", "shares", "free_plan", "gain", "_law_bag", "_law_stirred", "_law_draw", "_law_alike", "_law_asked"]
def loose : List Str := loose0 ++ loose1
abbrev R : PySem.W.OpenRow := PySem.W.OpenLaw.row PySem.Challenge.rw_evenbits_k56_errors_of_streams
abbrev hk : PySem.W.Hook := hookX 8 fa fx fn
def ob (s : PySem.W.SharedT) : AlX := obsXG 8 fa fx fn (HandSHeadRun.getT s)
theorem ob_eq (s : PySem.W.SharedT) : ob s = hk.obs s.abs := obsXG_eq (HandSHeadRun.getT_eq s)
theorem run (w : World) : HandSHeadRun.RunEq R (PySem.W.view R.prog [58]) hk ob 20000 loose w := by
  intro os
  kernel_rfl
section
variable {P : Program} {w : World} {K : PySem.W.Frag} {h : Heap} {mg : Str → Option Value}
def clsN : List Str := ["EvenError", "InvalidPlan", "InvalidRow", "InvalidTime", "InvalidSide", "InvalidNumber", "InvalidPrice", "InvalidNeeds", "InvalidStreams", "InvalidIndex", "NothingToUndo", "NoRow", "InvalidText", "Plan", "Sender", "Session"]
def clsF : List (List Str) := [[], [], [], [], [], [], [], [], [], [], [], ["last", "first"], [], ["kept_low", "kept_high", "kept_least", "kept_most"], [], []]
def kit (K : PySem.W.Frag) : Kit := { K := K, cl := fun c => He.ga K (clsN.getD c ""), fn := fun c => clsF.getD c [] }
theorem noblt (X : K.In h) (G : h.Ns mainGlobals mg) (c : SaysX fa fx fn K) : ∀ x ∈ blts, mg x = none := List.forall_mem_cons.2 ⟨He.free_ok X G (c.fact 37 (f := .free "len") rfl), List.forall_mem_cons.2 ⟨He.free_ok X G (c.fact 38 (f := .free "abs") rfl), List.forall_mem_cons.2 ⟨He.free_ok X G (c.fact 39 (f := .free "int") rfl), List.forall_mem_cons.2 ⟨He.free_ok X G (c.fact 40 (f := .free "str") rfl), List.forall_mem_cons.2 ⟨He.free_ok X G (c.fact 41 (f := .free "list") rfl), List.forall_mem_cons.2 ⟨He.free_ok X G (c.fact 42 (f := .free "tuple") rfl), List.forall_mem_cons.2 ⟨He.free_ok X G (c.fact 43 (f := .free "sum") rfl), List.forall_mem_cons.2 ⟨He.free_ok X G (c.fact 44 (f := .free "all") rfl), List.forall_mem_cons.2 ⟨He.free_ok X G (c.fact 45 (f := .free "any") rfl), List.forall_mem_cons.2 ⟨He.free_ok X G (c.fact 46 (f := .free "max") rfl), List.forall_mem_cons.2 ⟨He.free_ok X G (c.fact 47 (f := .free "min") rfl), List.forall_mem_cons.2 ⟨He.free_ok X G (c.fact 48 (f := .free "sorted") rfl), List.forall_mem_cons.2 ⟨He.free_ok X G (c.fact 49 (f := .free "range") rfl), List.forall_mem_cons.2 ⟨He.free_ok X G (c.fact 50 (f := .free "zip") rfl), List.forall_mem_cons.2 ⟨He.free_ok X G (c.fact 51 (f := .free "enumerate") rfl), List.forall_mem_cons.2 ⟨He.free_ok X G (c.fact 52 (f := .free "isinstance") rfl), List.forall_mem_cons.2 ⟨He.free_ok X G (c.fact 53 (f := .free "bool") rfl), List.forall_mem_cons.2 ⟨He.free_ok X G (c.fact 54 (f := .free "set") rfl), List.forall_mem_nil _⟩⟩⟩⟩⟩⟩⟩⟩⟩⟩⟩⟩⟩⟩⟩⟩⟩⟩
theorem ex_InvalidPlan (X : K.In h) (G : h.Ns mainGlobals mg) (c : SaysX fa fx fn K) : ExcC K mg (kit K) "InvalidPlan" 1 := by
  obtain ⟨h1, h2, h3, h4⟩ := He.exc_ok (c.fact 59 (f := .exc "InvalidPlan") rfl)
  exact ⟨(He.glo_ok X G (c.fact 58 (f := .glo "InvalidPlan") rfl)), h1, h2, h3, h4, by decide⟩
theorem ex_InvalidRow (X : K.In h) (G : h.Ns mainGlobals mg) (c : SaysX fa fx fn K) : ExcC K mg (kit K) "InvalidRow" 2 := by
  obtain ⟨h1, h2, h3, h4⟩ := He.exc_ok (c.fact 61 (f := .exc "InvalidRow") rfl)
  exact ⟨(He.glo_ok X G (c.fact 60 (f := .glo "InvalidRow") rfl)), h1, h2, h3, h4, by decide⟩
theorem ex_InvalidNumber (X : K.In h) (G : h.Ns mainGlobals mg) (c : SaysX fa fx fn K) : ExcC K mg (kit K) "InvalidNumber" 5 := by
  obtain ⟨h1, h2, h3, h4⟩ := He.exc_ok (c.fact 63 (f := .exc "InvalidNumber") rfl)
  exact ⟨(He.glo_ok X G (c.fact 62 (f := .glo "InvalidNumber") rfl)), h1, h2, h3, h4, by decide⟩
theorem ex_InvalidPrice (X : K.In h) (G : h.Ns mainGlobals mg) (c : SaysX fa fx fn K) : ExcC K mg (kit K) "InvalidPrice" 6 := by
  obtain ⟨h1, h2, h3, h4⟩ := He.exc_ok (c.fact 65 (f := .exc "InvalidPrice") rfl)
  exact ⟨(He.glo_ok X G (c.fact 64 (f := .glo "InvalidPrice") rfl)), h1, h2, h3, h4, by decide⟩
theorem ex_InvalidStreams (X : K.In h) (G : h.Ns mainGlobals mg) (c : SaysX fa fx fn K) : ExcC K mg (kit K) "InvalidStreams" 8 := by
  obtain ⟨h1, h2, h3, h4⟩ := He.exc_ok (c.fact 67 (f := .exc "InvalidStreams") rfl)
  exact ⟨(He.glo_ok X G (c.fact 66 (f := .glo "InvalidStreams") rfl)), h1, h2, h3, h4, by decide⟩
theorem see_InvalidPlan (X : K.In h) (G : h.Ns mainGlobals mg) (c : SaysX fa fx fn K) : XcOk K (kit K) 1 := xsee_ok (c.fxt 3 (f := .xsee "InvalidPlan" []) rfl) rfl rfl
theorem see_InvalidRow (X : K.In h) (G : h.Ns mainGlobals mg) (c : SaysX fa fx fn K) : XcOk K (kit K) 2 := xsee_ok (c.fxt 4 (f := .xsee "InvalidRow" []) rfl) rfl rfl
theorem see_InvalidTime (X : K.In h) (G : h.Ns mainGlobals mg) (c : SaysX fa fx fn K) : XcOk K (kit K) 3 := xsee_ok (c.fxt 5 (f := .xsee "InvalidTime" []) rfl) rfl rfl
theorem see_InvalidNumber (X : K.In h) (G : h.Ns mainGlobals mg) (c : SaysX fa fx fn K) : XcOk K (kit K) 5 := xsee_ok (c.fxt 6 (f := .xsee "InvalidNumber" []) rfl) rfl rfl
theorem see_InvalidPrice (X : K.In h) (G : h.Ns mainGlobals mg) (c : SaysX fa fx fn K) : XcOk K (kit K) 6 := xsee_ok (c.fxt 7 (f := .xsee "InvalidPrice" []) rfl) rfl rfl
theorem see_InvalidStreams (X : K.In h) (G : h.Ns mainGlobals mg) (c : SaysX fa fx fn K) : XcOk K (kit K) 8 := xsee_ok (c.fxt 8 (f := .xsee "InvalidStreams" []) rfl) rfl rfl
theorem see_NoRow (X : K.In h) (G : h.Ns mainGlobals mg) (c : SaysX fa fx fn K) : XcOk K (kit K) 11 := xsee_ok (c.fxt 1 (f := .xsee "NoRow" ["last", "first"]) rfl) rfl rfl
theorem sc_NoRow_init : FnScope ["self", "first", "last"] ["self", "first", "last"] (defScope (cm 9 0)) := C8.fnScope_by (by decide +kernel)
theorem fd_NoRow_init (c : SaysX fa fx fn K) : ∃ fd, FunD K "__init__" "NoRow.__init__" (defArgs (cm 9 0)) (defBody (cm 9 0)) (defScope (cm 9 0)) [] [] (iniAd K "NoRow") fd := c.def_ 44 (d := d_NoRow_init) rfl
theorem xm_NoRow (X : K.In h) (G : h.Ns mainGlobals mg) (c : SaysX fa fx fn K) (base : Heap) : XMade P w K mg base (kit K) 2 "NoRow" 11 2 := by
  obtain ⟨fd, F⟩ := fd_NoRow_init c
  exact xmade2 (x := "NoRow") (st := (cm 9 0)) (He.glo_ok X G (c.fact 68 (f := .glo "NoRow") rfl)) (by decide) (xini_ok (c.fxt 0 (f := .xini "NoRow") rfl)) F sc_NoRow_init (by kernel_rfl) (fun _ _ _ _ _ _ us hl => match us, hl with | [_, _, _], _ => rfl) (by decide +kernel) (by decide +kernel) (by decide) (He.glo_ok X G (c.fact 69 (f := .glo "EvenError") rfl)) (einit_ok (c.fxt 2 (f := .einit "EvenError") rfl)) (see_NoRow X G c) rfl
theorem xcs_ok (X : K.In h) (G : h.Ns mainGlobals mg) (c : SaysX fa fx fn K) : ∀ n ∈ ([1, 2, 3, 5, 6, 8, 11] : List Nat), XcOk K (kit K) n := List.forall_mem_cons.2 ⟨see_InvalidPlan X G c, List.forall_mem_cons.2 ⟨see_InvalidRow X G c, List.forall_mem_cons.2 ⟨see_InvalidTime X G c, List.forall_mem_cons.2 ⟨see_InvalidNumber X G c, List.forall_mem_cons.2 ⟨see_InvalidPrice X G c, List.forall_mem_cons.2 ⟨see_InvalidStreams X G c, List.forall_mem_cons.2 ⟨see_NoRow X G c, List.forall_mem_nil _⟩⟩⟩⟩⟩⟩⟩
abbrev HdOk (K : PySem.W.Frag) (mg : Str → Option Value) (x : Str) (ch : Nat) : Prop := mg x = some (.ref ((kit K).cl ch)) ∧ (x == ("__debug__" : Str)) = false ∧ ∀ n ∈ ([1, 2, 3, 5, 6, 8, 11] : List Nat), PySem.W.kitOne K (.ref ((kit K).cl n)) (.ref ((kit K).cl ch)) = some (subX n ch) ∧ PySem.W.exmOne K (.ref ((kit K).cl n)) (.ref ((kit K).cl ch)) = some (subX n ch)
theorem hd_EvenError (X : K.In h) (G : h.Ns mainGlobals mg) (c : SaysX fa fx fn K) : HdOk K mg "EvenError" 0 := ⟨(He.glo_ok X G (c.fact 69 (f := .glo "EvenError") rfl)), by decide, List.forall_mem_cons.2 ⟨xsub_ok (c.fxt 9 (f := .xsub "InvalidPlan" "EvenError" true) rfl), List.forall_mem_cons.2 ⟨xsub_ok (c.fxt 17 (f := .xsub "InvalidRow" "EvenError" true) rfl), List.forall_mem_cons.2 ⟨xsub_ok (c.fxt 25 (f := .xsub "InvalidTime" "EvenError" true) rfl), List.forall_mem_cons.2 ⟨xsub_ok (c.fxt 33 (f := .xsub "InvalidNumber" "EvenError" true) rfl), List.forall_mem_cons.2 ⟨xsub_ok (c.fxt 41 (f := .xsub "InvalidPrice" "EvenError" true) rfl), List.forall_mem_cons.2 ⟨xsub_ok (c.fxt 49 (f := .xsub "InvalidStreams" "EvenError" true) rfl), List.forall_mem_cons.2 ⟨xsub_ok (c.fxt 57 (f := .xsub "NoRow" "EvenError" true) rfl), List.forall_mem_nil _⟩⟩⟩⟩⟩⟩⟩⟩
theorem hd_InvalidPlan (X : K.In h) (G : h.Ns mainGlobals mg) (c : SaysX fa fx fn K) : HdOk K mg "InvalidPlan" 1 := ⟨(He.glo_ok X G (c.fact 58 (f := .glo "InvalidPlan") rfl)), by decide, List.forall_mem_cons.2 ⟨xsub_ok (c.fxt 10 (f := .xsub "InvalidPlan" "InvalidPlan" true) rfl), List.forall_mem_cons.2 ⟨xsub_ok (c.fxt 18 (f := .xsub "InvalidRow" "InvalidPlan" false) rfl), List.forall_mem_cons.2 ⟨xsub_ok (c.fxt 26 (f := .xsub "InvalidTime" "InvalidPlan" false) rfl), List.forall_mem_cons.2 ⟨xsub_ok (c.fxt 34 (f := .xsub "InvalidNumber" "InvalidPlan" false) rfl), List.forall_mem_cons.2 ⟨xsub_ok (c.fxt 42 (f := .xsub "InvalidPrice" "InvalidPlan" false) rfl), List.forall_mem_cons.2 ⟨xsub_ok (c.fxt 50 (f := .xsub "InvalidStreams" "InvalidPlan" false) rfl), List.forall_mem_cons.2 ⟨xsub_ok (c.fxt 58 (f := .xsub "NoRow" "InvalidPlan" false) rfl), List.forall_mem_nil _⟩⟩⟩⟩⟩⟩⟩⟩
theorem hd_InvalidRow (X : K.In h) (G : h.Ns mainGlobals mg) (c : SaysX fa fx fn K) : HdOk K mg "InvalidRow" 2 := ⟨(He.glo_ok X G (c.fact 60 (f := .glo "InvalidRow") rfl)), by decide, List.forall_mem_cons.2 ⟨xsub_ok (c.fxt 11 (f := .xsub "InvalidPlan" "InvalidRow" false) rfl), List.forall_mem_cons.2 ⟨xsub_ok (c.fxt 19 (f := .xsub "InvalidRow" "InvalidRow" true) rfl), List.forall_mem_cons.2 ⟨xsub_ok (c.fxt 27 (f := .xsub "InvalidTime" "InvalidRow" false) rfl), List.forall_mem_cons.2 ⟨xsub_ok (c.fxt 35 (f := .xsub "InvalidNumber" "InvalidRow" false) rfl), List.forall_mem_cons.2 ⟨xsub_ok (c.fxt 43 (f := .xsub "InvalidPrice" "InvalidRow" false) rfl), List.forall_mem_cons.2 ⟨xsub_ok (c.fxt 51 (f := .xsub "InvalidStreams" "InvalidRow" false) rfl), List.forall_mem_cons.2 ⟨xsub_ok (c.fxt 59 (f := .xsub "NoRow" "InvalidRow" false) rfl), List.forall_mem_nil _⟩⟩⟩⟩⟩⟩⟩⟩
theorem hd_InvalidTime (X : K.In h) (G : h.Ns mainGlobals mg) (c : SaysX fa fx fn K) : HdOk K mg "InvalidTime" 3 := ⟨(He.glo_ok X G (c.fact 70 (f := .glo "InvalidTime") rfl)), by decide, List.forall_mem_cons.2 ⟨xsub_ok (c.fxt 12 (f := .xsub "InvalidPlan" "InvalidTime" false) rfl), List.forall_mem_cons.2 ⟨xsub_ok (c.fxt 20 (f := .xsub "InvalidRow" "InvalidTime" false) rfl), List.forall_mem_cons.2 ⟨xsub_ok (c.fxt 28 (f := .xsub "InvalidTime" "InvalidTime" true) rfl), List.forall_mem_cons.2 ⟨xsub_ok (c.fxt 36 (f := .xsub "InvalidNumber" "InvalidTime" false) rfl), List.forall_mem_cons.2 ⟨xsub_ok (c.fxt 44 (f := .xsub "InvalidPrice" "InvalidTime" false) rfl), List.forall_mem_cons.2 ⟨xsub_ok (c.fxt 52 (f := .xsub "InvalidStreams" "InvalidTime" false) rfl), List.forall_mem_cons.2 ⟨xsub_ok (c.fxt 60 (f := .xsub "NoRow" "InvalidTime" false) rfl), List.forall_mem_nil _⟩⟩⟩⟩⟩⟩⟩⟩
theorem hd_InvalidNumber (X : K.In h) (G : h.Ns mainGlobals mg) (c : SaysX fa fx fn K) : HdOk K mg "InvalidNumber" 5 := ⟨(He.glo_ok X G (c.fact 62 (f := .glo "InvalidNumber") rfl)), by decide, List.forall_mem_cons.2 ⟨xsub_ok (c.fxt 13 (f := .xsub "InvalidPlan" "InvalidNumber" false) rfl), List.forall_mem_cons.2 ⟨xsub_ok (c.fxt 21 (f := .xsub "InvalidRow" "InvalidNumber" false) rfl), List.forall_mem_cons.2 ⟨xsub_ok (c.fxt 29 (f := .xsub "InvalidTime" "InvalidNumber" false) rfl), List.forall_mem_cons.2 ⟨xsub_ok (c.fxt 37 (f := .xsub "InvalidNumber" "InvalidNumber" true) rfl), List.forall_mem_cons.2 ⟨xsub_ok (c.fxt 45 (f := .xsub "InvalidPrice" "InvalidNumber" false) rfl), List.forall_mem_cons.2 ⟨xsub_ok (c.fxt 53 (f := .xsub "InvalidStreams" "InvalidNumber" false) rfl), List.forall_mem_cons.2 ⟨xsub_ok (c.fxt 61 (f := .xsub "NoRow" "InvalidNumber" false) rfl), List.forall_mem_nil _⟩⟩⟩⟩⟩⟩⟩⟩
theorem hd_InvalidPrice (X : K.In h) (G : h.Ns mainGlobals mg) (c : SaysX fa fx fn K) : HdOk K mg "InvalidPrice" 6 := ⟨(He.glo_ok X G (c.fact 64 (f := .glo "InvalidPrice") rfl)), by decide, List.forall_mem_cons.2 ⟨xsub_ok (c.fxt 14 (f := .xsub "InvalidPlan" "InvalidPrice" false) rfl), List.forall_mem_cons.2 ⟨xsub_ok (c.fxt 22 (f := .xsub "InvalidRow" "InvalidPrice" false) rfl), List.forall_mem_cons.2 ⟨xsub_ok (c.fxt 30 (f := .xsub "InvalidTime" "InvalidPrice" false) rfl), List.forall_mem_cons.2 ⟨xsub_ok (c.fxt 38 (f := .xsub "InvalidNumber" "InvalidPrice" false) rfl), List.forall_mem_cons.2 ⟨xsub_ok (c.fxt 46 (f := .xsub "InvalidPrice" "InvalidPrice" true) rfl), List.forall_mem_cons.2 ⟨xsub_ok (c.fxt 54 (f := .xsub "InvalidStreams" "InvalidPrice" false) rfl), List.forall_mem_cons.2 ⟨xsub_ok (c.fxt 62 (f := .xsub "NoRow" "InvalidPrice" false) rfl), List.forall_mem_nil _⟩⟩⟩⟩⟩⟩⟩⟩
theorem hd_InvalidStreams (X : K.In h) (G : h.Ns mainGlobals mg) (c : SaysX fa fx fn K) : HdOk K mg "InvalidStreams" 8 := ⟨(He.glo_ok X G (c.fact 66 (f := .glo "InvalidStreams") rfl)), by decide, List.forall_mem_cons.2 ⟨xsub_ok (c.fxt 15 (f := .xsub "InvalidPlan" "InvalidStreams" false) rfl), List.forall_mem_cons.2 ⟨xsub_ok (c.fxt 23 (f := .xsub "InvalidRow" "InvalidStreams" false) rfl), List.forall_mem_cons.2 ⟨xsub_ok (c.fxt 31 (f := .xsub "InvalidTime" "InvalidStreams" false) rfl), List.forall_mem_cons.2 ⟨xsub_ok (c.fxt 39 (f := .xsub "InvalidNumber" "InvalidStreams" false) rfl), List.forall_mem_cons.2 ⟨xsub_ok (c.fxt 47 (f := .xsub "InvalidPrice" "InvalidStreams" false) rfl), List.forall_mem_cons.2 ⟨xsub_ok (c.fxt 55 (f := .xsub "InvalidStreams" "InvalidStreams" true) rfl), List.forall_mem_cons.2 ⟨xsub_ok (c.fxt 63 (f := .xsub "NoRow" "InvalidStreams" false) rfl), List.forall_mem_nil _⟩⟩⟩⟩⟩⟩⟩⟩
theorem hd_NoRow (X : K.In h) (G : h.Ns mainGlobals mg) (c : SaysX fa fx fn K) : HdOk K mg "NoRow" 11 := ⟨(He.glo_ok X G (c.fact 68 (f := .glo "NoRow") rfl)), by decide, List.forall_mem_cons.2 ⟨xsub_ok (c.fxt 16 (f := .xsub "InvalidPlan" "NoRow" false) rfl), List.forall_mem_cons.2 ⟨xsub_ok (c.fxt 24 (f := .xsub "InvalidRow" "NoRow" false) rfl), List.forall_mem_cons.2 ⟨xsub_ok (c.fxt 32 (f := .xsub "InvalidTime" "NoRow" false) rfl), List.forall_mem_cons.2 ⟨xsub_ok (c.fxt 40 (f := .xsub "InvalidNumber" "NoRow" false) rfl), List.forall_mem_cons.2 ⟨xsub_ok (c.fxt 48 (f := .xsub "InvalidPrice" "NoRow" false) rfl), List.forall_mem_cons.2 ⟨xsub_ok (c.fxt 56 (f := .xsub "InvalidStreams" "NoRow" false) rfl), List.forall_mem_cons.2 ⟨xsub_ok (c.fxt 64 (f := .xsub "NoRow" "NoRow" true) rfl), List.forall_mem_nil _⟩⟩⟩⟩⟩⟩⟩⟩
theorem con_MOST_TIMES (X : K.In h) (G : h.Ns mainGlobals mg) (c : SaysX fa fx fn K) : ∃ u v, mg "MOST_TIMES" = some u ∧ RelV v u ∧ ∀ G, Rep (kit K) G (.int 200) v := by
  obtain ⟨t, e⟩ := He.int_ok X G (c.fact 55 (f := .int "MOST_TIMES" 200) rfl)
  exact ⟨_, .int 200, e, ⟨t, rfl⟩, fun _ => by simp only [Rep]⟩
theorem con_MOST_CORNERS (X : K.In h) (G : h.Ns mainGlobals mg) (c : SaysX fa fx fn K) : ∃ u v, mg "MOST_CORNERS" = some u ∧ RelV v u ∧ ∀ G, Rep (kit K) G (.int 12) v := by
  obtain ⟨t, e⟩ := He.int_ok X G (c.fact 56 (f := .int "MOST_CORNERS" 12) rfl)
  exact ⟨_, .int 12, e, ⟨t, rfl⟩, fun _ => by simp only [Rep]⟩
theorem con_MOST_STREAMS (X : K.In h) (G : h.Ns mainGlobals mg) (c : SaysX fa fx fn K) : ∃ u v, mg "MOST_STREAMS" = some u ∧ RelV v u ∧ ∀ G, Rep (kit K) G (.int 20) v := by
  obtain ⟨t, e⟩ := He.int_ok X G (c.fact 57 (f := .int "MOST_STREAMS" 20) rfl)
  exact ⟨_, .int 20, e, ⟨t, rfl⟩, fun _ => by simp only [Rep]⟩
theorem cls_Plan (c : SaysX fa fx fn K) : Cls K ((kit K).cl 13) := He.cls_ok (x := "Plan") (c.fact 72 (f := .cls "Plan") rfl)
theorem fld_kept_low (c : SaysX fa fx fn K) : FldAt K (kit K) "kept_low" 13 0 := ⟨cls_Plan c, He.noat_ok (x := "Plan") (c.fact 73 (f := .noat "Plan" "kept_low") rfl), rfl⟩
theorem fld_kept_high (c : SaysX fa fx fn K) : FldAt K (kit K) "kept_high" 13 1 := ⟨cls_Plan c, He.noat_ok (x := "Plan") (c.fact 74 (f := .noat "Plan" "kept_high") rfl), rfl⟩
theorem fld_kept_least (c : SaysX fa fx fn K) : FldAt K (kit K) "kept_least" 13 2 := ⟨cls_Plan c, He.noat_ok (x := "Plan") (c.fact 75 (f := .noat "Plan" "kept_least") rfl), rfl⟩
theorem fld_kept_most (c : SaysX fa fx fn K) : FldAt K (kit K) "kept_most" 13 3 := ⟨cls_Plan c, He.noat_ok (x := "Plan") (c.fact 76 (f := .noat "Plan" "kept_most") rfl), rfl⟩
theorem fd_law_bag (c : SaysX fa fx fn K) : ∃ fd, FunD K "_law_bag" "_law_bag" (defArgs (top 53)) (defBody (top 53)) (defScope (top 53)) [] [] (Pth.ad K (.glo "_law_bag")) fd := c.def_ 0 (d := d_law_bag) rfl
theorem fc_law_bag (X : K.In h) (G : h.Ns mainGlobals mg) (c : SaysX fa fx fn K) (base : Heap) : FnC P w K mg base (kit K) 1 "_law_bag" Pg.sem_law_bag := by
  obtain ⟨fd, F⟩ := fd_law_bag c
  exact (fnC_of (T := kit K) (C := cc_law_bag) (k := 0) (He.glo_ok X G (c.fact 0 (f := .glo "_law_bag") rfl)) F sc_law_bag { hK := rfl, fns := lk_nil, fnsM := lk_nil, kfns := lk2_nil, cons := lk_nil, excs := lk_nil, excF := lk_nil, xc := List.forall_mem_nil _, xk := fun _ _ e => lk_none e, xfl := fun _ _ e => lk_none e, eqs := lk_nil, iss := lk_nil, iso := List.forall_mem_nil _, cm := ⟨rfl, rfl⟩, flds := lk_nil, prps := lk_nil, prpsM := lk_nil, mths := lk_nil, mthsM := lk_nil, blt := noblt X G c } (fun _ _ _ _ _ _ us hl => match us, hl with | [_], _ => rfl) rfl rfl is_law_bag).io [] false
theorem fcM_law_bag (X : K.In h) (G : h.Ns mainGlobals mg) (c : SaysX fa fx fn K) (base : Heap) : FnC P w K mg base (kit K) 1 "_law_bag" Pg.semM_law_bag := by
  obtain ⟨fd, F⟩ := fd_law_bag c
  exact (fnC_of (T := kit K) (C := cc_law_bag) (k := 0) (He.glo_ok X G (c.fact 0 (f := .glo "_law_bag") rfl)) F sc_law_bag { hK := rfl, fns := lk_nil, fnsM := lk_nil, kfns := lk2_nil, cons := lk_nil, excs := lk_nil, excF := lk_nil, xc := List.forall_mem_nil _, xk := fun _ _ e => lk_none e, xfl := fun _ _ e => lk_none e, eqs := lk_nil, iss := lk_nil, iso := List.forall_mem_nil _, cm := ⟨rfl, rfl⟩, flds := lk_nil, prps := lk_nil, prpsM := lk_nil, mths := lk_nil, mthsM := lk_nil, blt := noblt X G c } (fun _ _ _ _ _ _ us hl => match us, hl with | [_], _ => rfl) rfl rfl is_law_bag).io [] true
theorem fd_law_alike (c : SaysX fa fx fn K) : ∃ fd, FunD K "_law_alike" "_law_alike" (defArgs (top 56)) (defBody (top 56)) (defScope (top 56)) [] [] (Pth.ad K (.glo "_law_alike")) fd := c.def_ 1 (d := d_law_alike) rfl
theorem fr_law_alike (X : K.In h) (G : h.Ns mainGlobals mg) (c : SaysX fa fx fn K) (base : Heap) : ∀ n : Nat, FnC P w K mg base (kit K) (0 + n) "_law_alike" (Pg.sem0_law_alike n)
  | 0 => by
    obtain ⟨fd, F⟩ := fd_law_alike c
    exact fnC_stuck (ps := P_law_alike) (He.glo_ok X G (c.fact 1 (f := .glo "_law_alike") rfl)) F (fun _ _ _ _ _ _ us hl => match us, hl with | [_, _], _ => rfl)
  | n + 1 => by
    obtain ⟨fd, F⟩ := fd_law_alike c
    exact (fnC_of (T := kit K) (C := cc_law_alike (Pg.sem0_law_alike n)) (k := 0 + n) (He.glo_ok X G (c.fact 1 (f := .glo "_law_alike") rfl)) F sc_law_alike { hK := rfl, fns := (lk_cons (fr_law_alike X G c base n) lk_nil), fnsM := lk_nil, kfns := lk2_nil, cons := lk_nil, excs := lk_nil, excF := lk_nil, xc := List.forall_mem_nil _, xk := fun _ _ e => lk_none e, xfl := fun _ _ e => lk_none e, eqs := lk_nil, iss := lk_nil, iso := List.forall_mem_nil _, cm := ⟨rfl, rfl⟩, flds := lk_nil, prps := lk_nil, prpsM := lk_nil, mths := lk_nil, mthsM := lk_nil, blt := noblt X G c } (fun _ _ _ _ _ _ us hl => match us, hl with | [_, _], _ => rfl) rfl rfl (is_law_alike _)).io [] false
theorem fc_law_alike (X : K.In h) (G : h.Ns mainGlobals mg) (c : SaysX fa fx fn K) (base : Heap) : FnC P w K mg base (kit K) 6 "_law_alike" Pg.sem_law_alike := fr_law_alike X G c base 6
theorem fd_is_integer (c : SaysX fa fx fn K) : ∃ fd, FunD K "is_integer" "is_integer" (defArgs (top 12)) (defBody (top 12)) (defScope (top 12)) [] [] (Pth.ad K (.glo "is_integer")) fd := c.def_ 2 (d := d_is_integer) rfl
theorem fc_is_integer (X : K.In h) (G : h.Ns mainGlobals mg) (c : SaysX fa fx fn K) (base : Heap) : FnC P w K mg base (kit K) 1 "is_integer" Pg.sem_is_integer := by
  obtain ⟨fd, F⟩ := fd_is_integer c
  exact (fnC_of (T := kit K) (C := cc_is_integer) (k := 0) (He.glo_ok X G (c.fact 2 (f := .glo "is_integer") rfl)) F sc_is_integer { hK := rfl, fns := lk_nil, fnsM := lk_nil, kfns := lk2_nil, cons := lk_nil, excs := lk_nil, excF := lk_nil, xc := List.forall_mem_nil _, xk := fun _ _ e => lk_none e, xfl := fun _ _ e => lk_none e, eqs := lk_nil, iss := lk_nil, iso := List.forall_mem_nil _, cm := ⟨rfl, rfl⟩, flds := lk_nil, prps := lk_nil, prpsM := lk_nil, mths := lk_nil, mthsM := lk_nil, blt := noblt X G c } (fun _ _ _ _ _ _ us hl => match us, hl with | [_], _ => rfl) rfl rfl is_is_integer).io [] false
theorem fcM_is_integer (X : K.In h) (G : h.Ns mainGlobals mg) (c : SaysX fa fx fn K) (base : Heap) : FnC P w K mg base (kit K) 1 "is_integer" Pg.semM_is_integer := by
  obtain ⟨fd, F⟩ := fd_is_integer c
  exact (fnC_of (T := kit K) (C := cc_is_integer) (k := 0) (He.glo_ok X G (c.fact 2 (f := .glo "is_integer") rfl)) F sc_is_integer { hK := rfl, fns := lk_nil, fnsM := lk_nil, kfns := lk2_nil, cons := lk_nil, excs := lk_nil, excF := lk_nil, xc := List.forall_mem_nil _, xk := fun _ _ e => lk_none e, xfl := fun _ _ e => lk_none e, eqs := lk_nil, iss := lk_nil, iso := List.forall_mem_nil _, cm := ⟨rfl, rfl⟩, flds := lk_nil, prps := lk_nil, prpsM := lk_nil, mths := lk_nil, mthsM := lk_nil, blt := noblt X G c } (fun _ _ _ _ _ _ us hl => match us, hl with | [_], _ => rfl) rfl rfl is_is_integer).io [] true
theorem fd_are_integers (c : SaysX fa fx fn K) : ∃ fd, FunD K "are_integers" "are_integers" (defArgs (top 13)) (defBody (top 13)) (defScope (top 13)) [] [] (Pth.ad K (.glo "are_integers")) fd := c.def_ 3 (d := d_are_integers) rfl
theorem fc_are_integers (X : K.In h) (G : h.Ns mainGlobals mg) (c : SaysX fa fx fn K) (base : Heap) : FnC P w K mg base (kit K) 2 "are_integers" Pg.sem_are_integers := by
  obtain ⟨fd, F⟩ := fd_are_integers c
  exact (fnC_of (T := kit K) (C := cc_are_integers) (k := 1) (He.glo_ok X G (c.fact 3 (f := .glo "are_integers") rfl)) F sc_are_integers { hK := rfl, fns := (lk_cons ((fc_is_integer X G c base).mono (by decide)) lk_nil), fnsM := lk_nil, kfns := lk2_nil, cons := lk_nil, excs := lk_nil, excF := lk_nil, xc := List.forall_mem_nil _, xk := fun _ _ e => lk_none e, xfl := fun _ _ e => lk_none e, eqs := lk_nil, iss := lk_nil, iso := List.forall_mem_nil _, cm := ⟨rfl, rfl⟩, flds := lk_nil, prps := lk_nil, prpsM := lk_nil, mths := lk_nil, mthsM := lk_nil, blt := noblt X G c } (fun _ _ _ _ _ _ us hl => match us, hl with | [_], _ => rfl) rfl rfl is_are_integers).io [] false
theorem fcM_are_integers (X : K.In h) (G : h.Ns mainGlobals mg) (c : SaysX fa fx fn K) (base : Heap) : FnC P w K mg base (kit K) 2 "are_integers" Pg.semM_are_integers := by
  obtain ⟨fd, F⟩ := fd_are_integers c
  exact (fnC_of (T := kit K) (C := cc_are_integers) (k := 1) (He.glo_ok X G (c.fact 3 (f := .glo "are_integers") rfl)) F sc_are_integers { hK := rfl, fns := (lk_cons ((fc_is_integer X G c base).mono (by decide)) lk_nil), fnsM := lk_nil, kfns := lk2_nil, cons := lk_nil, excs := lk_nil, excF := lk_nil, xc := List.forall_mem_nil _, xk := fun _ _ e => lk_none e, xfl := fun _ _ e => lk_none e, eqs := lk_nil, iss := lk_nil, iso := List.forall_mem_nil _, cm := ⟨rfl, rfl⟩, flds := lk_nil, prps := lk_nil, prpsM := lk_nil, mths := lk_nil, mthsM := lk_nil, blt := noblt X G c } (fun _ _ _ _ _ _ us hl => match us, hl with | [_], _ => rfl) rfl rfl is_are_integers).io [] true
theorem fd_is_stream (c : SaysX fa fx fn K) : ∃ fd, FunD K "is_stream" "is_stream" (defArgs (top 45)) (defBody (top 45)) (defScope (top 45)) [] [] (Pth.ad K (.glo "is_stream")) fd := c.def_ 4 (d := d_is_stream) rfl
theorem fc_is_stream (X : K.In h) (G : h.Ns mainGlobals mg) (c : SaysX fa fx fn K) (base : Heap) : FnC P w K mg base (kit K) 3 "is_stream" Pg.sem_is_stream := by
  obtain ⟨fd, F⟩ := fd_is_stream c
  exact (fnC_of (T := kit K) (C := cc_is_stream) (k := 2) (He.glo_ok X G (c.fact 4 (f := .glo "is_stream") rfl)) F sc_is_stream { hK := rfl, fns := (lk_cons ((fc_are_integers X G c base).mono (by decide)) lk_nil), fnsM := lk_nil, kfns := lk2_nil, cons := (lk_cons (con_MOST_TIMES X G c) lk_nil), excs := lk_nil, excF := lk_nil, xc := List.forall_mem_nil _, xk := fun _ _ e => lk_none e, xfl := fun _ _ e => lk_none e, eqs := lk_nil, iss := lk_nil, iso := List.forall_mem_nil _, cm := ⟨rfl, rfl⟩, flds := lk_nil, prps := lk_nil, prpsM := lk_nil, mths := lk_nil, mthsM := lk_nil, blt := noblt X G c } (fun _ _ _ _ _ _ us hl => match us, hl with | [_], _ => rfl) rfl rfl is_is_stream).io [] false
theorem fcM_is_stream (X : K.In h) (G : h.Ns mainGlobals mg) (c : SaysX fa fx fn K) (base : Heap) : FnC P w K mg base (kit K) 3 "is_stream" Pg.semM_is_stream := by
  obtain ⟨fd, F⟩ := fd_is_stream c
  exact (fnC_of (T := kit K) (C := cc_is_stream) (k := 2) (He.glo_ok X G (c.fact 4 (f := .glo "is_stream") rfl)) F sc_is_stream { hK := rfl, fns := (lk_cons ((fc_are_integers X G c base).mono (by decide)) lk_nil), fnsM := lk_nil, kfns := lk2_nil, cons := (lk_cons (con_MOST_TIMES X G c) lk_nil), excs := lk_nil, excF := lk_nil, xc := List.forall_mem_nil _, xk := fun _ _ e => lk_none e, xfl := fun _ _ e => lk_none e, eqs := lk_nil, iss := lk_nil, iso := List.forall_mem_nil _, cm := ⟨rfl, rfl⟩, flds := lk_nil, prps := lk_nil, prpsM := lk_nil, mths := lk_nil, mthsM := lk_nil, blt := noblt X G c } (fun _ _ _ _ _ _ us hl => match us, hl with | [_], _ => rfl) rfl rfl is_is_stream).io [] true
theorem fd_need_streams (c : SaysX fa fx fn K) : ∃ fd, FunD K "need_streams" "need_streams" (defArgs (top 46)) (defBody (top 46)) (defScope (top 46)) [] [] (Pth.ad K (.glo "need_streams")) fd := c.def_ 5 (d := d_need_streams) rfl
theorem fc_need_streams (X : K.In h) (G : h.Ns mainGlobals mg) (c : SaysX fa fx fn K) (base : Heap) : FnC P w K mg base (kit K) 4 "need_streams" Pg.sem_need_streams := by
  obtain ⟨fd, F⟩ := fd_need_streams c
  exact (fnC_of (T := kit K) (C := cc_need_streams) (k := 3) (He.glo_ok X G (c.fact 5 (f := .glo "need_streams") rfl)) F sc_need_streams { hK := rfl, fns := (lk_cons ((fc_is_stream X G c base).mono (by decide)) lk_nil), fnsM := lk_nil, kfns := lk2_nil, cons := (lk_cons (con_MOST_STREAMS X G c) lk_nil), excs := (lk_cons (ex_InvalidStreams X G c) lk_nil), excF := lk_nil, xc := List.forall_mem_nil _, xk := fun _ _ e => lk_none e, xfl := fun _ _ e => lk_none e, eqs := lk_nil, iss := lk_nil, iso := List.forall_mem_nil _, cm := ⟨rfl, rfl⟩, flds := lk_nil, prps := lk_nil, prpsM := lk_nil, mths := lk_nil, mthsM := lk_nil, blt := noblt X G c } (fun _ _ _ _ _ _ us hl => match us, hl with | [_], _ => rfl) rfl rfl is_need_streams).io [] false
theorem fcM_need_streams (X : K.In h) (G : h.Ns mainGlobals mg) (c : SaysX fa fx fn K) (base : Heap) : FnC P w K mg base (kit K) 4 "need_streams" Pg.semM_need_streams := by
  obtain ⟨fd, F⟩ := fd_need_streams c
  exact (fnC_of (T := kit K) (C := cc_need_streams) (k := 3) (He.glo_ok X G (c.fact 5 (f := .glo "need_streams") rfl)) F sc_need_streams { hK := rfl, fns := (lk_cons ((fc_is_stream X G c base).mono (by decide)) lk_nil), fnsM := lk_nil, kfns := lk2_nil, cons := (lk_cons (con_MOST_STREAMS X G c) lk_nil), excs := (lk_cons (ex_InvalidStreams X G c) lk_nil), excF := lk_nil, xc := List.forall_mem_nil _, xk := fun _ _ e => lk_none e, xfl := fun _ _ e => lk_none e, eqs := lk_nil, iss := lk_nil, iso := List.forall_mem_nil _, cm := ⟨rfl, rfl⟩, flds := lk_nil, prps := lk_nil, prpsM := lk_nil, mths := lk_nil, mthsM := lk_nil, blt := noblt X G c } (fun _ _ _ _ _ _ us hl => match us, hl with | [_], _ => rfl) rfl rfl is_need_streams).io [] true
theorem fd_need_bounds (c : SaysX fa fx fn K) : ∃ fd, FunD K "need_bounds" "need_bounds" (defArgs (top 14)) (defBody (top 14)) (defScope (top 14)) [] [] (Pth.ad K (.glo "need_bounds")) fd := c.def_ 6 (d := d_need_bounds) rfl
theorem fc_need_bounds (X : K.In h) (G : h.Ns mainGlobals mg) (c : SaysX fa fx fn K) (base : Heap) : FnC P w K mg base (kit K) 3 "need_bounds" Pg.sem_need_bounds := by
  obtain ⟨fd, F⟩ := fd_need_bounds c
  exact (fnC_of (T := kit K) (C := cc_need_bounds) (k := 2) (He.glo_ok X G (c.fact 6 (f := .glo "need_bounds") rfl)) F sc_need_bounds { hK := rfl, fns := (lk_cons ((fc_are_integers X G c base).mono (by decide)) lk_nil), fnsM := lk_nil, kfns := lk2_nil, cons := (lk_cons (con_MOST_TIMES X G c) lk_nil), excs := (lk_cons (ex_InvalidPlan X G c) lk_nil), excF := lk_nil, xc := List.forall_mem_nil _, xk := fun _ _ e => lk_none e, xfl := fun _ _ e => lk_none e, eqs := lk_nil, iss := lk_nil, iso := List.forall_mem_nil _, cm := ⟨rfl, rfl⟩, flds := lk_nil, prps := lk_nil, prpsM := lk_nil, mths := lk_nil, mthsM := lk_nil, blt := noblt X G c } (fun _ _ _ _ _ _ us hl => match us, hl with | [_, _, _, _], _ => rfl) rfl rfl is_need_bounds).io [] false
theorem fcM_need_bounds (X : K.In h) (G : h.Ns mainGlobals mg) (c : SaysX fa fx fn K) (base : Heap) : FnC P w K mg base (kit K) 3 "need_bounds" Pg.semM_need_bounds := by
  obtain ⟨fd, F⟩ := fd_need_bounds c
  exact (fnC_of (T := kit K) (C := cc_need_bounds) (k := 2) (He.glo_ok X G (c.fact 6 (f := .glo "need_bounds") rfl)) F sc_need_bounds { hK := rfl, fns := (lk_cons ((fc_are_integers X G c base).mono (by decide)) lk_nil), fnsM := lk_nil, kfns := lk2_nil, cons := (lk_cons (con_MOST_TIMES X G c) lk_nil), excs := (lk_cons (ex_InvalidPlan X G c) lk_nil), excF := lk_nil, xc := List.forall_mem_nil _, xk := fun _ _ e => lk_none e, xfl := fun _ _ e => lk_none e, eqs := lk_nil, iss := lk_nil, iso := List.forall_mem_nil _, cm := ⟨rfl, rfl⟩, flds := lk_nil, prps := lk_nil, prpsM := lk_nil, mths := lk_nil, mthsM := lk_nil, blt := noblt X G c } (fun _ _ _ _ _ _ us hl => match us, hl with | [_, _, _, _], _ => rfl) rfl rfl is_need_bounds).io [] true
theorem fd_Plan_init (c : SaysX fa fx fn K) : ∃ fd, FunD K "__init__" "Plan.__init__" (defArgs (cm 18 0)) (defBody (cm 18 0)) (defScope (cm 18 0)) [] [] (Pth.ad K (.mth "Plan" "__init__")) fd := c.def_ 7 (d := d_Plan_init) rfl
theorem fc_Plan_init (X : K.In h) (G : h.Ns mainGlobals mg) (c : SaysX fa fx fn K) (base : Heap) : FnC P w K mg base (kit K) 5 "Plan" Pg.mk_Plan_init := by
  obtain ⟨fd, F⟩ := fd_Plan_init c
  exact clsC_of (T := kit K) (C := cc_Plan_init) (k := 3) (show mg "Plan" = some (.ref ((kit K).cl 13)) from (He.glo_ok X G (c.fact 71 (f := .glo "Plan") rfl))) (He.mkr_ok (x := "Plan") (c.fact 77 (f := .mkr "Plan") rfl)) F sc_Plan_init { hK := rfl, fns := (lk_cons ((fc_need_bounds X G c base).mono (by decide)) lk_nil), fnsM := lk_nil, kfns := lk2_nil, cons := lk_nil, excs := lk_nil, excF := lk_nil, xc := List.forall_mem_nil _, xk := fun _ _ e => lk_none e, xfl := fun _ _ e => lk_none e, eqs := lk_nil, iss := lk_nil, iso := List.forall_mem_nil _, cm := ⟨rfl, rfl⟩, flds := (lk_cons (fld_kept_low c) (lk_cons (fld_kept_high c) (lk_cons (fld_kept_least c) (lk_cons (fld_kept_most c) lk_nil)))), prps := lk_nil, prpsM := lk_nil, mths := lk_nil, mthsM := lk_nil, blt := noblt X G c } (fun _ _ _ _ _ _ us hl => match us, hl with | [_, _, _, _, _], _ => rfl) rfl rfl is_Plan_init
theorem fd_added (c : SaysX fa fx fn K) : ∃ fd, FunD K "added" "added" (defArgs (top 47)) (defBody (top 47)) (defScope (top 47)) [] [] (Pth.ad K (.glo "added")) fd := c.def_ 8 (d := d_added) rfl
theorem fc_added (X : K.In h) (G : h.Ns mainGlobals mg) (c : SaysX fa fx fn K) (base : Heap) : FnC P w K mg base (kit K) 1 "added" Pg.sem_added := by
  obtain ⟨fd, F⟩ := fd_added c
  exact (fnC_of (T := kit K) (C := cc_added) (k := 0) (He.glo_ok X G (c.fact 7 (f := .glo "added") rfl)) F sc_added { hK := rfl, fns := lk_nil, fnsM := lk_nil, kfns := lk2_nil, cons := lk_nil, excs := lk_nil, excF := lk_nil, xc := List.forall_mem_nil _, xk := fun _ _ e => lk_none e, xfl := fun _ _ e => lk_none e, eqs := lk_nil, iss := lk_nil, iso := List.forall_mem_nil _, cm := ⟨rfl, rfl⟩, flds := lk_nil, prps := lk_nil, prpsM := lk_nil, mths := lk_nil, mthsM := lk_nil, blt := noblt X G c } (fun _ _ _ _ _ _ us hl => match us, hl with | [_], _ => rfl) rfl rfl is_added).io [] false
theorem fcM_added (X : K.In h) (G : h.Ns mainGlobals mg) (c : SaysX fa fx fn K) (base : Heap) : FnC P w K mg base (kit K) 1 "added" Pg.semM_added := by
  obtain ⟨fd, F⟩ := fd_added c
  exact (fnC_of (T := kit K) (C := cc_added) (k := 0) (He.glo_ok X G (c.fact 7 (f := .glo "added") rfl)) F sc_added { hK := rfl, fns := lk_nil, fnsM := lk_nil, kfns := lk2_nil, cons := lk_nil, excs := lk_nil, excF := lk_nil, xc := List.forall_mem_nil _, xk := fun _ _ e => lk_none e, xfl := fun _ _ e => lk_none e, eqs := lk_nil, iss := lk_nil, iso := List.forall_mem_nil _, cm := ⟨rfl, rfl⟩, flds := lk_nil, prps := lk_nil, prpsM := lk_nil, mths := lk_nil, mthsM := lk_nil, blt := noblt X G c } (fun _ _ _ _ _ _ us hl => match us, hl with | [_], _ => rfl) rfl rfl is_added).io [] true
theorem fd_joint (c : SaysX fa fx fn K) : ∃ fd, FunD K "joint" "joint" (defArgs (top 48)) (defBody (top 48)) (defScope (top 48)) [] [] (Pth.ad K (.glo "joint")) fd := c.def_ 9 (d := d_joint) rfl
theorem fc_joint (X : K.In h) (G : h.Ns mainGlobals mg) (c : SaysX fa fx fn K) (base : Heap) : FnC P w K mg base (kit K) 6 "joint" Pg.sem_joint := by
  obtain ⟨fd, F⟩ := fd_joint c
  exact (fnC_of (T := kit K) (C := cc_joint) (k := 5) (He.glo_ok X G (c.fact 8 (f := .glo "joint") rfl)) F sc_joint { hK := rfl, fns := (lk_cons ((fc_need_streams X G c base).mono (by decide)) (lk_cons ((fc_are_integers X G c base).mono (by decide)) (lk_cons ((fc_Plan_init X G c base).mono (by decide)) (lk_cons ((fc_added X G c base).mono (by decide)) lk_nil)))), fnsM := lk_nil, kfns := lk2_nil, cons := lk_nil, excs := (lk_cons (ex_InvalidNumber X G c) lk_nil), excF := lk_nil, xc := List.forall_mem_nil _, xk := fun _ _ e => lk_none e, xfl := fun _ _ e => lk_none e, eqs := lk_nil, iss := lk_nil, iso := List.forall_mem_nil _, cm := ⟨rfl, rfl⟩, flds := lk_nil, prps := lk_nil, prpsM := lk_nil, mths := lk_nil, mthsM := lk_nil, blt := noblt X G c } (fun _ _ _ _ _ _ us hl => match us, hl with | [_, _, _], _ => rfl) rfl rfl is_joint).io [] false
theorem fcM_joint (X : K.In h) (G : h.Ns mainGlobals mg) (c : SaysX fa fx fn K) (base : Heap) : FnC P w K mg base (kit K) 6 "joint" Pg.semM_joint := by
  obtain ⟨fd, F⟩ := fd_joint c
  exact (fnC_of (T := kit K) (C := cc_joint) (k := 5) (He.glo_ok X G (c.fact 8 (f := .glo "joint") rfl)) F sc_joint { hK := rfl, fns := (lk_cons ((fc_need_streams X G c base).mono (by decide)) (lk_cons ((fc_are_integers X G c base).mono (by decide)) (lk_cons ((fc_Plan_init X G c base).mono (by decide)) (lk_cons ((fc_added X G c base).mono (by decide)) lk_nil)))), fnsM := lk_nil, kfns := lk2_nil, cons := lk_nil, excs := (lk_cons (ex_InvalidNumber X G c) lk_nil), excF := lk_nil, xc := List.forall_mem_nil _, xk := fun _ _ e => lk_none e, xfl := fun _ _ e => lk_none e, eqs := lk_nil, iss := lk_nil, iso := List.forall_mem_nil _, cm := ⟨rfl, rfl⟩, flds := lk_nil, prps := lk_nil, prpsM := lk_nil, mths := lk_nil, mthsM := lk_nil, blt := noblt X G c } (fun _ _ _ _ _ _ us hl => match us, hl with | [_, _, _], _ => rfl) rfl rfl is_joint).io [] true
theorem fd_add_all (c : SaysX fa fx fn K) : ∃ fd, FunD K "add_all" "add_all" (defArgs (top 17)) (defBody (top 17)) (defScope (top 17)) [] [] (Pth.ad K (.glo "add_all")) fd := c.def_ 10 (d := d_add_all) rfl
theorem fc_add_all (X : K.In h) (G : h.Ns mainGlobals mg) (c : SaysX fa fx fn K) (base : Heap) : FnC P w K mg base (kit K) 1 "add_all" Pg.sem_add_all := by
  obtain ⟨fd, F⟩ := fd_add_all c
  exact (fnC_of (T := kit K) (C := cc_add_all) (k := 0) (He.glo_ok X G (c.fact 9 (f := .glo "add_all") rfl)) F sc_add_all { hK := rfl, fns := lk_nil, fnsM := lk_nil, kfns := lk2_nil, cons := lk_nil, excs := lk_nil, excF := lk_nil, xc := List.forall_mem_nil _, xk := fun _ _ e => lk_none e, xfl := fun _ _ e => lk_none e, eqs := lk_nil, iss := lk_nil, iso := List.forall_mem_nil _, cm := ⟨rfl, rfl⟩, flds := lk_nil, prps := lk_nil, prpsM := lk_nil, mths := lk_nil, mthsM := lk_nil, blt := noblt X G c } (fun _ _ _ _ _ _ us hl => match us, hl with | [_], _ => rfl) rfl rfl is_add_all).io [] false
theorem fcM_add_all (X : K.In h) (G : h.Ns mainGlobals mg) (c : SaysX fa fx fn K) (base : Heap) : FnC P w K mg base (kit K) 1 "add_all" Pg.semM_add_all := by
  obtain ⟨fd, F⟩ := fd_add_all c
  exact (fnC_of (T := kit K) (C := cc_add_all) (k := 0) (He.glo_ok X G (c.fact 9 (f := .glo "add_all") rfl)) F sc_add_all { hK := rfl, fns := lk_nil, fnsM := lk_nil, kfns := lk2_nil, cons := lk_nil, excs := lk_nil, excF := lk_nil, xc := List.forall_mem_nil _, xk := fun _ _ e => lk_none e, xfl := fun _ _ e => lk_none e, eqs := lk_nil, iss := lk_nil, iso := List.forall_mem_nil _, cm := ⟨rfl, rfl⟩, flds := lk_nil, prps := lk_nil, prpsM := lk_nil, mths := lk_nil, mthsM := lk_nil, blt := noblt X G c } (fun _ _ _ _ _ _ us hl => match us, hl with | [_], _ => rfl) rfl rfl is_add_all).io [] true
theorem fd_entries_from (c : SaysX fa fx fn K) : ∃ fd, FunD K "entries_from" "entries_from" (defArgs (top 24)) (defBody (top 24)) (defScope (top 24)) [] [] (Pth.ad K (.glo "entries_from")) fd := c.def_ 11 (d := d_entries_from) rfl
theorem fc_entries_from (X : K.In h) (G : h.Ns mainGlobals mg) (c : SaysX fa fx fn K) (base : Heap) : FnC P w K mg base (kit K) 1 "entries_from" Pg.sem_entries_from := by
  obtain ⟨fd, F⟩ := fd_entries_from c
  exact (fnC_of (T := kit K) (C := cc_entries_from) (k := 0) (He.glo_ok X G (c.fact 10 (f := .glo "entries_from") rfl)) F sc_entries_from { hK := rfl, fns := lk_nil, fnsM := lk_nil, kfns := lk2_nil, cons := lk_nil, excs := lk_nil, excF := lk_nil, xc := List.forall_mem_nil _, xk := fun _ _ e => lk_none e, xfl := fun _ _ e => lk_none e, eqs := lk_nil, iss := lk_nil, iso := List.forall_mem_nil _, cm := ⟨rfl, rfl⟩, flds := lk_nil, prps := lk_nil, prpsM := lk_nil, mths := lk_nil, mthsM := lk_nil, blt := noblt X G c } (fun _ _ _ _ _ _ us hl => match us, hl with | [_], _ => rfl) rfl rfl is_entries_from).io [] false
theorem fcM_entries_from (X : K.In h) (G : h.Ns mainGlobals mg) (c : SaysX fa fx fn K) (base : Heap) : FnC P w K mg base (kit K) 1 "entries_from" Pg.semM_entries_from := by
  obtain ⟨fd, F⟩ := fd_entries_from c
  exact (fnC_of (T := kit K) (C := cc_entries_from) (k := 0) (He.glo_ok X G (c.fact 10 (f := .glo "entries_from") rfl)) F sc_entries_from { hK := rfl, fns := lk_nil, fnsM := lk_nil, kfns := lk2_nil, cons := lk_nil, excs := lk_nil, excF := lk_nil, xc := List.forall_mem_nil _, xk := fun _ _ e => lk_none e, xfl := fun _ _ e => lk_none e, eqs := lk_nil, iss := lk_nil, iso := List.forall_mem_nil _, cm := ⟨rfl, rfl⟩, flds := lk_nil, prps := lk_nil, prpsM := lk_nil, mths := lk_nil, mthsM := lk_nil, blt := noblt X G c } (fun _ _ _ _ _ _ us hl => match us, hl with | [_], _ => rfl) rfl rfl is_entries_from).io [] true
theorem fd_shares (c : SaysX fa fx fn K) : ∃ fd, FunD K "shares" "shares" (defArgs (top 49)) (defBody (top 49)) (defScope (top 49)) [] [] (Pth.ad K (.glo "shares")) fd := c.def_ 12 (d := d_shares) rfl
theorem fc_shares (X : K.In h) (G : h.Ns mainGlobals mg) (c : SaysX fa fx fn K) (base : Heap) : FnC P w K mg base (kit K) 5 "shares" Pg.sem_shares := by
  obtain ⟨fd, F⟩ := fd_shares c
  exact (fnC_of (T := kit K) (C := cc_shares) (k := 4) (He.glo_ok X G (c.fact 11 (f := .glo "shares") rfl)) F sc_shares { hK := rfl, fns := (lk_cons ((fc_need_streams X G c base).mono (by decide)) (lk_cons ((fc_added X G c base).mono (by decide)) (lk_cons ((fc_are_integers X G c base).mono (by decide)) (lk_cons ((fc_add_all X G c base).mono (by decide)) (lk_cons ((fc_entries_from X G c base).mono (by decide)) lk_nil))))), fnsM := lk_nil, kfns := lk2_nil, cons := lk_nil, excs := (lk_cons (ex_InvalidRow X G c) lk_nil), excF := lk_nil, xc := List.forall_mem_nil _, xk := fun _ _ e => lk_none e, xfl := fun _ _ e => lk_none e, eqs := lk_nil, iss := lk_nil, iso := List.forall_mem_nil _, cm := ⟨rfl, rfl⟩, flds := lk_nil, prps := lk_nil, prpsM := lk_nil, mths := lk_nil, mthsM := lk_nil, blt := noblt X G c } (fun _ _ _ _ _ _ us hl => match us, hl with | [_, _], _ => rfl) rfl rfl is_shares).io [] false
theorem fcM_shares (X : K.In h) (G : h.Ns mainGlobals mg) (c : SaysX fa fx fn K) (base : Heap) : FnC P w K mg base (kit K) 5 "shares" Pg.semM_shares := by
  obtain ⟨fd, F⟩ := fd_shares c
  exact (fnC_of (T := kit K) (C := cc_shares) (k := 4) (He.glo_ok X G (c.fact 11 (f := .glo "shares") rfl)) F sc_shares { hK := rfl, fns := (lk_cons ((fc_need_streams X G c base).mono (by decide)) (lk_cons ((fc_added X G c base).mono (by decide)) (lk_cons ((fc_are_integers X G c base).mono (by decide)) (lk_cons ((fc_add_all X G c base).mono (by decide)) (lk_cons ((fc_entries_from X G c base).mono (by decide)) lk_nil))))), fnsM := lk_nil, kfns := lk2_nil, cons := lk_nil, excs := (lk_cons (ex_InvalidRow X G c) lk_nil), excF := lk_nil, xc := List.forall_mem_nil _, xk := fun _ _ e => lk_none e, xfl := fun _ _ e => lk_none e, eqs := lk_nil, iss := lk_nil, iso := List.forall_mem_nil _, cm := ⟨rfl, rfl⟩, flds := lk_nil, prps := lk_nil, prpsM := lk_nil, mths := lk_nil, mthsM := lk_nil, blt := noblt X G c } (fun _ _ _ _ _ _ us hl => match us, hl with | [_, _], _ => rfl) rfl rfl is_shares).io [] true
theorem fd_is_corner (c : SaysX fa fx fn K) : ∃ fd, FunD K "is_corner" "is_corner" (defArgs (top 39)) (defBody (top 39)) (defScope (top 39)) [] [] (Pth.ad K (.glo "is_corner")) fd := c.def_ 13 (d := d_is_corner) rfl
theorem fc_is_corner (X : K.In h) (G : h.Ns mainGlobals mg) (c : SaysX fa fx fn K) (base : Heap) : FnC P w K mg base (kit K) 2 "is_corner" Pg.sem_is_corner := by
  obtain ⟨fd, F⟩ := fd_is_corner c
  exact (fnC_of (T := kit K) (C := cc_is_corner) (k := 1) (He.glo_ok X G (c.fact 12 (f := .glo "is_corner") rfl)) F sc_is_corner { hK := rfl, fns := (lk_cons ((fc_is_integer X G c base).mono (by decide)) lk_nil), fnsM := lk_nil, kfns := lk2_nil, cons := lk_nil, excs := lk_nil, excF := lk_nil, xc := List.forall_mem_nil _, xk := fun _ _ e => lk_none e, xfl := fun _ _ e => lk_none e, eqs := lk_nil, iss := lk_nil, iso := List.forall_mem_nil _, cm := ⟨rfl, rfl⟩, flds := lk_nil, prps := lk_nil, prpsM := lk_nil, mths := lk_nil, mthsM := lk_nil, blt := noblt X G c } (fun _ _ _ _ _ _ us hl => match us, hl with | [_], _ => rfl) rfl rfl is_is_corner).io [] false
theorem fcM_is_corner (X : K.In h) (G : h.Ns mainGlobals mg) (c : SaysX fa fx fn K) (base : Heap) : FnC P w K mg base (kit K) 2 "is_corner" Pg.semM_is_corner := by
  obtain ⟨fd, F⟩ := fd_is_corner c
  exact (fnC_of (T := kit K) (C := cc_is_corner) (k := 1) (He.glo_ok X G (c.fact 12 (f := .glo "is_corner") rfl)) F sc_is_corner { hK := rfl, fns := (lk_cons ((fc_is_integer X G c base).mono (by decide)) lk_nil), fnsM := lk_nil, kfns := lk2_nil, cons := lk_nil, excs := lk_nil, excF := lk_nil, xc := List.forall_mem_nil _, xk := fun _ _ e => lk_none e, xfl := fun _ _ e => lk_none e, eqs := lk_nil, iss := lk_nil, iso := List.forall_mem_nil _, cm := ⟨rfl, rfl⟩, flds := lk_nil, prps := lk_nil, prpsM := lk_nil, mths := lk_nil, mthsM := lk_nil, blt := noblt X G c } (fun _ _ _ _ _ _ us hl => match us, hl with | [_], _ => rfl) rfl rfl is_is_corner).io [] true
theorem fd_is_price (c : SaysX fa fx fn K) : ∃ fd, FunD K "is_price" "is_price" (defArgs (top 40)) (defBody (top 40)) (defScope (top 40)) [] [] (Pth.ad K (.glo "is_price")) fd := c.def_ 14 (d := d_is_price) rfl
theorem fc_is_price (X : K.In h) (G : h.Ns mainGlobals mg) (c : SaysX fa fx fn K) (base : Heap) : FnC P w K mg base (kit K) 3 "is_price" Pg.sem_is_price := by
  obtain ⟨fd, F⟩ := fd_is_price c
  exact (fnC_of (T := kit K) (C := cc_is_price) (k := 2) (He.glo_ok X G (c.fact 13 (f := .glo "is_price") rfl)) F sc_is_price { hK := rfl, fns := (lk_cons ((fc_is_integer X G c base).mono (by decide)) (lk_cons ((fc_is_corner X G c base).mono (by decide)) lk_nil)), fnsM := lk_nil, kfns := lk2_nil, cons := (lk_cons (con_MOST_CORNERS X G c) lk_nil), excs := lk_nil, excF := lk_nil, xc := List.forall_mem_nil _, xk := fun _ _ e => lk_none e, xfl := fun _ _ e => lk_none e, eqs := lk_nil, iss := lk_nil, iso := List.forall_mem_nil _, cm := ⟨rfl, rfl⟩, flds := lk_nil, prps := lk_nil, prpsM := lk_nil, mths := lk_nil, mthsM := lk_nil, blt := noblt X G c } (fun _ _ _ _ _ _ us hl => match us, hl with | [_], _ => rfl) rfl rfl is_is_price).io [] false
theorem fcM_is_price (X : K.In h) (G : h.Ns mainGlobals mg) (c : SaysX fa fx fn K) (base : Heap) : FnC P w K mg base (kit K) 3 "is_price" Pg.semM_is_price := by
  obtain ⟨fd, F⟩ := fd_is_price c
  exact (fnC_of (T := kit K) (C := cc_is_price) (k := 2) (He.glo_ok X G (c.fact 13 (f := .glo "is_price") rfl)) F sc_is_price { hK := rfl, fns := (lk_cons ((fc_is_integer X G c base).mono (by decide)) (lk_cons ((fc_is_corner X G c base).mono (by decide)) lk_nil)), fnsM := lk_nil, kfns := lk2_nil, cons := (lk_cons (con_MOST_CORNERS X G c) lk_nil), excs := lk_nil, excF := lk_nil, xc := List.forall_mem_nil _, xk := fun _ _ e => lk_none e, xfl := fun _ _ e => lk_none e, eqs := lk_nil, iss := lk_nil, iso := List.forall_mem_nil _, cm := ⟨rfl, rfl⟩, flds := lk_nil, prps := lk_nil, prpsM := lk_nil, mths := lk_nil, mthsM := lk_nil, blt := noblt X G c } (fun _ _ _ _ _ _ us hl => match us, hl with | [_], _ => rfl) rfl rfl is_is_price).io [] true
theorem fd_need_price (c : SaysX fa fx fn K) : ∃ fd, FunD K "need_price" "need_price" (defArgs (top 41)) (defBody (top 41)) (defScope (top 41)) [] [] (Pth.ad K (.glo "need_price")) fd := c.def_ 15 (d := d_need_price) rfl
theorem fc_need_price (X : K.In h) (G : h.Ns mainGlobals mg) (c : SaysX fa fx fn K) (base : Heap) : FnC P w K mg base (kit K) 4 "need_price" Pg.sem_need_price := by
  obtain ⟨fd, F⟩ := fd_need_price c
  exact (fnC_of (T := kit K) (C := cc_need_price) (k := 3) (He.glo_ok X G (c.fact 14 (f := .glo "need_price") rfl)) F sc_need_price { hK := rfl, fns := (lk_cons ((fc_is_price X G c base).mono (by decide)) lk_nil), fnsM := lk_nil, kfns := lk2_nil, cons := lk_nil, excs := (lk_cons (ex_InvalidPrice X G c) lk_nil), excF := lk_nil, xc := List.forall_mem_nil _, xk := fun _ _ e => lk_none e, xfl := fun _ _ e => lk_none e, eqs := lk_nil, iss := lk_nil, iso := List.forall_mem_nil _, cm := ⟨rfl, rfl⟩, flds := lk_nil, prps := lk_nil, prpsM := lk_nil, mths := lk_nil, mthsM := lk_nil, blt := noblt X G c } (fun _ _ _ _ _ _ us hl => match us, hl with | [_], _ => rfl) rfl rfl is_need_price).io [] false
theorem fcM_need_price (X : K.In h) (G : h.Ns mainGlobals mg) (c : SaysX fa fx fn K) (base : Heap) : FnC P w K mg base (kit K) 4 "need_price" Pg.semM_need_price := by
  obtain ⟨fd, F⟩ := fd_need_price c
  exact (fnC_of (T := kit K) (C := cc_need_price) (k := 3) (He.glo_ok X G (c.fact 14 (f := .glo "need_price") rfl)) F sc_need_price { hK := rfl, fns := (lk_cons ((fc_is_price X G c base).mono (by decide)) lk_nil), fnsM := lk_nil, kfns := lk2_nil, cons := lk_nil, excs := (lk_cons (ex_InvalidPrice X G c) lk_nil), excF := lk_nil, xc := List.forall_mem_nil _, xk := fun _ _ e => lk_none e, xfl := fun _ _ e => lk_none e, eqs := lk_nil, iss := lk_nil, iso := List.forall_mem_nil _, cm := ⟨rfl, rfl⟩, flds := lk_nil, prps := lk_nil, prpsM := lk_nil, mths := lk_nil, mthsM := lk_nil, blt := noblt X G c } (fun _ _ _ _ _ _ us hl => match us, hl with | [_], _ => rfl) rfl rfl is_need_price).io [] true
theorem fd_Plan_least (c : SaysX fa fx fn K) : ∃ fd, FunD K "least" "Plan.least" (defArgs (cm 18 4)) (defBody (cm 18 4)) (defScope (cm 18 4)) [] [] (Pth.ad K (.get "Plan" "least")) fd := c.def_ 16 (d := d_Plan_least) rfl
theorem pc_Plan_least (X : K.In h) (G : h.Ns mainGlobals mg) (c : SaysX fa fx fn K) (base : Heap) : PrpC P w K mg base (kit K) 1 "least" 13 Pg.sem_Plan_least := by
  obtain ⟨fd, F⟩ := fd_Plan_least c
  exact (prpC_of (T := kit K) (C := cc_Plan_least) (k := 0) (c := 13) (cls_Plan c) (prop_ok (c.fxt 65 (f := .prop "Plan" "least") rfl)) F sc_Plan_least { hK := rfl, fns := lk_nil, fnsM := lk_nil, kfns := lk2_nil, cons := lk_nil, excs := lk_nil, excF := lk_nil, xc := List.forall_mem_nil _, xk := fun _ _ e => lk_none e, xfl := fun _ _ e => lk_none e, eqs := lk_nil, iss := lk_nil, iso := List.forall_mem_nil _, cm := ⟨rfl, rfl⟩, flds := (lk_cons (fld_kept_least c) lk_nil), prps := lk_nil, prpsM := lk_nil, mths := lk_nil, mthsM := lk_nil, blt := noblt X G c } (fun _ _ _ _ _ _ us hl => match us, hl with | [_], _ => rfl) rfl rfl is_Plan_least).io [] false
theorem pcM_Plan_least (X : K.In h) (G : h.Ns mainGlobals mg) (c : SaysX fa fx fn K) (base : Heap) : PrpC P w K mg base (kit K) 1 "least" 13 Pg.semM_Plan_least := by
  obtain ⟨fd, F⟩ := fd_Plan_least c
  exact (prpC_of (T := kit K) (C := cc_Plan_least) (k := 0) (c := 13) (cls_Plan c) (prop_ok (c.fxt 65 (f := .prop "Plan" "least") rfl)) F sc_Plan_least { hK := rfl, fns := lk_nil, fnsM := lk_nil, kfns := lk2_nil, cons := lk_nil, excs := lk_nil, excF := lk_nil, xc := List.forall_mem_nil _, xk := fun _ _ e => lk_none e, xfl := fun _ _ e => lk_none e, eqs := lk_nil, iss := lk_nil, iso := List.forall_mem_nil _, cm := ⟨rfl, rfl⟩, flds := (lk_cons (fld_kept_least c) lk_nil), prps := lk_nil, prpsM := lk_nil, mths := lk_nil, mthsM := lk_nil, blt := noblt X G c } (fun _ _ _ _ _ _ us hl => match us, hl with | [_], _ => rfl) rfl rfl is_Plan_least).io [] true
theorem fd_Plan_most (c : SaysX fa fx fn K) : ∃ fd, FunD K "most" "Plan.most" (defArgs (cm 18 5)) (defBody (cm 18 5)) (defScope (cm 18 5)) [] [] (Pth.ad K (.get "Plan" "most")) fd := c.def_ 17 (d := d_Plan_most) rfl
theorem pc_Plan_most (X : K.In h) (G : h.Ns mainGlobals mg) (c : SaysX fa fx fn K) (base : Heap) : PrpC P w K mg base (kit K) 1 "most" 13 Pg.sem_Plan_most := by
  obtain ⟨fd, F⟩ := fd_Plan_most c
  exact (prpC_of (T := kit K) (C := cc_Plan_most) (k := 0) (c := 13) (cls_Plan c) (prop_ok (c.fxt 66 (f := .prop "Plan" "most") rfl)) F sc_Plan_most { hK := rfl, fns := lk_nil, fnsM := lk_nil, kfns := lk2_nil, cons := lk_nil, excs := lk_nil, excF := lk_nil, xc := List.forall_mem_nil _, xk := fun _ _ e => lk_none e, xfl := fun _ _ e => lk_none e, eqs := lk_nil, iss := lk_nil, iso := List.forall_mem_nil _, cm := ⟨rfl, rfl⟩, flds := (lk_cons (fld_kept_most c) lk_nil), prps := lk_nil, prpsM := lk_nil, mths := lk_nil, mthsM := lk_nil, blt := noblt X G c } (fun _ _ _ _ _ _ us hl => match us, hl with | [_], _ => rfl) rfl rfl is_Plan_most).io [] false
theorem pcM_Plan_most (X : K.In h) (G : h.Ns mainGlobals mg) (c : SaysX fa fx fn K) (base : Heap) : PrpC P w K mg base (kit K) 1 "most" 13 Pg.semM_Plan_most := by
  obtain ⟨fd, F⟩ := fd_Plan_most c
  exact (prpC_of (T := kit K) (C := cc_Plan_most) (k := 0) (c := 13) (cls_Plan c) (prop_ok (c.fxt 66 (f := .prop "Plan" "most") rfl)) F sc_Plan_most { hK := rfl, fns := lk_nil, fnsM := lk_nil, kfns := lk2_nil, cons := lk_nil, excs := lk_nil, excF := lk_nil, xc := List.forall_mem_nil _, xk := fun _ _ e => lk_none e, xfl := fun _ _ e => lk_none e, eqs := lk_nil, iss := lk_nil, iso := List.forall_mem_nil _, cm := ⟨rfl, rfl⟩, flds := (lk_cons (fld_kept_most c) lk_nil), prps := lk_nil, prpsM := lk_nil, mths := lk_nil, mthsM := lk_nil, blt := noblt X G c } (fun _ _ _ _ _ _ us hl => match us, hl with | [_], _ => rfl) rfl rfl is_Plan_most).io [] true
theorem fd_Plan_times (c : SaysX fa fx fn K) : ∃ fd, FunD K "times" "Plan.times" (defArgs (cm 18 1)) (defBody (cm 18 1)) (defScope (cm 18 1)) [] [] (Pth.ad K (.get "Plan" "times")) fd := c.def_ 18 (d := d_Plan_times) rfl
theorem pc_Plan_times (X : K.In h) (G : h.Ns mainGlobals mg) (c : SaysX fa fx fn K) (base : Heap) : PrpC P w K mg base (kit K) 1 "times" 13 Pg.sem_Plan_times := by
  obtain ⟨fd, F⟩ := fd_Plan_times c
  exact (prpC_of (T := kit K) (C := cc_Plan_times) (k := 0) (c := 13) (cls_Plan c) (prop_ok (c.fxt 67 (f := .prop "Plan" "times") rfl)) F sc_Plan_times { hK := rfl, fns := lk_nil, fnsM := lk_nil, kfns := lk2_nil, cons := lk_nil, excs := lk_nil, excF := lk_nil, xc := List.forall_mem_nil _, xk := fun _ _ e => lk_none e, xfl := fun _ _ e => lk_none e, eqs := lk_nil, iss := lk_nil, iso := List.forall_mem_nil _, cm := ⟨rfl, rfl⟩, flds := (lk_cons (fld_kept_low c) lk_nil), prps := lk_nil, prpsM := lk_nil, mths := lk_nil, mthsM := lk_nil, blt := noblt X G c } (fun _ _ _ _ _ _ us hl => match us, hl with | [_], _ => rfl) rfl rfl is_Plan_times).io [] false
theorem pcM_Plan_times (X : K.In h) (G : h.Ns mainGlobals mg) (c : SaysX fa fx fn K) (base : Heap) : PrpC P w K mg base (kit K) 1 "times" 13 Pg.semM_Plan_times := by
  obtain ⟨fd, F⟩ := fd_Plan_times c
  exact (prpC_of (T := kit K) (C := cc_Plan_times) (k := 0) (c := 13) (cls_Plan c) (prop_ok (c.fxt 67 (f := .prop "Plan" "times") rfl)) F sc_Plan_times { hK := rfl, fns := lk_nil, fnsM := lk_nil, kfns := lk2_nil, cons := lk_nil, excs := lk_nil, excF := lk_nil, xc := List.forall_mem_nil _, xk := fun _ _ e => lk_none e, xfl := fun _ _ e => lk_none e, eqs := lk_nil, iss := lk_nil, iso := List.forall_mem_nil _, cm := ⟨rfl, rfl⟩, flds := (lk_cons (fld_kept_low c) lk_nil), prps := lk_nil, prpsM := lk_nil, mths := lk_nil, mthsM := lk_nil, blt := noblt X G c } (fun _ _ _ _ _ _ us hl => match us, hl with | [_], _ => rfl) rfl rfl is_Plan_times).io [] true
theorem fd_Plan_low (c : SaysX fa fx fn K) : ∃ fd, FunD K "low" "Plan.low" (defArgs (cm 18 2)) (defBody (cm 18 2)) (defScope (cm 18 2)) [] [] (Pth.ad K (.get "Plan" "low")) fd := c.def_ 19 (d := d_Plan_low) rfl
theorem pc_Plan_low (X : K.In h) (G : h.Ns mainGlobals mg) (c : SaysX fa fx fn K) (base : Heap) : PrpC P w K mg base (kit K) 1 "low" 13 Pg.sem_Plan_low := by
  obtain ⟨fd, F⟩ := fd_Plan_low c
  exact (prpC_of (T := kit K) (C := cc_Plan_low) (k := 0) (c := 13) (cls_Plan c) (prop_ok (c.fxt 68 (f := .prop "Plan" "low") rfl)) F sc_Plan_low { hK := rfl, fns := lk_nil, fnsM := lk_nil, kfns := lk2_nil, cons := lk_nil, excs := lk_nil, excF := lk_nil, xc := List.forall_mem_nil _, xk := fun _ _ e => lk_none e, xfl := fun _ _ e => lk_none e, eqs := lk_nil, iss := lk_nil, iso := List.forall_mem_nil _, cm := ⟨rfl, rfl⟩, flds := (lk_cons (fld_kept_low c) lk_nil), prps := lk_nil, prpsM := lk_nil, mths := lk_nil, mthsM := lk_nil, blt := noblt X G c } (fun _ _ _ _ _ _ us hl => match us, hl with | [_], _ => rfl) rfl rfl is_Plan_low).io [] false
theorem pcM_Plan_low (X : K.In h) (G : h.Ns mainGlobals mg) (c : SaysX fa fx fn K) (base : Heap) : PrpC P w K mg base (kit K) 1 "low" 13 Pg.semM_Plan_low := by
  obtain ⟨fd, F⟩ := fd_Plan_low c
  exact (prpC_of (T := kit K) (C := cc_Plan_low) (k := 0) (c := 13) (cls_Plan c) (prop_ok (c.fxt 68 (f := .prop "Plan" "low") rfl)) F sc_Plan_low { hK := rfl, fns := lk_nil, fnsM := lk_nil, kfns := lk2_nil, cons := lk_nil, excs := lk_nil, excF := lk_nil, xc := List.forall_mem_nil _, xk := fun _ _ e => lk_none e, xfl := fun _ _ e => lk_none e, eqs := lk_nil, iss := lk_nil, iso := List.forall_mem_nil _, cm := ⟨rfl, rfl⟩, flds := (lk_cons (fld_kept_low c) lk_nil), prps := lk_nil, prpsM := lk_nil, mths := lk_nil, mthsM := lk_nil, blt := noblt X G c } (fun _ _ _ _ _ _ us hl => match us, hl with | [_], _ => rfl) rfl rfl is_Plan_low).io [] true
theorem fd_Plan_high (c : SaysX fa fx fn K) : ∃ fd, FunD K "high" "Plan.high" (defArgs (cm 18 3)) (defBody (cm 18 3)) (defScope (cm 18 3)) [] [] (Pth.ad K (.get "Plan" "high")) fd := c.def_ 20 (d := d_Plan_high) rfl
theorem pc_Plan_high (X : K.In h) (G : h.Ns mainGlobals mg) (c : SaysX fa fx fn K) (base : Heap) : PrpC P w K mg base (kit K) 1 "high" 13 Pg.sem_Plan_high := by
  obtain ⟨fd, F⟩ := fd_Plan_high c
  exact (prpC_of (T := kit K) (C := cc_Plan_high) (k := 0) (c := 13) (cls_Plan c) (prop_ok (c.fxt 69 (f := .prop "Plan" "high") rfl)) F sc_Plan_high { hK := rfl, fns := lk_nil, fnsM := lk_nil, kfns := lk2_nil, cons := lk_nil, excs := lk_nil, excF := lk_nil, xc := List.forall_mem_nil _, xk := fun _ _ e => lk_none e, xfl := fun _ _ e => lk_none e, eqs := lk_nil, iss := lk_nil, iso := List.forall_mem_nil _, cm := ⟨rfl, rfl⟩, flds := (lk_cons (fld_kept_high c) lk_nil), prps := lk_nil, prpsM := lk_nil, mths := lk_nil, mthsM := lk_nil, blt := noblt X G c } (fun _ _ _ _ _ _ us hl => match us, hl with | [_], _ => rfl) rfl rfl is_Plan_high).io [] false
theorem pcM_Plan_high (X : K.In h) (G : h.Ns mainGlobals mg) (c : SaysX fa fx fn K) (base : Heap) : PrpC P w K mg base (kit K) 1 "high" 13 Pg.semM_Plan_high := by
  obtain ⟨fd, F⟩ := fd_Plan_high c
  exact (prpC_of (T := kit K) (C := cc_Plan_high) (k := 0) (c := 13) (cls_Plan c) (prop_ok (c.fxt 69 (f := .prop "Plan" "high") rfl)) F sc_Plan_high { hK := rfl, fns := lk_nil, fnsM := lk_nil, kfns := lk2_nil, cons := lk_nil, excs := lk_nil, excF := lk_nil, xc := List.forall_mem_nil _, xk := fun _ _ e => lk_none e, xfl := fun _ _ e => lk_none e, eqs := lk_nil, iss := lk_nil, iso := List.forall_mem_nil _, cm := ⟨rfl, rfl⟩, flds := (lk_cons (fld_kept_high c) lk_nil), prps := lk_nil, prpsM := lk_nil, mths := lk_nil, mthsM := lk_nil, blt := noblt X G c } (fun _ _ _ _ _ _ us hl => match us, hl with | [_], _ => rfl) rfl rfl is_Plan_high).io [] true
theorem fd_sum_limits (c : SaysX fa fx fn K) : ∃ fd, FunD K "sum_limits" "sum_limits" (defArgs (top 20)) (defBody (top 20)) (defScope (top 20)) [] [] (Pth.ad K (.glo "sum_limits")) fd := c.def_ 21 (d := d_sum_limits) rfl
theorem fc_sum_limits (X : K.In h) (G : h.Ns mainGlobals mg) (c : SaysX fa fx fn K) (base : Heap) : FnC P w K mg base (kit K) 3 "sum_limits" Pg.sem_sum_limits := by
  obtain ⟨fd, F⟩ := fd_sum_limits c
  exact (fnC_of (T := kit K) (C := cc_sum_limits) (k := 2) (He.glo_ok X G (c.fact 15 (f := .glo "sum_limits") rfl)) F sc_sum_limits { hK := rfl, fns := lk_nil, fnsM := lk_nil, kfns := lk2_nil, cons := lk_nil, excs := lk_nil, excF := lk_nil, xc := List.forall_mem_nil _, xk := fun _ _ e => lk_none e, xfl := fun _ _ e => lk_none e, eqs := lk_nil, iss := lk_nil, iso := List.forall_mem_nil _, cm := ⟨rfl, rfl⟩, flds := lk_nil, prps := (lk_cons (⟨1, (by decide), pc_Plan_high X G c base⟩) (lk_cons (⟨1, (by decide), pc_Plan_low X G c base⟩) (lk_cons (⟨1, (by decide), pc_Plan_times X G c base⟩) (lk_cons (⟨1, (by decide), pc_Plan_most X G c base⟩) (lk_cons (⟨1, (by decide), pc_Plan_least X G c base⟩) lk_nil))))), prpsM := lk_nil, mths := lk_nil, mthsM := lk_nil, blt := noblt X G c } (fun _ _ _ _ _ _ us hl => match us, hl with | [_], _ => rfl) rfl rfl is_sum_limits).io [] false
theorem fcM_sum_limits (X : K.In h) (G : h.Ns mainGlobals mg) (c : SaysX fa fx fn K) (base : Heap) : FnC P w K mg base (kit K) 3 "sum_limits" Pg.semM_sum_limits := by
  obtain ⟨fd, F⟩ := fd_sum_limits c
  exact (fnC_of (T := kit K) (C := cc_sum_limits) (k := 2) (He.glo_ok X G (c.fact 15 (f := .glo "sum_limits") rfl)) F sc_sum_limits { hK := rfl, fns := lk_nil, fnsM := lk_nil, kfns := lk2_nil, cons := lk_nil, excs := lk_nil, excF := lk_nil, xc := List.forall_mem_nil _, xk := fun _ _ e => lk_none e, xfl := fun _ _ e => lk_none e, eqs := lk_nil, iss := lk_nil, iso := List.forall_mem_nil _, cm := ⟨rfl, rfl⟩, flds := lk_nil, prps := (lk_cons (⟨1, (by decide), pc_Plan_high X G c base⟩) (lk_cons (⟨1, (by decide), pc_Plan_low X G c base⟩) (lk_cons (⟨1, (by decide), pc_Plan_times X G c base⟩) (lk_cons (⟨1, (by decide), pc_Plan_most X G c base⟩) (lk_cons (⟨1, (by decide), pc_Plan_least X G c base⟩) lk_nil))))), prpsM := lk_nil, mths := lk_nil, mthsM := lk_nil, blt := noblt X G c } (fun _ _ _ _ _ _ us hl => match us, hl with | [_], _ => rfl) rfl rfl is_sum_limits).io [] true
theorem fd_has_row (c : SaysX fa fx fn K) : ∃ fd, FunD K "has_row" "has_row" (defArgs (top 21)) (defBody (top 21)) (defScope (top 21)) [] [] (Pth.ad K (.glo "has_row")) fd := c.def_ 22 (d := d_has_row) rfl
theorem fc_has_row (X : K.In h) (G : h.Ns mainGlobals mg) (c : SaysX fa fx fn K) (base : Heap) : FnC P w K mg base (kit K) 4 "has_row" Pg.sem_has_row := by
  obtain ⟨fd, F⟩ := fd_has_row c
  exact (fnC_of (T := kit K) (C := cc_has_row) (k := 3) (He.glo_ok X G (c.fact 16 (f := .glo "has_row") rfl)) F sc_has_row { hK := rfl, fns := (lk_cons ((fc_sum_limits X G c base).mono (by decide)) lk_nil), fnsM := lk_nil, kfns := lk2_nil, cons := lk_nil, excs := lk_nil, excF := lk_nil, xc := List.forall_mem_nil _, xk := fun _ _ e => lk_none e, xfl := fun _ _ e => lk_none e, eqs := lk_nil, iss := lk_nil, iso := List.forall_mem_nil _, cm := ⟨rfl, rfl⟩, flds := lk_nil, prps := lk_nil, prpsM := lk_nil, mths := lk_nil, mthsM := lk_nil, blt := noblt X G c } (fun _ _ _ _ _ _ us hl => match us, hl with | [_], _ => rfl) rfl rfl is_has_row).io [] false
theorem fcM_has_row (X : K.In h) (G : h.Ns mainGlobals mg) (c : SaysX fa fx fn K) (base : Heap) : FnC P w K mg base (kit K) 4 "has_row" Pg.semM_has_row := by
  obtain ⟨fd, F⟩ := fd_has_row c
  exact (fnC_of (T := kit K) (C := cc_has_row) (k := 3) (He.glo_ok X G (c.fact 16 (f := .glo "has_row") rfl)) F sc_has_row { hK := rfl, fns := (lk_cons ((fc_sum_limits X G c base).mono (by decide)) lk_nil), fnsM := lk_nil, kfns := lk2_nil, cons := lk_nil, excs := lk_nil, excF := lk_nil, xc := List.forall_mem_nil _, xk := fun _ _ e => lk_none e, xfl := fun _ _ e => lk_none e, eqs := lk_nil, iss := lk_nil, iso := List.forall_mem_nil _, cm := ⟨rfl, rfl⟩, flds := lk_nil, prps := lk_nil, prpsM := lk_nil, mths := lk_nil, mthsM := lk_nil, blt := noblt X G c } (fun _ _ _ _ _ _ us hl => match us, hl with | [_], _ => rfl) rfl rfl is_has_row).io [] true
theorem fd_conflict (c : SaysX fa fx fn K) : ∃ fd, FunD K "conflict" "conflict" (defArgs (top 22)) (defBody (top 22)) (defScope (top 22)) [] [] (Pth.ad K (.glo "conflict")) fd := c.def_ 23 (d := d_conflict) rfl
theorem fc_conflict (X : K.In h) (G : h.Ns mainGlobals mg) (c : SaysX fa fx fn K) (base : Heap) : FnC P w K mg base (kit K) 3 "conflict" Pg.sem_conflict := by
  obtain ⟨fd, F⟩ := fd_conflict c
  exact (fnC_of (T := kit K) (C := cc_conflict) (k := 2) (He.glo_ok X G (c.fact 17 (f := .glo "conflict") rfl)) F sc_conflict { hK := rfl, fns := (lk_cons ((fc_add_all X G c base).mono (by decide)) lk_nil), fnsM := lk_nil, kfns := lk2_nil, cons := lk_nil, excs := lk_nil, excF := lk_nil, xc := List.forall_mem_nil _, xk := fun _ _ e => lk_none e, xfl := fun _ _ e => lk_none e, eqs := lk_nil, iss := lk_nil, iso := List.forall_mem_nil _, cm := ⟨rfl, rfl⟩, flds := lk_nil, prps := (lk_cons (⟨1, (by decide), pc_Plan_high X G c base⟩) (lk_cons (⟨1, (by decide), pc_Plan_low X G c base⟩) (lk_cons (⟨1, (by decide), pc_Plan_most X G c base⟩) (lk_cons (⟨1, (by decide), pc_Plan_least X G c base⟩) (lk_cons (⟨1, (by decide), pc_Plan_times X G c base⟩) lk_nil))))), prpsM := lk_nil, mths := lk_nil, mthsM := lk_nil, blt := noblt X G c } (fun _ _ _ _ _ _ us hl => match us, hl with | [_], _ => rfl) rfl rfl is_conflict).io [] false
theorem fcM_conflict (X : K.In h) (G : h.Ns mainGlobals mg) (c : SaysX fa fx fn K) (base : Heap) : FnC P w K mg base (kit K) 3 "conflict" Pg.semM_conflict := by
  obtain ⟨fd, F⟩ := fd_conflict c
  exact (fnC_of (T := kit K) (C := cc_conflict) (k := 2) (He.glo_ok X G (c.fact 17 (f := .glo "conflict") rfl)) F sc_conflict { hK := rfl, fns := (lk_cons ((fc_add_all X G c base).mono (by decide)) lk_nil), fnsM := lk_nil, kfns := lk2_nil, cons := lk_nil, excs := lk_nil, excF := lk_nil, xc := List.forall_mem_nil _, xk := fun _ _ e => lk_none e, xfl := fun _ _ e => lk_none e, eqs := lk_nil, iss := lk_nil, iso := List.forall_mem_nil _, cm := ⟨rfl, rfl⟩, flds := lk_nil, prps := (lk_cons (⟨1, (by decide), pc_Plan_high X G c base⟩) (lk_cons (⟨1, (by decide), pc_Plan_low X G c base⟩) (lk_cons (⟨1, (by decide), pc_Plan_most X G c base⟩) (lk_cons (⟨1, (by decide), pc_Plan_least X G c base⟩) (lk_cons (⟨1, (by decide), pc_Plan_times X G c base⟩) lk_nil))))), prpsM := lk_nil, mths := lk_nil, mthsM := lk_nil, blt := noblt X G c } (fun _ _ _ _ _ _ us hl => match us, hl with | [_], _ => rfl) rfl rfl is_conflict).io [] true
theorem fd_need_rows (c : SaysX fa fx fn K) : ∃ fd, FunD K "need_rows" "need_rows" (defArgs (top 23)) (defBody (top 23)) (defScope (top 23)) [] [] (Pth.ad K (.glo "need_rows")) fd := c.def_ 24 (d := d_need_rows) rfl
theorem fc_need_rows (X : K.In h) (G : h.Ns mainGlobals mg) (c : SaysX fa fx fn K) (base : Heap) : FnC P w K mg base (kit K) 5 "need_rows" Pg.sem_need_rows := by
  obtain ⟨fd, F⟩ := fd_need_rows c
  exact (fnC_of (T := kit K) (C := cc_need_rows) (k := 4) (He.glo_ok X G (c.fact 18 (f := .glo "need_rows") rfl)) F sc_need_rows { hK := rfl, fns := (lk_cons ((fc_has_row X G c base).mono (by decide)) (lk_cons ((fc_conflict X G c base).mono (by decide)) lk_nil)), fnsM := lk_nil, kfns := lk2_nil, cons := lk_nil, excs := lk_nil, excF := (lk_cons ((xm_NoRow X G c base).mono (by decide)) lk_nil), xc := List.forall_mem_nil _, xk := fun _ _ e => lk_none e, xfl := fun _ _ e => lk_none e, eqs := lk_nil, iss := lk_nil, iso := List.forall_mem_nil _, cm := ⟨rfl, rfl⟩, flds := lk_nil, prps := lk_nil, prpsM := lk_nil, mths := lk_nil, mthsM := lk_nil, blt := noblt X G c } (fun _ _ _ _ _ _ us hl => match us, hl with | [_], _ => rfl) rfl rfl is_need_rows).io [] false
theorem fcM_need_rows (X : K.In h) (G : h.Ns mainGlobals mg) (c : SaysX fa fx fn K) (base : Heap) : FnC P w K mg base (kit K) 5 "need_rows" Pg.semM_need_rows := by
  obtain ⟨fd, F⟩ := fd_need_rows c
  exact (fnC_of (T := kit K) (C := cc_need_rows) (k := 4) (He.glo_ok X G (c.fact 18 (f := .glo "need_rows") rfl)) F sc_need_rows { hK := rfl, fns := (lk_cons ((fc_has_row X G c base).mono (by decide)) (lk_cons ((fc_conflict X G c base).mono (by decide)) lk_nil)), fnsM := lk_nil, kfns := lk2_nil, cons := lk_nil, excs := lk_nil, excF := (lk_cons ((xm_NoRow X G c base).mono (by decide)) lk_nil), xc := List.forall_mem_nil _, xk := fun _ _ e => lk_none e, xfl := fun _ _ e => lk_none e, eqs := lk_nil, iss := lk_nil, iso := List.forall_mem_nil _, cm := ⟨rfl, rfl⟩, flds := lk_nil, prps := lk_nil, prpsM := lk_nil, mths := lk_nil, mthsM := lk_nil, blt := noblt X G c } (fun _ _ _ _ _ _ us hl => match us, hl with | [_], _ => rfl) rfl rfl is_need_rows).io [] true
theorem fd_put_within (c : SaysX fa fx fn K) : ∃ fd, FunD K "put_within" "put_within" (defArgs (top 27)) (defBody (top 27)) (defScope (top 27)) [] [] (Pth.ad K (.glo "put_within")) fd := c.def_ 25 (d := d_put_within) rfl
theorem fc_put_within (X : K.In h) (G : h.Ns mainGlobals mg) (c : SaysX fa fx fn K) (base : Heap) : FnC P w K mg base (kit K) 1 "put_within" Pg.sem_put_within := by
  obtain ⟨fd, F⟩ := fd_put_within c
  exact (fnC_of (T := kit K) (C := cc_put_within) (k := 0) (He.glo_ok X G (c.fact 19 (f := .glo "put_within") rfl)) F sc_put_within { hK := rfl, fns := lk_nil, fnsM := lk_nil, kfns := lk2_nil, cons := lk_nil, excs := lk_nil, excF := lk_nil, xc := List.forall_mem_nil _, xk := fun _ _ e => lk_none e, xfl := fun _ _ e => lk_none e, eqs := lk_nil, iss := lk_nil, iso := List.forall_mem_nil _, cm := ⟨rfl, rfl⟩, flds := lk_nil, prps := lk_nil, prpsM := lk_nil, mths := lk_nil, mthsM := lk_nil, blt := noblt X G c } (fun _ _ _ _ _ _ us hl => match us, hl with | [_, _, _], _ => rfl) rfl rfl is_put_within).io [] false
theorem fcM_put_within (X : K.In h) (G : h.Ns mainGlobals mg) (c : SaysX fa fx fn K) (base : Heap) : FnC P w K mg base (kit K) 1 "put_within" Pg.semM_put_within := by
  obtain ⟨fd, F⟩ := fd_put_within c
  exact (fnC_of (T := kit K) (C := cc_put_within) (k := 0) (He.glo_ok X G (c.fact 19 (f := .glo "put_within") rfl)) F sc_put_within { hK := rfl, fns := lk_nil, fnsM := lk_nil, kfns := lk2_nil, cons := lk_nil, excs := lk_nil, excF := lk_nil, xc := List.forall_mem_nil _, xk := fun _ _ e => lk_none e, xfl := fun _ _ e => lk_none e, eqs := lk_nil, iss := lk_nil, iso := List.forall_mem_nil _, cm := ⟨rfl, rfl⟩, flds := lk_nil, prps := lk_nil, prpsM := lk_nil, mths := lk_nil, mthsM := lk_nil, blt := noblt X G c } (fun _ _ _ _ _ _ us hl => match us, hl with | [_, _, _], _ => rfl) rfl rfl is_put_within).io [] true
theorem fd_level_of (c : SaysX fa fx fn K) : ∃ fd, FunD K "level_of" "level_of" (defArgs (top 28)) (defBody (top 28)) (defScope (top 28)) [] [] (Pth.ad K (.glo "level_of")) fd := c.def_ 26 (d := d_level_of) rfl
theorem fc_level_of (X : K.In h) (G : h.Ns mainGlobals mg) (c : SaysX fa fx fn K) (base : Heap) : FnC P w K mg base (kit K) 2 "level_of" Pg.sem_level_of := by
  obtain ⟨fd, F⟩ := fd_level_of c
  exact (fnC_of (T := kit K) (C := cc_level_of) (k := 1) (He.glo_ok X G (c.fact 20 (f := .glo "level_of") rfl)) F sc_level_of { hK := rfl, fns := (lk_cons ((fc_put_within X G c base).mono (by decide)) lk_nil), fnsM := lk_nil, kfns := lk2_nil, cons := lk_nil, excs := lk_nil, excF := lk_nil, xc := List.forall_mem_nil _, xk := fun _ _ e => lk_none e, xfl := fun _ _ e => lk_none e, eqs := lk_nil, iss := lk_nil, iso := List.forall_mem_nil _, cm := ⟨rfl, rfl⟩, flds := lk_nil, prps := lk_nil, prpsM := lk_nil, mths := lk_nil, mthsM := lk_nil, blt := noblt X G c } (fun _ _ _ _ _ _ us hl => match us, hl with | [_, _, _], _ => rfl) rfl rfl is_level_of).io [] false
theorem fcM_level_of (X : K.In h) (G : h.Ns mainGlobals mg) (c : SaysX fa fx fn K) (base : Heap) : FnC P w K mg base (kit K) 2 "level_of" Pg.semM_level_of := by
  obtain ⟨fd, F⟩ := fd_level_of c
  exact (fnC_of (T := kit K) (C := cc_level_of) (k := 1) (He.glo_ok X G (c.fact 20 (f := .glo "level_of") rfl)) F sc_level_of { hK := rfl, fns := (lk_cons ((fc_put_within X G c base).mono (by decide)) lk_nil), fnsM := lk_nil, kfns := lk2_nil, cons := lk_nil, excs := lk_nil, excF := lk_nil, xc := List.forall_mem_nil _, xk := fun _ _ e => lk_none e, xfl := fun _ _ e => lk_none e, eqs := lk_nil, iss := lk_nil, iso := List.forall_mem_nil _, cm := ⟨rfl, rfl⟩, flds := lk_nil, prps := lk_nil, prpsM := lk_nil, mths := lk_nil, mthsM := lk_nil, blt := noblt X G c } (fun _ _ _ _ _ _ us hl => match us, hl with | [_, _, _], _ => rfl) rfl rfl is_level_of).io [] true
theorem fd_widest_pair (c : SaysX fa fx fn K) : ∃ fd, FunD K "widest_pair" "widest_pair" (defArgs (top 29)) (defBody (top 29)) (defScope (top 29)) [] [] (Pth.ad K (.glo "widest_pair")) fd := c.def_ 27 (d := d_widest_pair) rfl
theorem fc_widest_pair (X : K.In h) (G : h.Ns mainGlobals mg) (c : SaysX fa fx fn K) (base : Heap) : FnC P w K mg base (kit K) 2 "widest_pair" Pg.sem_widest_pair := by
  obtain ⟨fd, F⟩ := fd_widest_pair c
  exact (fnC_of (T := kit K) (C := cc_widest_pair) (k := 1) (He.glo_ok X G (c.fact 21 (f := .glo "widest_pair") rfl)) F sc_widest_pair { hK := rfl, fns := (lk_cons ((fc_add_all X G c base).mono (by decide)) lk_nil), fnsM := lk_nil, kfns := lk2_nil, cons := lk_nil, excs := lk_nil, excF := lk_nil, xc := List.forall_mem_nil _, xk := fun _ _ e => lk_none e, xfl := fun _ _ e => lk_none e, eqs := lk_nil, iss := lk_nil, iso := List.forall_mem_nil _, cm := ⟨rfl, rfl⟩, flds := lk_nil, prps := lk_nil, prpsM := lk_nil, mths := lk_nil, mthsM := lk_nil, blt := noblt X G c } (fun _ _ _ _ _ _ us hl => match us, hl with | [_, _, _], _ => rfl) rfl rfl is_widest_pair).io [] false
theorem fcM_widest_pair (X : K.In h) (G : h.Ns mainGlobals mg) (c : SaysX fa fx fn K) (base : Heap) : FnC P w K mg base (kit K) 2 "widest_pair" Pg.semM_widest_pair := by
  obtain ⟨fd, F⟩ := fd_widest_pair c
  exact (fnC_of (T := kit K) (C := cc_widest_pair) (k := 1) (He.glo_ok X G (c.fact 21 (f := .glo "widest_pair") rfl)) F sc_widest_pair { hK := rfl, fns := (lk_cons ((fc_add_all X G c base).mono (by decide)) lk_nil), fnsM := lk_nil, kfns := lk2_nil, cons := lk_nil, excs := lk_nil, excF := lk_nil, xc := List.forall_mem_nil _, xk := fun _ _ e => lk_none e, xfl := fun _ _ e => lk_none e, eqs := lk_nil, iss := lk_nil, iso := List.forall_mem_nil _, cm := ⟨rfl, rfl⟩, flds := lk_nil, prps := lk_nil, prpsM := lk_nil, mths := lk_nil, mthsM := lk_nil, blt := noblt X G c } (fun _ _ _ _ _ _ us hl => match us, hl with | [_, _, _], _ => rfl) rfl rfl is_widest_pair).io [] true
theorem fd_cut_once (c : SaysX fa fx fn K) : ∃ fd, FunD K "cut_once" "cut_once" (defArgs (top 30)) (defBody (top 30)) (defScope (top 30)) [] [] (Pth.ad K (.glo "cut_once")) fd := c.def_ 28 (d := d_cut_once) rfl
theorem fc_cut_once (X : K.In h) (G : h.Ns mainGlobals mg) (c : SaysX fa fx fn K) (base : Heap) : FnC P w K mg base (kit K) 3 "cut_once" Pg.sem_cut_once := by
  obtain ⟨fd, F⟩ := fd_cut_once c
  exact (fnC_of (T := kit K) (C := cc_cut_once) (k := 2) (He.glo_ok X G (c.fact 22 (f := .glo "cut_once") rfl)) F sc_cut_once { hK := rfl, fns := (lk_cons ((fc_level_of X G c base).mono (by decide)) (lk_cons ((fc_widest_pair X G c base).mono (by decide)) (lk_cons ((fc_put_within X G c base).mono (by decide)) lk_nil))), fnsM := lk_nil, kfns := lk2_nil, cons := lk_nil, excs := lk_nil, excF := lk_nil, xc := List.forall_mem_nil _, xk := fun _ _ e => lk_none e, xfl := fun _ _ e => lk_none e, eqs := lk_nil, iss := lk_nil, iso := List.forall_mem_nil _, cm := ⟨rfl, rfl⟩, flds := lk_nil, prps := lk_nil, prpsM := lk_nil, mths := lk_nil, mthsM := lk_nil, blt := noblt X G c } (fun _ _ _ _ _ _ us hl => match us, hl with | [_, _, _, _], _ => rfl) rfl rfl is_cut_once).io [] false
theorem fcM_cut_once (X : K.In h) (G : h.Ns mainGlobals mg) (c : SaysX fa fx fn K) (base : Heap) : FnC P w K mg base (kit K) 3 "cut_once" Pg.semM_cut_once := by
  obtain ⟨fd, F⟩ := fd_cut_once c
  exact (fnC_of (T := kit K) (C := cc_cut_once) (k := 2) (He.glo_ok X G (c.fact 22 (f := .glo "cut_once") rfl)) F sc_cut_once { hK := rfl, fns := (lk_cons ((fc_level_of X G c base).mono (by decide)) (lk_cons ((fc_widest_pair X G c base).mono (by decide)) (lk_cons ((fc_put_within X G c base).mono (by decide)) lk_nil))), fnsM := lk_nil, kfns := lk2_nil, cons := lk_nil, excs := lk_nil, excF := lk_nil, xc := List.forall_mem_nil _, xk := fun _ _ e => lk_none e, xfl := fun _ _ e => lk_none e, eqs := lk_nil, iss := lk_nil, iso := List.forall_mem_nil _, cm := ⟨rfl, rfl⟩, flds := lk_nil, prps := lk_nil, prpsM := lk_nil, mths := lk_nil, mthsM := lk_nil, blt := noblt X G c } (fun _ _ _ _ _ _ us hl => match us, hl with | [_, _, _, _], _ => rfl) rfl rfl is_cut_once).io [] true
theorem fd_parts_between (c : SaysX fa fx fn K) : ∃ fd, FunD K "parts_between" "parts_between" (defArgs (top 31)) (defBody (top 31)) (defScope (top 31)) [] [] (Pth.ad K (.glo "parts_between")) fd := c.def_ 29 (d := d_parts_between) rfl
theorem fc_parts_between (X : K.In h) (G : h.Ns mainGlobals mg) (c : SaysX fa fx fn K) (base : Heap) : FnC P w K mg base (kit K) 4 "parts_between" Pg.sem_parts_between := by
  obtain ⟨fd, F⟩ := fd_parts_between c
  exact (fnC_of (T := kit K) (C := cc_parts_between) (k := 3) (He.glo_ok X G (c.fact 23 (f := .glo "parts_between") rfl)) F sc_parts_between { hK := rfl, fns := (lk_cons ((fc_cut_once X G c base).mono (by decide)) lk_nil), fnsM := lk_nil, kfns := lk2_nil, cons := lk_nil, excs := lk_nil, excF := lk_nil, xc := List.forall_mem_nil _, xk := fun _ _ e => lk_none e, xfl := fun _ _ e => lk_none e, eqs := lk_nil, iss := lk_nil, iso := List.forall_mem_nil _, cm := ⟨rfl, rfl⟩, flds := lk_nil, prps := lk_nil, prpsM := lk_nil, mths := lk_nil, mthsM := lk_nil, blt := noblt X G c } (fun _ _ _ _ _ _ us hl => match us, hl with | [_, _, _, _, _], _ => rfl) rfl rfl is_parts_between).io [] false
theorem fcM_parts_between (X : K.In h) (G : h.Ns mainGlobals mg) (c : SaysX fa fx fn K) (base : Heap) : FnC P w K mg base (kit K) 4 "parts_between" Pg.semM_parts_between := by
  obtain ⟨fd, F⟩ := fd_parts_between c
  exact (fnC_of (T := kit K) (C := cc_parts_between) (k := 3) (He.glo_ok X G (c.fact 23 (f := .glo "parts_between") rfl)) F sc_parts_between { hK := rfl, fns := (lk_cons ((fc_cut_once X G c base).mono (by decide)) lk_nil), fnsM := lk_nil, kfns := lk2_nil, cons := lk_nil, excs := lk_nil, excF := lk_nil, xc := List.forall_mem_nil _, xk := fun _ _ e => lk_none e, xfl := fun _ _ e => lk_none e, eqs := lk_nil, iss := lk_nil, iso := List.forall_mem_nil _, cm := ⟨rfl, rfl⟩, flds := lk_nil, prps := lk_nil, prpsM := lk_nil, mths := lk_nil, mthsM := lk_nil, blt := noblt X G c } (fun _ _ _ _ _ _ us hl => match us, hl with | [_, _, _, _, _], _ => rfl) rfl rfl is_parts_between).io [] true
theorem fd_part_ends (c : SaysX fa fx fn K) : ∃ fd, FunD K "part_ends" "part_ends" (defArgs (top 33)) (defBody (top 33)) (defScope (top 33)) [] [] (Pth.ad K (.glo "part_ends")) fd := c.def_ 30 (d := d_part_ends) rfl
theorem fc_part_ends (X : K.In h) (G : h.Ns mainGlobals mg) (c : SaysX fa fx fn K) (base : Heap) : FnC P w K mg base (kit K) 1 "part_ends" Pg.sem_part_ends := by
  obtain ⟨fd, F⟩ := fd_part_ends c
  exact (fnC_of (T := kit K) (C := cc_part_ends) (k := 0) (He.glo_ok X G (c.fact 24 (f := .glo "part_ends") rfl)) F sc_part_ends { hK := rfl, fns := lk_nil, fnsM := lk_nil, kfns := lk2_nil, cons := lk_nil, excs := lk_nil, excF := lk_nil, xc := List.forall_mem_nil _, xk := fun _ _ e => lk_none e, xfl := fun _ _ e => lk_none e, eqs := lk_nil, iss := lk_nil, iso := List.forall_mem_nil _, cm := ⟨rfl, rfl⟩, flds := lk_nil, prps := lk_nil, prpsM := lk_nil, mths := lk_nil, mthsM := lk_nil, blt := noblt X G c } (fun _ _ _ _ _ _ us hl => match us, hl with | [_, _], _ => rfl) rfl rfl is_part_ends).io [] false
theorem fcM_part_ends (X : K.In h) (G : h.Ns mainGlobals mg) (c : SaysX fa fx fn K) (base : Heap) : FnC P w K mg base (kit K) 1 "part_ends" Pg.semM_part_ends := by
  obtain ⟨fd, F⟩ := fd_part_ends c
  exact (fnC_of (T := kit K) (C := cc_part_ends) (k := 0) (He.glo_ok X G (c.fact 24 (f := .glo "part_ends") rfl)) F sc_part_ends { hK := rfl, fns := lk_nil, fnsM := lk_nil, kfns := lk2_nil, cons := lk_nil, excs := lk_nil, excF := lk_nil, xc := List.forall_mem_nil _, xk := fun _ _ e => lk_none e, xfl := fun _ _ e => lk_none e, eqs := lk_nil, iss := lk_nil, iso := List.forall_mem_nil _, cm := ⟨rfl, rfl⟩, flds := lk_nil, prps := lk_nil, prpsM := lk_nil, mths := lk_nil, mthsM := lk_nil, blt := noblt X G c } (fun _ _ _ _ _ _ us hl => match us, hl with | [_, _], _ => rfl) rfl rfl is_part_ends).io [] true
theorem fd_band_of (c : SaysX fa fx fn K) : ∃ fd, FunD K "band_of" "band_of" (defArgs (top 32)) (defBody (top 32)) (defScope (top 32)) [] [] (Pth.ad K (.glo "band_of")) fd := c.def_ 31 (d := d_band_of) rfl
theorem fc_band_of (X : K.In h) (G : h.Ns mainGlobals mg) (c : SaysX fa fx fn K) (base : Heap) : FnC P w K mg base (kit K) 2 "band_of" Pg.sem_band_of := by
  obtain ⟨fd, F⟩ := fd_band_of c
  exact (fnC_of (T := kit K) (C := cc_band_of) (k := 1) (He.glo_ok X G (c.fact 25 (f := .glo "band_of") rfl)) F sc_band_of { hK := rfl, fns := (lk_cons ((fc_put_within X G c base).mono (by decide)) (lk_cons ((fc_add_all X G c base).mono (by decide)) lk_nil)), fnsM := lk_nil, kfns := lk2_nil, cons := lk_nil, excs := lk_nil, excF := lk_nil, xc := List.forall_mem_nil _, xk := fun _ _ e => lk_none e, xfl := fun _ _ e => lk_none e, eqs := lk_nil, iss := lk_nil, iso := List.forall_mem_nil _, cm := ⟨rfl, rfl⟩, flds := lk_nil, prps := lk_nil, prpsM := lk_nil, mths := lk_nil, mthsM := lk_nil, blt := noblt X G c } (fun _ _ _ _ _ _ us hl => match us, hl with | [_, _, _], _ => rfl) rfl rfl is_band_of).io [] false
theorem fcM_band_of (X : K.In h) (G : h.Ns mainGlobals mg) (c : SaysX fa fx fn K) (base : Heap) : FnC P w K mg base (kit K) 2 "band_of" Pg.semM_band_of := by
  obtain ⟨fd, F⟩ := fd_band_of c
  exact (fnC_of (T := kit K) (C := cc_band_of) (k := 1) (He.glo_ok X G (c.fact 25 (f := .glo "band_of") rfl)) F sc_band_of { hK := rfl, fns := (lk_cons ((fc_put_within X G c base).mono (by decide)) (lk_cons ((fc_add_all X G c base).mono (by decide)) lk_nil)), fnsM := lk_nil, kfns := lk2_nil, cons := lk_nil, excs := lk_nil, excF := lk_nil, xc := List.forall_mem_nil _, xk := fun _ _ e => lk_none e, xfl := fun _ _ e => lk_none e, eqs := lk_nil, iss := lk_nil, iso := List.forall_mem_nil _, cm := ⟨rfl, rfl⟩, flds := lk_nil, prps := lk_nil, prpsM := lk_nil, mths := lk_nil, mthsM := lk_nil, blt := noblt X G c } (fun _ _ _ _ _ _ us hl => match us, hl with | [_, _, _], _ => rfl) rfl rfl is_band_of).io [] true
theorem fd_sums_between (c : SaysX fa fx fn K) : ∃ fd, FunD K "sums_between" "sums_between" (defArgs (top 34)) (defBody (top 34)) (defScope (top 34)) [] [] (Pth.ad K (.glo "sums_between")) fd := c.def_ 32 (d := d_sums_between) rfl
theorem fc_sums_between (X : K.In h) (G : h.Ns mainGlobals mg) (c : SaysX fa fx fn K) (base : Heap) : FnC P w K mg base (kit K) 5 "sums_between" Pg.sem_sums_between := by
  obtain ⟨fd, F⟩ := fd_sums_between c
  exact (fnC_of (T := kit K) (C := cc_sums_between) (k := 4) (He.glo_ok X G (c.fact 26 (f := .glo "sums_between") rfl)) F sc_sums_between { hK := rfl, fns := (lk_cons ((fc_parts_between X G c base).mono (by decide)) (lk_cons ((fc_part_ends X G c base).mono (by decide)) (lk_cons ((fc_band_of X G c base).mono (by decide)) lk_nil))), fnsM := lk_nil, kfns := lk2_nil, cons := lk_nil, excs := lk_nil, excF := lk_nil, xc := List.forall_mem_nil _, xk := fun _ _ e => lk_none e, xfl := fun _ _ e => lk_none e, eqs := lk_nil, iss := lk_nil, iso := List.forall_mem_nil _, cm := ⟨rfl, rfl⟩, flds := lk_nil, prps := lk_nil, prpsM := lk_nil, mths := lk_nil, mthsM := lk_nil, blt := noblt X G c } (fun _ _ _ _ _ _ us hl => match us, hl with | [_, _, _, _, _, _], _ => rfl) rfl rfl is_sums_between).io [] false
theorem fcM_sums_between (X : K.In h) (G : h.Ns mainGlobals mg) (c : SaysX fa fx fn K) (base : Heap) : FnC P w K mg base (kit K) 5 "sums_between" Pg.semM_sums_between := by
  obtain ⟨fd, F⟩ := fd_sums_between c
  exact (fnC_of (T := kit K) (C := cc_sums_between) (k := 4) (He.glo_ok X G (c.fact 26 (f := .glo "sums_between") rfl)) F sc_sums_between { hK := rfl, fns := (lk_cons ((fc_parts_between X G c base).mono (by decide)) (lk_cons ((fc_part_ends X G c base).mono (by decide)) (lk_cons ((fc_band_of X G c base).mono (by decide)) lk_nil))), fnsM := lk_nil, kfns := lk2_nil, cons := lk_nil, excs := lk_nil, excF := lk_nil, xc := List.forall_mem_nil _, xk := fun _ _ e => lk_none e, xfl := fun _ _ e => lk_none e, eqs := lk_nil, iss := lk_nil, iso := List.forall_mem_nil _, cm := ⟨rfl, rfl⟩, flds := lk_nil, prps := lk_nil, prpsM := lk_nil, mths := lk_nil, mthsM := lk_nil, blt := noblt X G c } (fun _ _ _ _ _ _ us hl => match us, hl with | [_, _, _, _, _, _], _ => rfl) rfl rfl is_sums_between).io [] true
theorem fd_bounds_of (c : SaysX fa fx fn K) : ∃ fd, FunD K "bounds_of" "bounds_of" (defArgs (top 26)) (defBody (top 26)) (defScope (top 26)) [] [] (Pth.ad K (.glo "bounds_of")) fd := c.def_ 33 (d := d_bounds_of) rfl
theorem fc_bounds_of (X : K.In h) (G : h.Ns mainGlobals mg) (c : SaysX fa fx fn K) (base : Heap) : FnC P w K mg base (kit K) 3 "bounds_of" Pg.sem_bounds_of := by
  obtain ⟨fd, F⟩ := fd_bounds_of c
  exact (fnC_of (T := kit K) (C := cc_bounds_of) (k := 2) (He.glo_ok X G (c.fact 27 (f := .glo "bounds_of") rfl)) F sc_bounds_of { hK := rfl, fns := lk_nil, fnsM := lk_nil, kfns := lk2_nil, cons := lk_nil, excs := lk_nil, excF := lk_nil, xc := List.forall_mem_nil _, xk := fun _ _ e => lk_none e, xfl := fun _ _ e => lk_none e, eqs := lk_nil, iss := lk_nil, iso := List.forall_mem_nil _, cm := ⟨rfl, rfl⟩, flds := lk_nil, prps := (lk_cons (⟨1, (by decide), pc_Plan_most X G c base⟩) (lk_cons (⟨1, (by decide), pc_Plan_least X G c base⟩) (lk_cons (⟨1, (by decide), pc_Plan_high X G c base⟩) (lk_cons (⟨1, (by decide), pc_Plan_low X G c base⟩) lk_nil)))), prpsM := lk_nil, mths := lk_nil, mthsM := lk_nil, blt := noblt X G c } (fun _ _ _ _ _ _ us hl => match us, hl with | [_], _ => rfl) rfl rfl is_bounds_of).io [] false
theorem fcM_bounds_of (X : K.In h) (G : h.Ns mainGlobals mg) (c : SaysX fa fx fn K) (base : Heap) : FnC P w K mg base (kit K) 3 "bounds_of" Pg.semM_bounds_of := by
  obtain ⟨fd, F⟩ := fd_bounds_of c
  exact (fnC_of (T := kit K) (C := cc_bounds_of) (k := 2) (He.glo_ok X G (c.fact 27 (f := .glo "bounds_of") rfl)) F sc_bounds_of { hK := rfl, fns := lk_nil, fnsM := lk_nil, kfns := lk2_nil, cons := lk_nil, excs := lk_nil, excF := lk_nil, xc := List.forall_mem_nil _, xk := fun _ _ e => lk_none e, xfl := fun _ _ e => lk_none e, eqs := lk_nil, iss := lk_nil, iso := List.forall_mem_nil _, cm := ⟨rfl, rfl⟩, flds := lk_nil, prps := (lk_cons (⟨1, (by decide), pc_Plan_most X G c base⟩) (lk_cons (⟨1, (by decide), pc_Plan_least X G c base⟩) (lk_cons (⟨1, (by decide), pc_Plan_high X G c base⟩) (lk_cons (⟨1, (by decide), pc_Plan_low X G c base⟩) lk_nil)))), prpsM := lk_nil, mths := lk_nil, mthsM := lk_nil, blt := noblt X G c } (fun _ _ _ _ _ _ us hl => match us, hl with | [_], _ => rfl) rfl rfl is_bounds_of).io [] true
theorem fd_Plan_total (c : SaysX fa fx fn K) : ∃ fd, FunD K "total" "Plan.total" (defArgs (cm 18 6)) (defBody (cm 18 6)) (defScope (cm 18 6)) [] [] (Pth.ad K (.get "Plan" "total")) fd := c.def_ 34 (d := d_Plan_total) rfl
theorem pc_Plan_total (X : K.In h) (G : h.Ns mainGlobals mg) (c : SaysX fa fx fn K) (base : Heap) : PrpC P w K mg base (kit K) 1 "total" 13 Pg.sem_Plan_total := by
  obtain ⟨fd, F⟩ := fd_Plan_total c
  exact (prpC_of (T := kit K) (C := cc_Plan_total) (k := 0) (c := 13) (cls_Plan c) (prop_ok (c.fxt 70 (f := .prop "Plan" "total") rfl)) F sc_Plan_total { hK := rfl, fns := lk_nil, fnsM := lk_nil, kfns := lk2_nil, cons := lk_nil, excs := lk_nil, excF := lk_nil, xc := List.forall_mem_nil _, xk := fun _ _ e => lk_none e, xfl := fun _ _ e => lk_none e, eqs := lk_nil, iss := lk_nil, iso := List.forall_mem_nil _, cm := ⟨rfl, rfl⟩, flds := (lk_cons (fld_kept_low c) lk_nil), prps := lk_nil, prpsM := lk_nil, mths := lk_nil, mthsM := lk_nil, blt := noblt X G c } (fun _ _ _ _ _ _ us hl => match us, hl with | [_], _ => rfl) rfl rfl is_Plan_total).io [] false
theorem pcM_Plan_total (X : K.In h) (G : h.Ns mainGlobals mg) (c : SaysX fa fx fn K) (base : Heap) : PrpC P w K mg base (kit K) 1 "total" 13 Pg.semM_Plan_total := by
  obtain ⟨fd, F⟩ := fd_Plan_total c
  exact (prpC_of (T := kit K) (C := cc_Plan_total) (k := 0) (c := 13) (cls_Plan c) (prop_ok (c.fxt 70 (f := .prop "Plan" "total") rfl)) F sc_Plan_total { hK := rfl, fns := lk_nil, fnsM := lk_nil, kfns := lk2_nil, cons := lk_nil, excs := lk_nil, excF := lk_nil, xc := List.forall_mem_nil _, xk := fun _ _ e => lk_none e, xfl := fun _ _ e => lk_none e, eqs := lk_nil, iss := lk_nil, iso := List.forall_mem_nil _, cm := ⟨rfl, rfl⟩, flds := (lk_cons (fld_kept_low c) lk_nil), prps := lk_nil, prpsM := lk_nil, mths := lk_nil, mthsM := lk_nil, blt := noblt X G c } (fun _ _ _ _ _ _ us hl => match us, hl with | [_], _ => rfl) rfl rfl is_Plan_total).io [] true
theorem fd_best_sums (c : SaysX fa fx fn K) : ∃ fd, FunD K "best_sums" "best_sums" (defArgs (top 35)) (defBody (top 35)) (defScope (top 35)) [] [] (Pth.ad K (.glo "best_sums")) fd := c.def_ 35 (d := d_best_sums) rfl
theorem fc_best_sums (X : K.In h) (G : h.Ns mainGlobals mg) (c : SaysX fa fx fn K) (base : Heap) : FnC P w K mg base (kit K) 6 "best_sums" Pg.sem_best_sums := by
  obtain ⟨fd, F⟩ := fd_best_sums c
  exact (fnC_of (T := kit K) (C := cc_best_sums) (k := 5) (He.glo_ok X G (c.fact 28 (f := .glo "best_sums") rfl)) F sc_best_sums { hK := rfl, fns := (lk_cons ((fc_sums_between X G c base).mono (by decide)) (lk_cons ((fc_bounds_of X G c base).mono (by decide)) lk_nil)), fnsM := lk_nil, kfns := lk2_nil, cons := lk_nil, excs := lk_nil, excF := lk_nil, xc := List.forall_mem_nil _, xk := fun _ _ e => lk_none e, xfl := fun _ _ e => lk_none e, eqs := lk_nil, iss := lk_nil, iso := List.forall_mem_nil _, cm := ⟨rfl, rfl⟩, flds := lk_nil, prps := (lk_cons (⟨1, (by decide), pc_Plan_total X G c base⟩) (lk_cons (⟨1, (by decide), pc_Plan_times X G c base⟩) lk_nil)), prpsM := lk_nil, mths := lk_nil, mthsM := lk_nil, blt := noblt X G c } (fun _ _ _ _ _ _ us hl => match us, hl with | [_, _], _ => rfl) rfl rfl is_best_sums).io [] false
theorem fcM_best_sums (X : K.In h) (G : h.Ns mainGlobals mg) (c : SaysX fa fx fn K) (base : Heap) : FnC P w K mg base (kit K) 6 "best_sums" Pg.semM_best_sums := by
  obtain ⟨fd, F⟩ := fd_best_sums c
  exact (fnC_of (T := kit K) (C := cc_best_sums) (k := 5) (He.glo_ok X G (c.fact 28 (f := .glo "best_sums") rfl)) F sc_best_sums { hK := rfl, fns := (lk_cons ((fc_sums_between X G c base).mono (by decide)) (lk_cons ((fc_bounds_of X G c base).mono (by decide)) lk_nil)), fnsM := lk_nil, kfns := lk2_nil, cons := lk_nil, excs := lk_nil, excF := lk_nil, xc := List.forall_mem_nil _, xk := fun _ _ e => lk_none e, xfl := fun _ _ e => lk_none e, eqs := lk_nil, iss := lk_nil, iso := List.forall_mem_nil _, cm := ⟨rfl, rfl⟩, flds := lk_nil, prps := (lk_cons (⟨1, (by decide), pc_Plan_total X G c base⟩) (lk_cons (⟨1, (by decide), pc_Plan_times X G c base⟩) lk_nil)), prpsM := lk_nil, mths := lk_nil, mthsM := lk_nil, blt := noblt X G c } (fun _ _ _ _ _ _ us hl => match us, hl with | [_, _], _ => rfl) rfl rfl is_best_sums).io [] true
theorem fd_best_row (c : SaysX fa fx fn K) : ∃ fd, FunD K "best_row" "best_row" (defArgs (top 36)) (defBody (top 36)) (defScope (top 36)) [] [] (Pth.ad K (.glo "best_row")) fd := c.def_ 36 (d := d_best_row) rfl
theorem fc_best_row (X : K.In h) (G : h.Ns mainGlobals mg) (c : SaysX fa fx fn K) (base : Heap) : FnC P w K mg base (kit K) 7 "best_row" Pg.sem_best_row := by
  obtain ⟨fd, F⟩ := fd_best_row c
  exact (fnC_of (T := kit K) (C := cc_best_row) (k := 6) (He.glo_ok X G (c.fact 29 (f := .glo "best_row") rfl)) F sc_best_row { hK := rfl, fns := (lk_cons ((fc_need_rows X G c base).mono (by decide)) (lk_cons ((fc_entries_from X G c base).mono (by decide)) (lk_cons ((fc_best_sums X G c base).mono (by decide)) lk_nil))), fnsM := lk_nil, kfns := lk2_nil, cons := lk_nil, excs := lk_nil, excF := lk_nil, xc := List.forall_mem_nil _, xk := fun _ _ e => lk_none e, xfl := fun _ _ e => lk_none e, eqs := lk_nil, iss := lk_nil, iso := List.forall_mem_nil _, cm := ⟨rfl, rfl⟩, flds := lk_nil, prps := lk_nil, prpsM := lk_nil, mths := lk_nil, mthsM := lk_nil, blt := noblt X G c } (fun _ _ _ _ _ _ us hl => match us, hl with | [_], _ => rfl) rfl rfl is_best_row).io [] false
theorem fcM_best_row (X : K.In h) (G : h.Ns mainGlobals mg) (c : SaysX fa fx fn K) (base : Heap) : FnC P w K mg base (kit K) 7 "best_row" Pg.semM_best_row := by
  obtain ⟨fd, F⟩ := fd_best_row c
  exact (fnC_of (T := kit K) (C := cc_best_row) (k := 6) (He.glo_ok X G (c.fact 29 (f := .glo "best_row") rfl)) F sc_best_row { hK := rfl, fns := (lk_cons ((fc_need_rows X G c base).mono (by decide)) (lk_cons ((fc_entries_from X G c base).mono (by decide)) (lk_cons ((fc_best_sums X G c base).mono (by decide)) lk_nil))), fnsM := lk_nil, kfns := lk2_nil, cons := lk_nil, excs := lk_nil, excF := lk_nil, xc := List.forall_mem_nil _, xk := fun _ _ e => lk_none e, xfl := fun _ _ e => lk_none e, eqs := lk_nil, iss := lk_nil, iso := List.forall_mem_nil _, cm := ⟨rfl, rfl⟩, flds := lk_nil, prps := lk_nil, prpsM := lk_nil, mths := lk_nil, mthsM := lk_nil, blt := noblt X G c } (fun _ _ _ _ _ _ us hl => match us, hl with | [_], _ => rfl) rfl rfl is_best_row).io [] true
theorem fd_free_plan (c : SaysX fa fx fn K) : ∃ fd, FunD K "free_plan" "free_plan" (defArgs (top 50)) (defBody (top 50)) (defScope (top 50)) [] [] (Pth.ad K (.glo "free_plan")) fd := c.def_ 37 (d := d_free_plan) rfl
theorem fc_free_plan (X : K.In h) (G : h.Ns mainGlobals mg) (c : SaysX fa fx fn K) (base : Heap) : FnC P w K mg base (kit K) 6 "free_plan" Pg.sem_free_plan := by
  obtain ⟨fd, F⟩ := fd_free_plan c
  exact (fnC_of (T := kit K) (C := cc_free_plan) (k := 5) (He.glo_ok X G (c.fact 30 (f := .glo "free_plan") rfl)) F sc_free_plan { hK := rfl, fns := (lk_cons ((fc_Plan_init X G c base).mono (by decide)) lk_nil), fnsM := lk_nil, kfns := lk2_nil, cons := lk_nil, excs := lk_nil, excF := lk_nil, xc := List.forall_mem_nil _, xk := fun _ _ e => lk_none e, xfl := fun _ _ e => lk_none e, eqs := lk_nil, iss := lk_nil, iso := List.forall_mem_nil _, cm := ⟨rfl, rfl⟩, flds := lk_nil, prps := lk_nil, prpsM := lk_nil, mths := lk_nil, mthsM := lk_nil, blt := noblt X G c } (fun _ _ _ _ _ _ us hl => match us, hl with | [_, _], _ => rfl) rfl rfl is_free_plan).io [] false
theorem fcM_free_plan (X : K.In h) (G : h.Ns mainGlobals mg) (c : SaysX fa fx fn K) (base : Heap) : FnC P w K mg base (kit K) 6 "free_plan" Pg.semM_free_plan := by
  obtain ⟨fd, F⟩ := fd_free_plan c
  exact (fnC_of (T := kit K) (C := cc_free_plan) (k := 5) (He.glo_ok X G (c.fact 30 (f := .glo "free_plan") rfl)) F sc_free_plan { hK := rfl, fns := (lk_cons ((fc_Plan_init X G c base).mono (by decide)) lk_nil), fnsM := lk_nil, kfns := lk2_nil, cons := lk_nil, excs := lk_nil, excF := lk_nil, xc := List.forall_mem_nil _, xk := fun _ _ e => lk_none e, xfl := fun _ _ e => lk_none e, eqs := lk_nil, iss := lk_nil, iso := List.forall_mem_nil _, cm := ⟨rfl, rfl⟩, flds := lk_nil, prps := lk_nil, prpsM := lk_nil, mths := lk_nil, mthsM := lk_nil, blt := noblt X G c } (fun _ _ _ _ _ _ us hl => match us, hl with | [_, _], _ => rfl) rfl rfl is_free_plan).io [] true
theorem fd_price_of (c : SaysX fa fx fn K) : ∃ fd, FunD K "price_of" "price_of" (defArgs (top 42)) (defBody (top 42)) (defScope (top 42)) [] [] (Pth.ad K (.glo "price_of")) fd := c.def_ 38 (d := d_price_of) rfl
theorem fc_price_of (X : K.In h) (G : h.Ns mainGlobals mg) (c : SaysX fa fx fn K) (base : Heap) : FnC P w K mg base (kit K) 1 "price_of" Pg.sem_price_of := by
  obtain ⟨fd, F⟩ := fd_price_of c
  exact (fnC_of (T := kit K) (C := cc_price_of) (k := 0) (He.glo_ok X G (c.fact 31 (f := .glo "price_of") rfl)) F sc_price_of { hK := rfl, fns := lk_nil, fnsM := lk_nil, kfns := lk2_nil, cons := lk_nil, excs := lk_nil, excF := lk_nil, xc := List.forall_mem_nil _, xk := fun _ _ e => lk_none e, xfl := fun _ _ e => lk_none e, eqs := lk_nil, iss := lk_nil, iso := List.forall_mem_nil _, cm := ⟨rfl, rfl⟩, flds := lk_nil, prps := lk_nil, prpsM := lk_nil, mths := lk_nil, mthsM := lk_nil, blt := noblt X G c } (fun _ _ _ _ _ _ us hl => match us, hl with | [_, _], _ => rfl) rfl rfl is_price_of).io [] false
theorem fcM_price_of (X : K.In h) (G : h.Ns mainGlobals mg) (c : SaysX fa fx fn K) (base : Heap) : FnC P w K mg base (kit K) 1 "price_of" Pg.semM_price_of := by
  obtain ⟨fd, F⟩ := fd_price_of c
  exact (fnC_of (T := kit K) (C := cc_price_of) (k := 0) (He.glo_ok X G (c.fact 31 (f := .glo "price_of") rfl)) F sc_price_of { hK := rfl, fns := lk_nil, fnsM := lk_nil, kfns := lk2_nil, cons := lk_nil, excs := lk_nil, excF := lk_nil, xc := List.forall_mem_nil _, xk := fun _ _ e => lk_none e, xfl := fun _ _ e => lk_none e, eqs := lk_nil, iss := lk_nil, iso := List.forall_mem_nil _, cm := ⟨rfl, rfl⟩, flds := lk_nil, prps := lk_nil, prpsM := lk_nil, mths := lk_nil, mthsM := lk_nil, blt := noblt X G c } (fun _ _ _ _ _ _ us hl => match us, hl with | [_, _], _ => rfl) rfl rfl is_price_of).io [] true
theorem fd_gain (c : SaysX fa fx fn K) : ∃ fd, FunD K "gain" "gain" (defArgs (top 51)) (defBody (top 51)) (defScope (top 51)) [] [] (Pth.ad K (.glo "gain")) fd := c.def_ 39 (d := d_gain) rfl
theorem fc_gain (X : K.In h) (G : h.Ns mainGlobals mg) (c : SaysX fa fx fn K) (base : Heap) : FnC P w K mg base (kit K) 8 "gain" Pg.sem_gain := by
  obtain ⟨fd, F⟩ := fd_gain c
  exact (fnC_of (T := kit K) (C := cc_gain) (k := 7) (He.glo_ok X G (c.fact 32 (f := .glo "gain") rfl)) F sc_gain { hK := rfl, fns := (lk_cons ((fc_need_streams X G c base).mono (by decide)) (lk_cons ((fc_need_price X G c base).mono (by decide)) (lk_cons ((fc_added X G c base).mono (by decide)) (lk_cons ((fc_best_row X G c base).mono (by decide)) (lk_cons ((fc_free_plan X G c base).mono (by decide)) (lk_cons ((fc_price_of X G c base).mono (by decide)) lk_nil)))))), fnsM := lk_nil, kfns := lk2_nil, cons := lk_nil, excs := lk_nil, excF := lk_nil, xc := List.forall_mem_nil _, xk := fun _ _ e => lk_none e, xfl := fun _ _ e => lk_none e, eqs := lk_nil, iss := lk_nil, iso := List.forall_mem_nil _, cm := ⟨rfl, rfl⟩, flds := lk_nil, prps := lk_nil, prpsM := lk_nil, mths := lk_nil, mthsM := lk_nil, blt := noblt X G c } (fun _ _ _ _ _ _ us hl => match us, hl with | [_, _], _ => rfl) rfl rfl is_gain).io [] false
theorem fcM_gain (X : K.In h) (G : h.Ns mainGlobals mg) (c : SaysX fa fx fn K) (base : Heap) : FnC P w K mg base (kit K) 8 "gain" Pg.semM_gain := by
  obtain ⟨fd, F⟩ := fd_gain c
  exact (fnC_of (T := kit K) (C := cc_gain) (k := 7) (He.glo_ok X G (c.fact 32 (f := .glo "gain") rfl)) F sc_gain { hK := rfl, fns := (lk_cons ((fc_need_streams X G c base).mono (by decide)) (lk_cons ((fc_need_price X G c base).mono (by decide)) (lk_cons ((fc_added X G c base).mono (by decide)) (lk_cons ((fc_best_row X G c base).mono (by decide)) (lk_cons ((fc_free_plan X G c base).mono (by decide)) (lk_cons ((fc_price_of X G c base).mono (by decide)) lk_nil)))))), fnsM := lk_nil, kfns := lk2_nil, cons := lk_nil, excs := lk_nil, excF := lk_nil, xc := List.forall_mem_nil _, xk := fun _ _ e => lk_none e, xfl := fun _ _ e => lk_none e, eqs := lk_nil, iss := lk_nil, iso := List.forall_mem_nil _, cm := ⟨rfl, rfl⟩, flds := lk_nil, prps := lk_nil, prpsM := lk_nil, mths := lk_nil, mthsM := lk_nil, blt := noblt X G c } (fun _ _ _ _ _ _ us hl => match us, hl with | [_, _], _ => rfl) rfl rfl is_gain).io [] true
theorem fd_law_asked (c : SaysX fa fx fn K) : ∃ fd, FunD K "_law_asked" "_law_asked" (defArgs (top 57)) (defBody (top 57)) (defScope (top 57)) [] [] (Pth.ad K (.glo "_law_asked")) fd := c.def_ 40 (d := d_law_asked) rfl
theorem fc_law_asked (X : K.In h) (G : h.Ns mainGlobals mg) (c : SaysX fa fx fn K) (base : Heap) : FnC P w K mg base (kit K) 9 "_law_asked" Pg.sem_law_asked := by
  obtain ⟨fd, F⟩ := fd_law_asked c
  exact (fnC_of (T := kit K) (C := cc_law_asked) (k := 8) (He.glo_ok X G (c.fact 33 (f := .glo "_law_asked") rfl)) F sc_law_asked { hK := rfl, fns := (lk_cons ((fc_joint X G c base).mono (by decide)) (lk_cons ((fc_shares X G c base).mono (by decide)) (lk_cons ((fc_gain X G c base).mono (by decide)) lk_nil))), fnsM := lk_nil, kfns := lk2_nil, cons := lk_nil, excs := lk_nil, excF := lk_nil, xc := xcs_ok X G c, xk := (lk_cons (hd_EvenError X G c) (lk_cons (hd_InvalidPlan X G c) (lk_cons (hd_InvalidRow X G c) (lk_cons (hd_InvalidTime X G c) (lk_cons (hd_InvalidNumber X G c) (lk_cons (hd_InvalidPrice X G c) (lk_cons (hd_InvalidStreams X G c) (lk_cons (hd_NoRow X G c) lk_nil)))))))), xfl := (lk_cons (⟨rfl, see_NoRow X G c⟩) (lk_cons (⟨rfl, see_NoRow X G c⟩) lk_nil)), eqs := lk_nil, iss := lk_nil, iso := List.forall_mem_nil _, cm := ⟨rfl, rfl⟩, flds := lk_nil, prps := lk_nil, prpsM := lk_nil, mths := lk_nil, mthsM := lk_nil, blt := noblt X G c } (fun _ _ _ _ _ _ us hl => match us, hl with | [_, _, _, _], _ => rfl) rfl rfl is_law_asked).io [] false
theorem fcM_law_asked (X : K.In h) (G : h.Ns mainGlobals mg) (c : SaysX fa fx fn K) (base : Heap) : FnC P w K mg base (kit K) 9 "_law_asked" Pg.semM_law_asked := by
  obtain ⟨fd, F⟩ := fd_law_asked c
  exact (fnC_of (T := kit K) (C := cc_law_asked) (k := 8) (He.glo_ok X G (c.fact 33 (f := .glo "_law_asked") rfl)) F sc_law_asked { hK := rfl, fns := (lk_cons ((fc_joint X G c base).mono (by decide)) (lk_cons ((fc_shares X G c base).mono (by decide)) (lk_cons ((fc_gain X G c base).mono (by decide)) lk_nil))), fnsM := lk_nil, kfns := lk2_nil, cons := lk_nil, excs := lk_nil, excF := lk_nil, xc := xcs_ok X G c, xk := (lk_cons (hd_EvenError X G c) (lk_cons (hd_InvalidPlan X G c) (lk_cons (hd_InvalidRow X G c) (lk_cons (hd_InvalidTime X G c) (lk_cons (hd_InvalidNumber X G c) (lk_cons (hd_InvalidPrice X G c) (lk_cons (hd_InvalidStreams X G c) (lk_cons (hd_NoRow X G c) lk_nil)))))))), xfl := (lk_cons (⟨rfl, see_NoRow X G c⟩) (lk_cons (⟨rfl, see_NoRow X G c⟩) lk_nil)), eqs := lk_nil, iss := lk_nil, iso := List.forall_mem_nil _, cm := ⟨rfl, rfl⟩, flds := lk_nil, prps := lk_nil, prpsM := lk_nil, mths := lk_nil, mthsM := lk_nil, blt := noblt X G c } (fun _ _ _ _ _ _ us hl => match us, hl with | [_, _, _, _], _ => rfl) rfl rfl is_law_asked).io [] true
theorem fd_law_stirred (c : SaysX fa fx fn K) : ∃ fd, FunD K "_law_stirred" "_law_stirred" (defArgs (top 54)) (defBody (top 54)) (defScope (top 54)) [] [] (Pth.ad K (.glo "_law_stirred")) fd := c.def_ 41 (d := d_law_stirred) rfl
theorem fc_law_stirred (X : K.In h) (G : h.Ns mainGlobals mg) (c : SaysX fa fx fn K) (base : Heap) : FnC P w K mg base (kit K) 1 "_law_stirred" Pg.sem_law_stirred := by
  obtain ⟨fd, F⟩ := fd_law_stirred c
  exact (fnC_of (T := kit K) (C := cc_law_stirred) (k := 0) (He.glo_ok X G (c.fact 34 (f := .glo "_law_stirred") rfl)) F sc_law_stirred { hK := rfl, fns := lk_nil, fnsM := lk_nil, kfns := lk2_nil, cons := lk_nil, excs := lk_nil, excF := lk_nil, xc := List.forall_mem_nil _, xk := fun _ _ e => lk_none e, xfl := fun _ _ e => lk_none e, eqs := lk_nil, iss := lk_nil, iso := List.forall_mem_nil _, cm := ⟨rfl, rfl⟩, flds := lk_nil, prps := lk_nil, prpsM := lk_nil, mths := lk_nil, mthsM := lk_nil, blt := noblt X G c } (fun _ _ _ _ _ _ us hl => match us, hl with | [_, _], _ => rfl) rfl rfl is_law_stirred).io [true] false
theorem fcM_law_stirred (X : K.In h) (G : h.Ns mainGlobals mg) (c : SaysX fa fx fn K) (base : Heap) : FnC P w K mg base (kit K) 1 "_law_stirred" Pg.semM_law_stirred := by
  obtain ⟨fd, F⟩ := fd_law_stirred c
  exact (fnC_of (T := kit K) (C := cc_law_stirred) (k := 0) (He.glo_ok X G (c.fact 34 (f := .glo "_law_stirred") rfl)) F sc_law_stirred { hK := rfl, fns := lk_nil, fnsM := lk_nil, kfns := lk2_nil, cons := lk_nil, excs := lk_nil, excF := lk_nil, xc := List.forall_mem_nil _, xk := fun _ _ e => lk_none e, xfl := fun _ _ e => lk_none e, eqs := lk_nil, iss := lk_nil, iso := List.forall_mem_nil _, cm := ⟨rfl, rfl⟩, flds := lk_nil, prps := lk_nil, prpsM := lk_nil, mths := lk_nil, mthsM := lk_nil, blt := noblt X G c } (fun _ _ _ _ _ _ us hl => match us, hl with | [_, _], _ => rfl) rfl rfl is_law_stirred).io [true] true
theorem fd_law_draw (c : SaysX fa fx fn K) : ∃ fd, FunD K "_law_draw" "_law_draw" (defArgs (top 55)) (defBody (top 55)) (defScope (top 55)) [] [] (Pth.ad K (.glo "_law_draw")) fd := c.def_ 42 (d := d_law_draw) rfl
theorem fc_law_draw (X : K.In h) (G : h.Ns mainGlobals mg) (c : SaysX fa fx fn K) (base : Heap) : FnC P w K mg base (kit K) 2 "_law_draw" Pg.sem_law_draw := by
  obtain ⟨fd, F⟩ := fd_law_draw c
  exact (fnC_of (T := kit K) (C := cc_law_draw) (k := 1) (He.glo_ok X G (c.fact 35 (f := .glo "_law_draw") rfl)) F sc_law_draw { hK := rfl, fns := (lk_cons ((fc_law_stirred X G c base).mono (by decide)) lk_nil), fnsM := lk_nil, kfns := lk2_nil, cons := lk_nil, excs := lk_nil, excF := lk_nil, xc := List.forall_mem_nil _, xk := fun _ _ e => lk_none e, xfl := fun _ _ e => lk_none e, eqs := lk_nil, iss := lk_nil, iso := List.forall_mem_nil _, cm := ⟨rfl, rfl⟩, flds := lk_nil, prps := lk_nil, prpsM := lk_nil, mths := lk_nil, mthsM := lk_nil, blt := noblt X G c } (fun _ _ _ _ _ _ us hl => match us, hl with | [_, _], _ => rfl) rfl rfl is_law_draw).io [true] false
theorem fcM_law_draw (X : K.In h) (G : h.Ns mainGlobals mg) (c : SaysX fa fx fn K) (base : Heap) : FnC P w K mg base (kit K) 2 "_law_draw" Pg.semM_law_draw := by
  obtain ⟨fd, F⟩ := fd_law_draw c
  exact (fnC_of (T := kit K) (C := cc_law_draw) (k := 1) (He.glo_ok X G (c.fact 35 (f := .glo "_law_draw") rfl)) F sc_law_draw { hK := rfl, fns := (lk_cons ((fc_law_stirred X G c base).mono (by decide)) lk_nil), fnsM := lk_nil, kfns := lk2_nil, cons := lk_nil, excs := lk_nil, excF := lk_nil, xc := List.forall_mem_nil _, xk := fun _ _ e => lk_none e, xfl := fun _ _ e => lk_none e, eqs := lk_nil, iss := lk_nil, iso := List.forall_mem_nil _, cm := ⟨rfl, rfl⟩, flds := lk_nil, prps := lk_nil, prpsM := lk_nil, mths := lk_nil, mthsM := lk_nil, blt := noblt X G c } (fun _ _ _ _ _ _ us hl => match us, hl with | [_, _], _ => rfl) rfl rfl is_law_draw).io [true] true
theorem fd_law (c : SaysX fa fx fn K) : ∃ fd, FunD K "law" "law" (defArgs (top 58)) (defBody (top 58)) (defScope (top 58)) [] [] (Pth.ad K (.glo "law")) fd := c.def_ 43 (d := d_law) rfl
theorem facts {f : Addr} (X : K.In h) (G : h.Ns mainGlobals mg) (hfa : mg ("law" : Str) = some (.ref f)) (c : SaysX fa fx fn K) :
    ∃ fd : FuncData, (∀ (s : Shared) (v : Value), BindsTo s fd ⟨[v], []⟩ [("script", v)]) ∧ ∀ base : Heap, FnOk P w K mg base (L2.CX P w) 10 f fd ["script"] (spOf (kit K) Pg.sem_law) := by
  obtain ⟨fd, F⟩ := fd_law c
  have e := hfa.symm.trans (He.glo_ok X G (c.fact 36 (f := .glo "law") rfl))
  cases e
  have b := FunD.bindsA (ps := ["script"]) F fun _ _ _ _ _ _ us hl => match us, hl with | [_], _ => rfl
  exact ⟨fd, fun s v => b s [v] rfl, fun base => (fn_data (T := kit K) (C := cc_law) (k := 9) F sc_law { hK := rfl, fns := (lk_cons ((fc_law_draw X G c base).mono (by decide)) (lk_cons ((fc_law_asked X G c base).mono (by decide)) (lk_cons ((fc_law_alike X G c base).mono (by decide)) lk_nil))), fnsM := (lk_cons ((fcM_law_bag X G c base).mono (by decide)) lk_nil), kfns := lk2_nil, cons := lk_nil, excs := lk_nil, excF := lk_nil, xc := List.forall_mem_nil _, xk := fun _ _ e => lk_none e, xfl := fun _ _ e => lk_none e, eqs := lk_nil, iss := lk_nil, iso := List.forall_mem_nil _, cm := ⟨rfl, rfl⟩, flds := lk_nil, prps := lk_nil, prpsM := lk_nil, mths := lk_nil, mthsM := lk_nil, blt := noblt X G c } rfl rfl is_law).imp fun _ _ _ _ q => io_ok q⟩
end
end K56

set_option Elab.async false
set_option linter.all false
set_option maxRecDepth 100000
set_option maxHeartbeats 0
open PySem PySem.W PyProof.Rows
theorem PySem.Challenge.cw_evenbits_k56_errors_of_streams_holds : PySem.Challenge.rw_evenbits_k56_errors_of_streams.Holds := by
  w_on; o_law
  refine HandSHeadRun.head_any (r := OpenLaw.row PySem.Challenge.rw_evenbits_k56_errors_of_streams) (q := view (OpenLaw.row PySem.Challenge.rw_evenbits_k56_errors_of_streams).prog [58]) (H := K56.hk) (ob := K56.ob) (M := 20000) (loose := K56.loose) (d := HandSHeadRun.topDef (OpenLaw.row PySem.Challenge.rw_evenbits_k56_errors_of_streams).prog 58) (kwd := []) K56.ob_eq
    (by kernel_rfl) (fun s => by kernel_rfl) K56.run (by kernel_rfl) (by kernel_rfl) (by kernel_rfl) (by rfl) (by first | assumption | decide +kernel) (by decide +kernel) ⟨rfl, rfl, rfl, rfl, rfl, by decide +kernel⟩ ?hw ?hc
  case hw => w_witness2
  case hc =>
    refine Ev.law_by (l := PySem.Challenge.rw_evenbits_k56_errors_of_streams) (n := 63) (k := 10) rfl (by decide) (by kernel_rfl) ⟨rfl, by decide, by decide⟩ ?_
    intro w mg fa h Y G hmg0
    obtain ⟨K, KX, c⟩ := Y
    have hmg : mg ("law" : PySem.Str) = some (.ref fa) := by
      have e : (HandSHeadRun.topDef (OpenLaw.row PySem.Challenge.rw_evenbits_k56_errors_of_streams).prog 58).name = ("law" : PySem.Str) := by kernel_rfl
      rw [← e]
      exact hmg0
    obtain ⟨fd, hb, hF⟩ := K56.facts (P := (PySem.Challenge.rw_evenbits_k56_errors_of_streams).prog) (w := w) KX G hmg c
    exact ⟨K, K56.kit K, fd, "script", Pg.sem_law, rfl, rfl, KX, hb, fun ns hl => K56.law_holds ns hl, fun base _ _ => hF base⟩


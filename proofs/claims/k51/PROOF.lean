import PyProof.Rows.All
import Wide.All
import OpenK.AllK
import Wide.FinOn
import HandS.ForMost
import HandS.ForExc
import HandS.CallSlots
import HandS.Wide
import HandS.Style
import HandS.IsInst
import HandS.Property
import HandS.SortInts
import PyProof.Rows.RuleB_pow
import HandS.Deep
import HandS.TupAny
import HandS.Iter
import HandS.Zip
import HandS.NoneIn
import HandS.WideBits
import HandS.More
import HandS.Star
import HandS.MakeKwOnly
import HandS.SetFor
import HandS.Strs
import HandS.Defaults
import HandS.WordsExc
import HandS.HeadHook2
import HandS.Head0
import HandS.Head1
import HandS.Head2
import HandS.HeadEnd
import HandS.HeadHook1
import HandS.Codes
import PySem.Challenge.RW_evenbits_k51_least_buffers_and_their_pie
set_option Elab.async false
set_option linter.all false
set_option maxRecDepth 100000
set_option maxHeartbeats 4000000
/-! EvA: data without a heap (D), the store of changing cells, and how they lie in the hand layer's heap. -/
namespace Ev
open PySem PySem.Spec PyProof.Rows L2

/-- data. scr: the script; ref k: the k-th cell of the store; obj c fs: an instance of the class numbered c that changes no more -/
inductive D where
  | non | bl (b : Bool) | int (i : Int) | str (s : Str) | scr (xs : List Int)
  | lst (xs : List D) | tup (xs : List D) | dct (ks : List Key) (vs : List D)
  | obj (c : Nat) (fs : List D) | ref (k : Nat)

/-- a cell of the store; frz: a list that changes no more -/
inductive Cell where
  | lst (xs : List D) | frz (xs : List D) | dct (ks : List Key) (vs : List D) | ins (c : Nat) (fs : List D) | fro (c : Nat) (fs : List D)
abbrev Store := List Cell

inductive R (α : Type) where
  | ok (a : α) (S : Store) | exc (c : Nat) (fs : List D) (S : Store) | stuck
abbrev M (α : Type) := Store → R α
def ret {α : Type} (a : α) : M α := fun S => .ok a S
def bnd {α β : Type} (m : M α) (f : α → M β) : M β := fun S => match m S with
  | .ok a S' => f a S'
  | .exc c fs S' => .exc c fs S'
  | .stuck => .stuck
def stk {α : Type} : M α := fun _ => .stuck

/-- what is fixed of the program's text: the written part, where the numbered classes stand, their fields -/
structure Kit where
  K : PySem.W.Frag
  cl : Nat → Addr
  fn : Nat → List Str

/-- the ghost: what changes no more, where the cells stand -/
structure Gh where
  H : Hp
  m : List Addr

mutual
def Rep (T : Kit) (G : Gh) : D → V → Prop
  | .non, v => v = .non
  | .bl b, v => v = .bl b
  | .int i, v => v = .int i
  | .str s, v => v = .str s
  | .scr xs, v => ∃ a, v = .ref a ∧ SqL T.K G.H a (xs.map V.int)
  | .lst ds, v => ∃ a vs, v = .ref a ∧ G.H a = some (.lst vs) ∧ Reps T G ds vs
  | .tup ds, v => ∃ a vs, v = .ref a ∧ SqT T.K G.H a vs ∧ Reps T G ds vs
  | .dct ks ds, v => ∃ a vs, v = .ref a ∧ G.H a = some (.dK (ks.zip vs)) ∧ ks.length = vs.length ∧ Reps T G ds vs
  | .obj c ds, v => ∃ a dx vs, v = .ref a ∧ G.H a = some (.ins (T.cl c) dx ((T.fn c).zip vs)) ∧ vs.length ≤ (T.fn c).length ∧ Reps T G ds vs
  | .ref k, v => ∃ a, v = .ref a ∧ G.m[k]? = some a
def Reps (T : Kit) (G : Gh) : List D → List V → Prop
  | [], vs => vs = []
  | d :: ds, vs => ∃ v r, vs = v :: r ∧ Rep T G d v ∧ Reps T G ds r
end

/-- the ghost grows -/
structure Le (G G' : Gh) : Prop where
  H : ∀ a o, G.H a = some o → G'.H a = some o
  m : ∃ t, G'.m = G.m ++ t
theorem Le.refl {G : Gh} : Le G G := ⟨fun _ _ h => h, [], by simp⟩
theorem Le.trans {G1 G2 G3 : Gh} (a : Le G1 G2) (b : Le G2 G3) : Le G1 G3 := ⟨fun x o h => b.H x o (a.H x o h), by
  obtain ⟨t, e⟩ := a.m
  obtain ⟨u, f⟩ := b.m
  exact ⟨t ++ u, by rw [f, e, List.append_assoc]⟩⟩
theorem Le.mget {G G' : Gh} (a : Le G G') {k : Nat} {x : Addr} (h : G.m[k]? = some x) : G'.m[k]? = some x := by
  obtain ⟨t, e⟩ := a.m
  rw [e]
  exact (List.getElem?_append_left (List.getElem?_eq_some_iff.mp h).1).trans h
theorem rd_le {H H' : Hp} {a : Addr} {u : HO} (e : ∀ a o, H a = some o → H' a = some o) (h : Rd H a u) : Rd H' a u := by
  rcases h with h | ⟨o, h⟩
  · exact .inl (e a _ h)
  · exact .inr ⟨o, e a _ h⟩
theorem sqL_le {K : PySem.W.Frag} {H H' : Hp} {a : Addr} {xs : List V} (e : ∀ a o, H a = some o → H' a = some o) (h : SqL K H a xs) : SqL K H' a xs := by
  rcases h with h | h
  · exact .inl (rd_le e h)
  · exact .inr h
theorem sqT_le {K : PySem.W.Frag} {H H' : Hp} {a : Addr} {xs : List V} (e : ∀ a o, H a = some o → H' a = some o) (h : SqT K H a xs) : SqT K H' a xs := by
  rcases h with h | h
  · exact .inl (rd_le e h)
  · exact .inr h

mutual
theorem Rep.le {T : Kit} {G G' : Gh} (l : Le G G') : ∀ {d : D} {v : V}, Rep T G d v → Rep T G' d v
  | .non, v, h => by simpa only [Rep] using h
  | .bl b, v, h => by simpa only [Rep] using h
  | .int i, v, h => by simpa only [Rep] using h
  | .str s, v, h => by simpa only [Rep] using h
  | .scr xs, v, h => by
    simp only [Rep] at h ⊢
    obtain ⟨a, e, q⟩ := h
    exact ⟨a, e, sqL_le l.H q⟩
  | .lst ds, v, h => by
    simp only [Rep] at h ⊢
    obtain ⟨a, vs, e, q, r⟩ := h
    exact ⟨a, vs, e, l.H _ _ q, Reps.le l r⟩
  | .tup ds, v, h => by
    simp only [Rep] at h ⊢
    obtain ⟨a, vs, e, q, r⟩ := h
    exact ⟨a, vs, e, sqT_le l.H q, Reps.le l r⟩
  | .dct ks ds, v, h => by
    simp only [Rep] at h ⊢
    obtain ⟨a, vs, e, q, z, r⟩ := h
    exact ⟨a, vs, e, l.H _ _ q, z, Reps.le l r⟩
  | .obj c ds, v, h => by
    simp only [Rep] at h ⊢
    obtain ⟨a, dx, vs, e, q, z, r⟩ := h
    exact ⟨a, dx, vs, e, l.H _ _ q, z, Reps.le l r⟩
  | .ref k, v, h => by
    simp only [Rep] at h ⊢
    obtain ⟨a, e, q⟩ := h
    exact ⟨a, e, l.mget q⟩
theorem Reps.le {T : Kit} {G G' : Gh} (l : Le G G') : ∀ {ds : List D} {vs : List V}, Reps T G ds vs → Reps T G' ds vs
  | [], vs, h => by simpa only [Reps] using h
  | d :: ds, vs, h => by
    simp only [Reps] at h ⊢
    obtain ⟨v, r, e, q, z⟩ := h
    exact ⟨v, r, e, Rep.le l q, Reps.le l z⟩
end

section
variable {T : Kit} {G : Gh}
theorem Reps.len : ∀ {ds : List D} {vs : List V}, Reps T G ds vs → ds.length = vs.length
  | [], vs, h => by simp only [Reps] at h; rw [h]; rfl
  | d :: ds, vs, h => by
    simp only [Reps] at h
    obtain ⟨v, r, rfl, _, z⟩ := h
    simp [Reps.len z]
theorem reps_nil : Reps T G [] [] := by simp only [Reps]
theorem reps_cons {d : D} {v : V} {ds : List D} {vs : List V} (h : Rep T G d v) (r : Reps T G ds vs) : Reps T G (d :: ds) (v :: vs) := by
  simp only [Reps]; exact ⟨v, vs, rfl, h, r⟩
theorem reps_app : ∀ {ds es : List D} {vs ws : List V}, Reps T G ds vs → Reps T G es ws → Reps T G (ds ++ es) (vs ++ ws)
  | [], es, vs, ws, h, k => by simp only [Reps] at h; subst h; exact k
  | d :: ds, es, vs, ws, h, k => by
    simp only [Reps] at h
    obtain ⟨v, r, rfl, q, z⟩ := h
    exact reps_cons q (reps_app z k)
theorem reps_snoc {d : D} {v : V} {ds : List D} {vs : List V} (r : Reps T G ds vs) (h : Rep T G d v) : Reps T G (ds ++ [d]) (vs ++ [v]) := reps_app r (reps_cons h reps_nil)
theorem reps_get : ∀ {ds : List D} {vs : List V} {i : Nat} {d : D}, Reps T G ds vs → ds[i]? = some d → ∃ v, vs[i]? = some v ∧ Rep T G d v
  | [], _, i, d, _, e => by simp at e
  | d' :: ds, vs, i, d, h, e => by
    simp only [Reps] at h
    obtain ⟨v, r, rfl, q, z⟩ := h
    cases i with
    | zero =>
      simp at e; subst e
      exact ⟨v, rfl, q⟩
    | succ i =>
      obtain ⟨w, h1, h2⟩ := reps_get (i := i) z (by simpa using e)
      exact ⟨w, by simpa using h1, h2⟩
theorem reps_getV : ∀ {ds : List D} {vs : List V} {i : Nat} {v : V}, Reps T G ds vs → vs[i]? = some v → ∃ d, ds[i]? = some d ∧ Rep T G d v
  | [], vs, i, v, h, e => by simp only [Reps] at h; subst h; simp at e
  | d' :: ds, vs, i, v, h, e => by
    simp only [Reps] at h
    obtain ⟨w, r, rfl, q, z⟩ := h
    cases i with
    | zero =>
      simp at e; subst e
      exact ⟨d', rfl, q⟩
    | succ i =>
      obtain ⟨w, h1, h2⟩ := reps_getV (i := i) z (by simpa using e)
      exact ⟨w, by simpa using h1, h2⟩
theorem reps_set : ∀ {ds : List D} {vs : List V} (i : Nat) {d : D} {v : V}, Reps T G ds vs → Rep T G d v → Reps T G (ds.set i d) (vs.set i v)
  | [], vs, i, d, v, h, k => by simp only [Reps] at h; subst h; exact reps_nil
  | d' :: ds, vs, i, d, v, h, k => by
    simp only [Reps] at h
    obtain ⟨w, r, rfl, q, z⟩ := h
    cases i with
    | zero => exact reps_cons k z
    | succ i => exact reps_cons q (reps_set i z k)
theorem reps_take : ∀ {ds : List D} {vs : List V} (n : Nat), Reps T G ds vs → Reps T G (ds.take n) (vs.take n)
  | [], vs, n, h => by simp only [Reps] at h; subst h; simp [Reps]
  | d :: ds, vs, n, h => by
    simp only [Reps] at h
    obtain ⟨w, r, rfl, q, z⟩ := h
    cases n with
    | zero => simp [Reps]
    | succ n => exact reps_cons q (reps_take n z)
theorem reps_drop : ∀ {ds : List D} {vs : List V} (n : Nat), Reps T G ds vs → Reps T G (ds.drop n) (vs.drop n)
  | [], vs, n, h => by simp only [Reps] at h; subst h; simp [Reps]
  | d :: ds, vs, n, h => by
    simp only [Reps] at h
    obtain ⟨w, r, rfl, q, z⟩ := h
    cases n with
    | zero => exact reps_cons q z
    | succ n => exact reps_drop n z
theorem reps_rev : ∀ {ds : List D} {vs : List V}, Reps T G ds vs → Reps T G ds.reverse vs.reverse
  | [], vs, h => by simp only [Reps] at h; subst h; simp [Reps]
  | d :: ds, vs, h => by
    simp only [Reps] at h
    obtain ⟨w, r, rfl, q, z⟩ := h
    rw [List.reverse_cons, List.reverse_cons]
    exact reps_snoc (reps_rev z) q
theorem reps_erase {ds : List D} {vs : List V} (n : Nat) (h : Reps T G ds vs) : Reps T G (ds.eraseIdx n) (vs.eraseIdx n) := by
  rw [List.eraseIdx_eq_take_drop_succ, List.eraseIdx_eq_take_drop_succ]
  exact reps_app (reps_take _ h) (reps_drop _ h)
theorem reps_ints : ∀ {xs : List Int} {vs : List V}, Reps T G (xs.map D.int) vs → vs = xs.map V.int
  | [], vs, h => by simpa only [List.map_nil, Reps] using h
  | x :: xs, vs, h => by
    simp only [List.map_cons, Reps] at h
    obtain ⟨w, r, rfl, q, z⟩ := h
    simp only [Rep] at q
    rw [q, reps_ints z]; rfl
theorem ints_reps : ∀ {xs : List Int}, Reps T G (xs.map D.int) (xs.map V.int)
  | [] => reps_nil
  | x :: xs => reps_cons (by simp only [Rep]) ints_reps
end

/-! ### the store -/
def CellRep (T : Kit) (G : Gh) (a : Addr) (H : Hp) : Cell → Prop
  | .lst ds => G.H a = none ∧ ∃ vs, H a = some (.lst vs) ∧ Reps T G ds vs
  | .frz ds => ∃ vs, G.H a = some (.lst vs) ∧ Reps T G ds vs
  | .dct ks ds => G.H a = none ∧ ∃ vs, H a = some (.dK (ks.zip vs)) ∧ ks.length = vs.length ∧ Reps T G ds vs
  | .ins c ds => G.H a = none ∧ ∃ dx vs, H a = some (.ins (T.cl c) dx ((T.fn c).zip vs)) ∧ vs.length ≤ (T.fn c).length ∧ Reps T G ds vs
  | .fro c ds => ∃ dx vs, G.H a = some (.ins (T.cl c) dx ((T.fn c).zip vs)) ∧ vs.length ≤ (T.fn c).length ∧ Reps T G ds vs

structure Held (T : Kit) (G : Gh) (S : Store) (H : Hp) : Prop where
  ext : ∀ a o, G.H a = some o → H a = some o
  len : G.m.length = S.length
  nd : G.m.Nodup
  cell : ∀ (k : Nat) (c : Cell) (a : Addr), S[k]? = some c → G.m[k]? = some a → CellRep T G a H c

/-- from one state to a later one -/
structure Step (G : Gh) (H : Hp) (G' : Gh) (H' : Hp) : Prop where
  le : Le G G'
  fr : ∀ a o, H a = some o → a ∉ G.m → H' a = some o ∧ a ∉ G'.m ∧ (G.H a = none → G'.H a = none)
theorem Step.refl {G : Gh} {H : Hp} : Step G H G H := ⟨.refl, fun _ _ h n => ⟨h, n, fun z => z⟩⟩
theorem Step.trans {G1 G2 G3 : Gh} {H1 H2 H3 : Hp} (a : Step G1 H1 G2 H2) (b : Step G2 H2 G3 H3) : Step G1 H1 G3 H3 := ⟨a.le.trans b.le, fun x o h n => by
  obtain ⟨p, q, r⟩ := a.fr x o h n
  obtain ⟨p', q', r'⟩ := b.fr x o p q
  exact ⟨p', q', fun z => r' (r z)⟩⟩

section
variable {T : Kit} {G : Gh} {S : Store} {H : Hp}
theorem Held.inm (h : Held T G S H) {k : Nat} (hk : k < S.length) : ∃ a, G.m[k]? = some a := ⟨G.m[k]'(by rw [h.len]; exact hk), List.getElem?_eq_getElem _⟩
theorem nodup_get {l : List Addr} (nd : l.Nodup) {i j : Nat} {a : Addr} (h1 : l[i]? = some a) (h2 : l[j]? = some a) : i = j := by
  obtain ⟨hi, e1⟩ := List.getElem?_eq_some_iff.mp h1
  obtain ⟨hj, e2⟩ := List.getElem?_eq_some_iff.mp h2
  exact (List.getElem_inj nd).mp (e1.trans e2.symm)
/-- the ghost of a frozen new object -/
def Gh.put (G : Gh) (p : Addr) (o : HO) : Gh := ⟨upd G.H p o, G.m⟩
theorem Gh.put_le {p : Addr} {o : HO} (h : G.H p = none) : Le G (G.put p o) := ⟨fun a u e => by
  show upd G.H p o a = some u
  rw [upd_ne (ne_of_none e h)]; exact e, [], by simp [Gh.put]⟩
theorem Held.fresh (h : Held T G S H) {p : Addr} (hp : H p = none) : G.H p = none := by
  cases e : G.H p with
  | none => rfl
  | some o => rw [h.ext p o e] at hp; cases hp
theorem CellRep.there {a : Addr} {c : Cell} (h : Held T G S H) (x : CellRep T G a H c) : ∃ o, H a = some o := by
  cases c <;> simp only [CellRep] at x
  · obtain ⟨_, vs, e, _⟩ := x; exact ⟨_, e⟩
  · obtain ⟨vs, e, _⟩ := x; exact ⟨_, h.ext _ _ e⟩
  · obtain ⟨_, vs, e, _⟩ := x; exact ⟨_, e⟩
  · obtain ⟨_, dx, vs, e, _⟩ := x; exact ⟨_, e⟩
  · obtain ⟨dx, vs, e, _⟩ := x; exact ⟨_, h.ext _ _ e⟩
theorem Held.notm (h : Held T G S H) {p : Addr} (hp : H p = none) : p ∉ G.m := fun hm => by
  obtain ⟨k, hk⟩ := List.getElem?_of_mem hm
  have hl : k < S.length := by rw [← h.len]; exact (List.getElem?_eq_some_iff.mp hk).1
  obtain ⟨o, e⟩ := (h.cell k _ p (List.getElem?_eq_getElem hl) hk).there h
  rw [e] at hp; cases hp
/-- an untouched cell stays -/
theorem CellRep.le {a : Addr} {c : Cell} {G' : Gh} {H' : Hp} (x : CellRep T G a H c) (l : Le G G') (hn : G.H a = none → G'.H a = none) (hh : G.H a = none → H' a = H a) : CellRep T G' a H' c := by
  cases c <;> simp only [CellRep] at x ⊢
  · obtain ⟨n, vs, e, r⟩ := x; exact ⟨hn n, vs, by rw [hh n]; exact e, r.le l⟩
  · obtain ⟨vs, e, r⟩ := x; exact ⟨vs, l.H _ _ e, r.le l⟩
  · obtain ⟨n, vs, e, z, r⟩ := x; exact ⟨hn n, vs, by rw [hh n]; exact e, z, r.le l⟩
  · obtain ⟨n, dx, vs, e, z, r⟩ := x; exact ⟨hn n, dx, vs, by rw [hh n]; exact e, z, r.le l⟩
  · obtain ⟨dx, vs, e, z, r⟩ := x; exact ⟨dx, vs, l.H _ _ e, z, r.le l⟩
/-- a new frozen object -/
theorem Held.new (h : Held T G S H) {p : Addr} {o : HO} (hp : H p = none) : Held T (G.put p o) S (upd H p o) ∧ Step G H (G.put p o) (upd H p o) := by
  have hG := h.fresh hp
  have l : Le G (G.put p o) := Gh.put_le hG
  have hm : ∀ {k : Nat} {a : Addr}, G.m[k]? = some a → a ≠ p := fun {k a} e z => h.notm hp (z ▸ List.mem_of_getElem? e)
  refine ⟨⟨fun a u e => ?_, h.len, h.nd, fun k c a e1 e2 => ?_⟩, l, fun a u e n => ⟨?_, n, fun z => ?_⟩⟩
  · by_cases ha : a = p
    · subst ha
      have e' : upd G.H a o a = some u := e
      rw [upd_same] at e' ⊢; exact e'
    · have e' : upd G.H p o a = some u := e
      rw [upd_ne ha] at e' ⊢; exact h.ext a u e'
  · have na := hm e2
    refine (h.cell k c a e1 e2).le l (fun z => ?_) fun z => upd_ne na
    show upd G.H p o a = none
    rw [upd_ne na]; exact z
  · rw [upd_ne (ne_of_none e hp)]; exact e
  · show upd G.H p o a = none
    rw [upd_ne (ne_of_none e hp)]; exact z
/-- an object beside -/
theorem Held.beside (h : Held T G S H) {p : Addr} {o : HO} (hp : H p = none) : Held T G S (upd H p o) ∧ Step G H G (upd H p o) := by
  have hG := h.fresh hp
  have hm : ∀ {k : Nat} {a : Addr}, G.m[k]? = some a → a ≠ p := fun {k a} e z => h.notm hp (z ▸ List.mem_of_getElem? e)
  refine ⟨⟨fun a u e => ?_, h.len, h.nd, fun k c a e1 e2 => ?_⟩, .refl, fun a u e n => ⟨?_, n, fun z => z⟩⟩
  · rw [upd_ne (ne_of_none e hG)]; exact h.ext a u e
  · exact (h.cell k c a e1 e2).le .refl (fun z => z) fun z => upd_ne (hm e2)
  · rw [upd_ne (ne_of_none e hp)]; exact e
/-- what stands beside is changed -/
theorem Held.beside_set (h : Held T G S H) {p : Addr} {o : HO} (hp : G.H p = none) (hm : p ∉ G.m) : Held T G S (upd H p o) := by
  refine ⟨fun a u e => ?_, h.len, h.nd, fun k c a e1 e2 => ?_⟩
  · rw [upd_ne (ne_of_none e hp)]; exact h.ext a u e
  · exact (h.cell k c a e1 e2).le .refl (fun z => z) fun z => upd_ne fun q => hm (q ▸ List.mem_of_getElem? e2)
/-- a new cell -/
def Gh.push (G : Gh) (p : Addr) : Gh := ⟨G.H, G.m ++ [p]⟩
theorem Gh.push_le {p : Addr} : Le G (G.push p) := ⟨fun _ _ e => e, [p], rfl⟩
theorem Held.cellNew (h : Held T G S H) {p : Addr} {o : HO} {c : Cell} (hp : H p = none) (hc : CellRep T (G.push p) p (upd H p o) c) : Held T (G.push p) (S ++ [c]) (upd H p o) ∧ Step G H (G.push p) (upd H p o) := by
  have hG := h.fresh hp
  have hm : ∀ {k : Nat} {a : Addr}, G.m[k]? = some a → a ≠ p := fun {k a} e z => h.notm hp (z ▸ List.mem_of_getElem? e)
  refine ⟨⟨fun a u e => ?_, ?_, ?_, fun k d a e1 e2 => ?_⟩, Gh.push_le, fun a u e n => ⟨?_, ?_, fun z => z⟩⟩
  · rw [upd_ne (ne_of_none e hG)]; exact h.ext a u e
  · show (G.m ++ [p]).length = _
    rw [List.length_append, List.length_append, h.len]; rfl
  · refine List.nodup_append.mpr ⟨h.nd, by simp, fun x hx y hy => ?_⟩
    simp at hy
    subst hy
    exact fun z => h.notm hp (z ▸ hx)
  · have hl := h.len
    have e2 : (G.m ++ [p])[k]? = some a := e2
    by_cases hk : k < S.length
    · rw [List.getElem?_append_left hk] at e1
      rw [List.getElem?_append_left (by omega)] at e2
      exact (h.cell k d a e1 e2).le Gh.push_le (fun z => z) fun z => upd_ne (hm e2)
    · rw [List.getElem?_append_right (by omega)] at e1 e2
      have hk2 : k - S.length = 0 := by
        have := (List.getElem?_eq_some_iff.mp e1).1
        simp at this
        omega
      rw [hk2] at e1
      rw [show k - G.m.length = 0 by omega] at e2
      simp at e1 e2
      subst e1; subst e2
      exact hc
  · rw [upd_ne (ne_of_none e hp)]; exact e
  · show a ∉ G.m ++ [p]
    rw [List.mem_append, List.mem_singleton]
    rintro (z | z)
    · exact n z
    · exact ne_of_none e hp z
/-- a cell is written -/
theorem Held.write (h : Held T G S H) {k : Nat} {p : Addr} {o : HO} {c c' : Cell} (hk : S[k]? = some c) (hm : G.m[k]? = some p) (hG : G.H p = none) (hc : CellRep T G p (upd H p o) c') :
    Held T G (S.set k c') (upd H p o) ∧ Step G H G (upd H p o) := by
  refine ⟨⟨fun a u e => ?_, ?_, h.nd, fun j d a e1 e2 => ?_⟩, .refl, fun a u e n => ⟨?_, n, fun z => z⟩⟩
  · rw [upd_ne (ne_of_none e hG)]; exact h.ext a u e
  · rw [List.length_set]; exact h.len
  · by_cases hj : j = k
    · subst hj
      rw [List.getElem?_set_self (List.getElem?_eq_some_iff.mp hk).1] at e1
      rw [hm] at e2
      cases e1; cases e2
      exact hc
    · rw [List.getElem?_set_ne (Ne.symm hj)] at e1
      exact (h.cell j d a e1 e2).le .refl (fun z => z) fun z => upd_ne fun q => hj (nodup_get h.nd (q ▸ e2) hm)
  · rw [upd_ne fun z => n (by rw [z]; exact List.mem_of_getElem? hm)]; exact e
/-- a cell is frozen: a ghost's step -/
theorem Held.freeze (h : Held T G S H) {k : Nat} {p : Addr} {o : HO} {c' : Cell} (hm : G.m[k]? = some p) (hG : G.H p = none) (ho : H p = some o) (hc : CellRep T (G.put p o) p H c') :
    Held T (G.put p o) (S.set k c') H ∧ Step G H (G.put p o) H := by
  have l : Le G (G.put p o) := Gh.put_le hG
  refine ⟨⟨fun a u e => ?_, ?_, h.nd, fun j d a e1 e2 => ?_⟩, l, fun a u e n => ⟨e, n, fun z => ?_⟩⟩
  · have e' : upd G.H p o a = some u := e
    by_cases ha : a = p
    · subst ha
      rw [upd_same] at e'; cases e'; exact ho
    · rw [upd_ne ha] at e'; exact h.ext a u e'
  · rw [List.length_set]; exact h.len
  · have e2' : G.m[j]? = some a := e2
    by_cases hj : j = k
    · subst hj
      rw [hm] at e2'
      cases e2'
      by_cases hl : j < S.length
      · rw [List.getElem?_set_self hl] at e1
        cases e1; exact hc
      · rw [List.getElem?_eq_none (by rw [List.length_set]; omega)] at e1; cases e1
    · rw [List.getElem?_set_ne (Ne.symm hj)] at e1
      have na : a ≠ p := fun q => hj (nodup_get h.nd (q ▸ e2') hm)
      refine (h.cell j d a e1 e2').le l (fun z => ?_) fun _ => rfl
      show upd G.H p o a = none
      rw [upd_ne na]; exact z
  · show upd G.H p o a = none
    rw [upd_ne fun q => n (by rw [q]; exact List.mem_of_getElem? hm)]; exact z
end
end Ev

set_option Elab.async false
set_option linter.all false
set_option maxRecDepth 100000
set_option maxHeartbeats 4000000
/-! EvB: what a reading evaluates to, by data; names, constants, operators, tests, displays. -/
namespace Ev
open PySem PySem.Spec PyProof.Rows L2

abbrev Envd := List (Option D)
structure EnvRep (T : Kit) (G : Gh) (env : Envd) (σ : L2.St) : Prop where
  len : env.length = σ.length
  get : ∀ (i : Nat) (d : D), env[i]? = some (some d) → ∃ v, σ[i]? = some (some v) ∧ Rep T G d v
theorem EnvRep.le {T : Kit} {G G' : Gh} {env : Envd} {σ : L2.St} (l : Le G G') (h : EnvRep T G env σ) : EnvRep T G' env σ := ⟨h.len, fun i d e => by
  obtain ⟨v, h1, h2⟩ := h.get i d e
  exact ⟨v, h1, h2.le l⟩⟩
theorem EnvRep.set {T : Kit} {G : Gh} {env : Envd} {σ : L2.St} (h : EnvRep T G env σ) (i : Nat) {d : D} {v : V} (r : Rep T G d v) : EnvRep T G (env.set i (some d)) (σ.set i (some v)) := by
  refine ⟨by rw [List.length_set, List.length_set]; exact h.len, fun j e q => ?_⟩
  by_cases hj : j = i
  · subst hj
    by_cases hl : j < env.length
    · rw [List.getElem?_set_self hl] at q
      cases q
      exact ⟨v, List.getElem?_set_self (by rw [← h.len]; exact hl), r⟩
    · rw [List.getElem?_eq_none (by rw [List.length_set]; omega)] at q; cases q
  · rw [List.getElem?_set_ne (Ne.symm hj)] at q
    obtain ⟨w, h1, h2⟩ := h.get j e q
    exact ⟨w, by rw [List.getElem?_set_ne (Ne.symm hj)]; exact h1, h2⟩
theorem EnvRep.kill {T : Kit} {G : Gh} {env : Envd} {σ : L2.St} (h : EnvRep T G env σ) (i : Nat) : EnvRep T G (env.set i none) σ := by
  refine ⟨by rw [List.length_set]; exact h.len, fun j e q => ?_⟩
  by_cases hj : j = i
  · subst hj
    by_cases hl : j < env.length
    · rw [List.getElem?_set_self hl] at q; cases q
    · rw [List.getElem?_eq_none (by rw [List.length_set]; omega)] at q; cases q
  · rw [List.getElem?_set_ne (Ne.symm hj)] at q
    exact h.get j e q
theorem EnvRep.kill2 {T : Kit} {G : Gh} {env : Envd} {σ : L2.St} (h : EnvRep T G env σ) (i : Nat) (w : Option V) : EnvRep T G (env.set i none) (σ.set i w) := by
  refine ⟨by rw [List.length_set, List.length_set]; exact h.len, fun j e q => ?_⟩
  by_cases hj : j = i
  · subst hj
    by_cases hl : j < env.length
    · rw [List.getElem?_set_self hl] at q; cases q
    · rw [List.getElem?_eq_none (by rw [List.length_set]; omega)] at q; cases q
  · rw [List.getElem?_set_ne (Ne.symm hj)] at q
    obtain ⟨w, h1, h2⟩ := h.get j e q
    exact ⟨w, by rw [List.getElem?_set_ne (Ne.symm hj)]; exact h1, h2⟩
theorem EnvRep.get_of {T : Kit} {G : Gh} {env : Envd} {σ : L2.St} (h : EnvRep T G env σ) {i : Nat} {d : D} (e : env[i]? = some (some d)) : ∃ v, σ[i]? = some (some v) ∧ Rep T G d v := h.get i d e

/-- an exception: its class, its own fields -/
def ExcRep (T : Kit) (G : Gh) (c : Nat) (fs : List D) (cls : Value) (dx : Option Addr) : Prop :=
  cls = .ref (T.cl c) ∧ ((fs = [] ∧ dx = none) ∨ (fs ≠ [] ∧ ∃ a vs, dx = some a ∧ G.H a = some (.xd ((T.fn c).zip vs)) ∧ vs.length = (T.fn c).length ∧ Reps T G fs vs))

/-- what is wanted of a run's end -/
def Pst {α β : Type} (T : Kit) (rel : Gh → α → β → Prop) (G : Gh) (H : Hp) (W : XK) (r : R α) (Q : Gh → Store → α → β → Hp → Prop) : Prop := match r with
  | .ok a S' => ∀ G' H' b, Step G H G' H' → Held T G' S' H' → rel G' a b → Q G' S' a b H'
  | .exc c fs S' => ∀ G' H' cls dx, Step G H G' H' → Held T G' S' H' → ExcRep T G' c fs cls dx → W cls dx H'
  | .stuck => False
abbrev PV (T : Kit) (G : Gh) (H : Hp) (W : XK) (r : R D) (Q : VK) : Prop := Pst T (Rep T) G H W r fun _ _ _ v H' => Q v H'
section
variable {T : Kit} {α β γ δ : Type} {rel : Gh → α → β → Prop} {rel2 : Gh → γ → δ → Prop} {G G1 : Gh} {H H1 : Hp} {W : XK} {S : Store}
theorem Pst.later {r : R α} {Q : Gh → Store → α → β → Hp → Prop} (st : Step G H G1 H1) (h : Pst T rel G H W r Q) : Pst T rel G1 H1 W r Q := by
  cases r with
  | ok a S' => exact fun G' H' b s => h G' H' b (st.trans s)
  | exc c fs S' => exact fun G' H' cls dx s => h G' H' cls dx (st.trans s)
  | stuck => exact h
theorem Pst.mono {r : R α} {Q Q' : Gh → Store → α → β → Hp → Prop} (h : Pst T rel G H W r Q) (k : ∀ G' S' a b H', Step G H G' H' → Held T G' S' H' → rel G' a b → Q G' S' a b H' → Q' G' S' a b H') : Pst T rel G H W r Q' := by
  cases r with
  | ok a S' => exact fun G' H' b s hd rr => k _ _ _ _ _ s hd rr (h G' H' b s hd rr)
  | exc c fs S' => exact h
  | stuck => exact h
theorem Pst.bnd {m : M α} {f : α → M γ} {Q : Gh → Store → γ → δ → Hp → Prop} (h : Pst T rel2 G H W (bnd m f S) Q) :
    Pst T rel G H W (m S) fun G' S' a b H' => Pst T rel2 G' H' W (f a S') Q := by
  unfold Ev.bnd at h
  cases e : m S with
  | ok a S' =>
    rw [e] at h
    exact fun G' H' b s hd rr => h.later s
  | exc c fs S' =>
    rw [e] at h
    exact h
  | stuck =>
    rw [e] at h
    exact h
theorem Pst.ret {a : α} {b : β} {Q : Gh → Store → α → β → Hp → Prop} (h : Pst T rel G H W (ret a S) Q) (hd : Held T G S H) (r : rel G a b) : Q G S a b H := h G H b .refl hd r
theorem Pst.ok {a : α} {b : β} {Q : Gh → Store → α → β → Hp → Prop} (h : Pst T rel G H W (.ok a S) Q) (hd : Held T G S H) (r : rel G a b) : Q G S a b H := h G H b .refl hd r
end

/-- a wish for exceptions that speaks of the slots -/
abbrev at_ (W : WX) (σ : L2.St) : XK := fun c d H => W c d σ H
/-- an expression's reading, by data -/
def tV (T : Kit) (W : WX) (f : Envd → M D) : TE := fun σ H Q => ∃ G S env, EnvRep T G env σ ∧ Held T G S H ∧ PV T G H (at_ W σ) (f env S) Q
def tB2 (T : Kit) (W : WX) (f : Envd → M Bool) : TT := fun σ H Q => ∃ G S env, EnvRep T G env σ ∧ Held T G S H ∧ Pst T (fun _ (a b : Bool) => b = a) G H (at_ W σ) (f env S) fun _ _ _ b H' => Q b H'
def tAs (T : Kit) (W : WX) (f : Envd → M (List D)) : TA := fun σ H Q => ∃ G S env, EnvRep T G env σ ∧ Held T G S H ∧ Pst T (Reps T) G H (at_ W σ) (f env S) fun _ _ _ vs H' => Q vs H'
abbrev VE (T : Kit) (X : Cx) (W : WX) (e : Expr) (f : Envd → M D) : Prop := PE X e (tV T W f)
abbrev VT (T : Kit) (X : Cx) (W : WX) (e : Expr) (f : Envd → M Bool) : Prop := PT X e (tB2 T W f)
abbrev VW (T : Kit) (X : Cx) (W : WX) (e : Expr) (f : Envd → M Bool) : Prop := PW X e (tB2 T W f)
abbrev VA (T : Kit) (X : Cx) (W : WX) (es : List Expr) (f : Envd → M (List D)) : Prop := PA X es (tAs T W f)

theorem _root_.L2.PE.imp {X : Cx} {e : Expr} {t t' : TE} (h : PE X e t) (k : ∀ σ H Q, t' σ H Q → t σ H Q) : PE X e t' := ⟨fun pins s σ H Q I q => h.run pins s σ H Q I (k _ _ _ q)⟩
theorem _root_.L2.PT.imp {X : Cx} {e : Expr} {t t' : TT} (h : PT X e t) (k : ∀ σ H Q, t' σ H Q → t σ H Q) : PT X e t' := ⟨fun pins s σ H Q I q => h.run pins s σ H Q I (k _ _ _ q)⟩
theorem _root_.L2.PW.imp {X : Cx} {e : Expr} {t t' : TT} (h : PW X e t) (k : ∀ σ H Q, t' σ H Q → t σ H Q) : PW X e t' := ⟨fun w pins s σ H Q I q => h.run w pins s σ H Q I (k _ _ _ q)⟩
theorem _root_.L2.PA.imp {X : Cx} {e : List Expr} {t t' : TA} (h : PA X e t) (k : ∀ σ H Q, t' σ H Q → t σ H Q) : PA X e t' := ⟨fun w pins s σ H Q I q => h.run w pins s σ H Q I (k _ _ _ q)⟩
theorem _root_.L2.PS.imp {X : Cx} {e : Stmt} {t t' : TS} (h : PS X e t) (k : ∀ D σ H, t' D σ H → t D σ H) : PS X e t' := ⟨fun pins s σ H Q I q => h.run pins s σ H Q I (k _ _ _ q)⟩
theorem _root_.L2.PSs.imp {X : Cx} {e : List Stmt} {t t' : TS} (h : PSs X e t) (k : ∀ D σ H, t' D σ H → t D σ H) : PSs X e t' := ⟨fun pins s σ H Q I q => h.run pins s σ H Q I (k _ _ _ q)⟩

/-! ### names and constants -/
def sVar (i : Nat) : Envd → M D := fun env => match env[i]? with
  | some (some d) => ret d
  | _ => stk
section
variable {T : Kit} {X : Cx} {W : WX} {pos : Pos}
theorem ve_var {i : Nat} {x : Str} (hN : X.N[i]? = some x) (hv : Vis X.env.scope x) (hd : (x == ("__debug__" : Str)) = false) (hcd : (x == ("__classdict__" : Str)) = false) : VE T X W (.Name x pos) (sVar i) := by
  refine (pe_var hN hv hd hcd).imp fun σ H Q ⟨G, S, env, hE, hH, p⟩ => ?_
  cases e : env[i]? with
  | none => simp only [sVar, e] at p; exact p.elim
  | some o =>
    cases o with
    | none => simp only [sVar, e] at p; exact p.elim
    | some d =>
      simp only [sVar, e] at p
      obtain ⟨v, h1, h2⟩ := hE.get i d e
      exact ⟨v, h1, p.ret hH h2⟩
theorem ve_c {e : Expr} {v : V} {d : D} (h : PE X e (tC v)) (r : ∀ G, Rep T G d v) : VE T X W e (fun _ => ret d) :=
  h.imp fun σ H Q ⟨G, S, env, hE, hH, p⟩ => p.ret hH (r G)
theorem ve_int {i : Int} {j} : VE T X W (.Constant (.int i) j pos) (fun _ => ret (.int i)) := ve_c pe_int fun _ => by simp only [Rep]
theorem ve_bl {b : Bool} {j} : VE T X W (.Constant (.bool b) j pos) (fun _ => ret (.bl b)) := ve_c pe_bl fun _ => by simp only [Rep]
theorem ve_non {j} : VE T X W (.Constant .none j pos) (fun _ => ret .non) := ve_c pe_non fun _ => by simp only [Rep]
theorem ve_str {x : Str} {j} : VE T X W (.Constant (.str x) j pos) (fun _ => ret (.str x)) := ve_c pe_str fun _ => by simp only [Rep]
/-- a module's constant -/
theorem ve_glob {x : Str} {v : V} {u : Value} {d : D} (hg : Gl X x) (hm : X.mg x = some u) (r : RelV v u) (hr : ∀ G, Rep T G d v) (hd : (x == ("__debug__" : Str)) = false) : VE T X W (.Name x pos) (fun _ => ret d) := ve_c (pe_glob hg hm r hd) hr

/-! ### two operands -/
theorem tOp_of {r : R2} {fa fb : Envd → M D} {g : D → D → M D}
    (hr : ∀ (W : XK) (G : Gh) (S : Store) (H : Hp) (d e : D) (x y : V) (Q : VK), Held T G S H → Rep T G d x → Rep T G e y → PV T G H W (g d e S) Q → r x y H Q) (σ : L2.St) (H : Hp) (Q : VK)
    (h : tV T W (fun env => bnd (fa env) fun d => bnd (fb env) fun e => g d e) σ H Q) : tOp r (tV T W fa) (tV T W fb) σ H Q := by
  obtain ⟨G, S, env, hE, hH, p⟩ := h
  refine ⟨G, S, env, hE, hH, (p.bnd (rel := Rep T)).mono fun G1 S1 d x H1 st1 hd1 r1 p1 => ?_⟩
  refine ⟨G1, S1, env, hE.le st1.le, hd1, (p1.bnd (rel := Rep T)).mono fun G2 S2 e y H2 st2 hd2 r2 p2 => ?_⟩
  exact hr _ _ _ _ _ _ _ _ _ hd2 (r1.le st2.le) r2 p2
theorem ve_op {op : Operator} {r : R2} {a b : Expr} {fa fb : Envd → M D} {g : D → D → M D} (ho : OpR X (binaryOp op) r)
    (hr : ∀ (W : XK) (G : Gh) (S : Store) (H : Hp) (d e : D) (x y : V) (Q : VK), Held T G S H → Rep T G d x → Rep T G e y → PV T G H W (g d e S) Q → r x y H Q)
    (ha : VE T X W a fa) (hb : VE T X W b fb) : VE T X W (.BinOp a op b pos) (fun env => bnd (fa env) fun d => bnd (fb env) fun e => g d e) :=
  (pe_op ho ha hb).imp (tOp_of hr)
theorem ve_cmp {op : CmpOp} {r : R2} {a b : Expr} {fa fb : Envd → M D} {g : D → D → M D} (ho : OpR X (compareOp op) r) (hm : behindInMarks op b = false)
    (hr : ∀ (W : XK) (G : Gh) (S : Store) (H : Hp) (d e : D) (x y : V) (Q : VK), Held T G S H → Rep T G d x → Rep T G e y → PV T G H W (g d e S) Q → r x y H Q)
    (ha : VE T X W a fa) (hb : VE T X W b fb) : VE T X W (.Compare a [op] [b] pos) (fun env => bnd (fa env) fun d => bnd (fb env) fun e => g d e) :=
  (pe_cmpR ho ha hb hm).imp (tOp_of hr)
end

/-- a truth value as a Bool -/
def asB : D → M Bool
  | .bl b => ret b
  | _ => stk
/-- a new list: a cell, or frozen at once -/
def newL (mu : Bool) (ds : List D) : M D := fun S => if mu then .ok (.ref S.length) (S ++ [.lst ds]) else .ok (.lst ds) S
section
variable {T : Kit} {G : Gh} {S : Store} {H : Hp} {W : XK}
theorem newL_ok {mu : Bool} {ds : List D} {vs : List V} {Q : VK} (hH : Held T G S H) (r : Reps T G ds vs) (p : PV T G H W (newL mu ds S) Q) : ∀ a, H a = none → Q (.ref a) (upd H a (.lst vs)) := by
  intro a ha
  unfold newL at p
  cases mu with
  | true =>
    have hn := hH.cellNew (p := a) (o := .lst vs) (c := .lst ds) ha ⟨hH.fresh ha, vs, upd_same, r.le Gh.push_le⟩
    refine p _ _ _ hn.2 hn.1 ?_
    simp only [Rep]
    refine ⟨a, rfl, ?_⟩
    show (G.m ++ [a])[S.length]? = some a
    rw [← hH.len, List.getElem?_append_right (Nat.le_refl _), Nat.sub_self]; rfl
  | false =>
    have hn := hH.new (p := a) (o := .lst vs) ha
    refine p _ _ _ hn.2 hn.1 ?_
    simp only [Rep]
    exact ⟨a, vs, rfl, upd_same, r.le hn.2.le⟩
theorem newT_ok {ds : List D} {vs : List V} {Q : VK} (hH : Held T G S H) (r : Reps T G ds vs) (p : PV T G H W (ret (.tup ds) S) Q) : ∀ a, H a = none → Q (.ref a) (upd H a (.tup vs)) := by
  intro a ha
  have hn := hH.new (p := a) (o := .tup vs) ha
  refine p _ _ _ hn.2 hn.1 ?_
  simp only [Rep]
  exact ⟨a, vs, rfl, SqT.of upd_same, r.le hn.2.le⟩
/-- what lies in a list -/
def seqL (S : Store) : D → Option (List D)
  | .lst xs => some xs
  | .ref k => match S[k]? with
    | some (.lst xs) => some xs
    | some (.frz xs) => some xs
    | _ => none
  | _ => none
theorem seqL_ok {d : D} {x : V} {ds : List D} (hH : Held T G S H) (r : Rep T G d x) (e : seqL S d = some ds) : ∃ a vs, x = .ref a ∧ H a = some (.lst vs) ∧ Reps T G ds vs := by
  cases d <;> simp only [seqL] at e <;> try cases e
  · simp only [Rep] at r
    obtain ⟨a, vs, rfl, q, z⟩ := r
    exact ⟨a, vs, rfl, hH.ext _ _ q, z⟩
  · rename_i k
    simp only [Rep] at r
    obtain ⟨a, rfl, q⟩ := r
    split at e
    · rename_i xs hk
      cases e
      have c := hH.cell k _ a hk q
      simp only [CellRep] at c
      obtain ⟨_, vs, c1, c2⟩ := c
      exact ⟨a, vs, rfl, c1, c2⟩
    · rename_i xs hk
      cases e
      have c := hH.cell k _ a hk q
      simp only [CellRep] at c
      obtain ⟨vs, c1, c2⟩ := c
      exact ⟨a, vs, rfl, hH.ext _ _ c1, c2⟩
    · cases e
def seqT : D → Option (List D)
  | .tup xs => some xs
  | _ => none
theorem seqT_ok {K : PySem.W.Frag} {d : D} {x : V} {ds : List D} (hK : T.K = K) (hH : Held T G S H) (r : Rep T G d x) (e : seqT d = some ds) : ∃ a vs, x = .ref a ∧ SqT K H a vs ∧ Reps T G ds vs := by
  cases d <;> simp only [seqT] at e <;> try cases e
  simp only [Rep] at r
  obtain ⟨a, vs, rfl, q, z⟩ := r
  exact ⟨a, vs, rfl, hK ▸ sqT_le hH.ext q, z⟩
end

/-! ### + - * // % ** -/
def dAdd (mu : Bool) (d e : D) : M D := match d, e with
  | .int i, .int j => ret (.int (i + j))
  | .str i, .str j => if i.length + j.length ≤ sizeLine then ret (.str (i ++ j)) else stk
  | d, e => fun S => match seqL S d, seqL S e with
    | some xs, some ys => if xs.length + ys.length ≤ sizeLine then newL mu (xs ++ ys) S else .stuck
    | _, _ => .stuck
def rAddA : R2 := fun x y H Q => rI0 (fun i j => .int (i + j)) x y H Q ∨ ((∃ i j, x = .str i ∧ y = .str j ∧ i.length + j.length ≤ sizeLine ∧ Q (.str (i ++ j)) H) ∨ rCat x y H Q)
section
variable {T : Kit} {X : Cx} {W : WX} {pos : Pos} {a b : Expr} {fa fb : Envd → M D}
theorem ve_add {mu : Bool} (ha : VE T X W a fa) (hb : VE T X W b fb) : VE T X W (.BinOp a .Add b pos) (fun env => bnd (fa env) fun d => bnd (fb env) fun e => dAdd mu d e) := by
  refine ve_op (r := rAddA) (op_add.or (op_add_str.or op_cat)) (fun W G S H d e x y Q hH r1 r2 p => ?_) ha hb
  unfold dAdd at p
  split at p
  · simp only [Rep] at r1 r2
    subst r1; subst r2
    exact .inl ⟨_, _, rfl, rfl, p.ret hH (by simp only [Rep])⟩
  · split at p
    · rename_i hz
      simp only [Rep] at r1 r2
      subst r1; subst r2
      exact .inr (.inl ⟨_, _, rfl, rfl, hz, p.ret hH (by simp only [Rep])⟩)
    · exact p.elim
  · dsimp only at p
    split at p
    · rename_i xs ys e1 e2
      split at p
      · rename_i hz
        obtain ⟨l, vs, rfl, q1, z1⟩ := seqL_ok hH r1 e1
        obtain ⟨l2, ws, rfl, q2, z2⟩ := seqL_ok hH r2 e2
        exact .inr (.inr ⟨l, l2, vs, ws, rfl, rfl, q1, q2, by rw [← z1.len, ← z2.len]; exact hz, newL_ok hH (reps_app z1 z2) p⟩)
      · exact p.elim
    · exact p.elim
def dSub : D → D → M D
  | .int i, .int j => ret (.int (i - j))
  | _, _ => stk
theorem ve_sub (ha : VE T X W a fa) (hb : VE T X W b fb) : VE T X W (.BinOp a .Sub b pos) (fun env => bnd (fa env) fun d => bnd (fb env) fun e => dSub d e) := by
  refine ve_op op_sub (fun W G S H d e x y Q hH r1 r2 p => ?_) ha hb
  unfold dSub at p
  split at p
  · simp only [Rep] at r1 r2
    subst r1; subst r2
    exact ⟨_, _, rfl, rfl, p.ret hH (by simp only [Rep])⟩
  · exact p.elim
theorem reps_flat {T : Kit} {G : Gh} {ds : List D} {vs : List V} (h : Reps T G ds vs) : ∀ n : Nat, Reps T G (List.replicate n ds).flatten (List.replicate n vs).flatten
  | 0 => by simp [Reps]
  | n + 1 => by
    rw [List.replicate_succ, List.replicate_succ, List.flatten_cons, List.flatten_cons]
    exact reps_app h (reps_flat h n)
def dMul (mu : Bool) (d e : D) : M D := match d, e with
  | .int i, .int j => if i.natAbs.log2 + j.natAbs.log2 < 1000000 then ret (.int (i * j)) else stk
  | d, .int k => fun S => match seqL S d with
    | some xs => if -(2 ^ 63) ≤ k ∧ k < 2 ^ 63 ∧ xs.length * k.toNat ≤ sizeLine then newL mu (List.replicate k.toNat xs).flatten S else .stuck
    | none => .stuck
  | _, _ => stk
def rMulA : R2 := fun x y H Q => rI CMulW (fun i j => .int (i * j)) x y H Q ∨ rRep x y H Q
theorem ve_mul {mu : Bool} (ha : VE T X W a fa) (hb : VE T X W b fb) : VE T X W (.BinOp a .Mult b pos) (fun env => bnd (fa env) fun d => bnd (fb env) fun e => dMul mu d e) := by
  refine ve_op (r := rMulA) (op_mulW.or op_rep) (fun W G S H d e x y Q hH r1 r2 p => ?_) ha hb
  unfold dMul at p
  split at p
  · split at p
    · rename_i hz
      simp only [Rep] at r1 r2
      subst r1; subst r2
      exact .inl ⟨_, _, rfl, rfl, hz, p.ret hH (by simp only [Rep])⟩
    · exact p.elim
  · dsimp only at p
    split at p
    · rename_i xs e1
      split at p
      · rename_i hz
        simp only [Rep] at r2
        subst r2
        obtain ⟨l, vs, rfl, q1, z1⟩ := seqL_ok hH r1 e1
        exact .inr ⟨l, _, vs, rfl, rfl, q1, hz.1, hz.2.1, by rw [← z1.len]; exact hz.2.2, newL_ok hH (reps_flat z1 _) p⟩
      · exact p.elim
    · exact p.elim
  · exact p.elim
def dDiv : D → D → M D
  | .int i, .int j => if 0 < j ∧ j.natAbs.log2 < 9000 then ret (.int (i / j)) else stk
  | _, _ => stk
theorem ve_div (ha : VE T X W a fa) (hb : VE T X W b fb) : VE T X W (.BinOp a .FloorDiv b pos) (fun env => bnd (fa env) fun d => bnd (fb env) fun e => dDiv d e) := by
  refine ve_op op_fdivW (fun W G S H d e x y Q hH r1 r2 p => ?_) ha hb
  unfold dDiv at p
  split at p
  · split at p
    · rename_i hz
      simp only [Rep] at r1 r2
      subst r1; subst r2
      exact ⟨_, _, rfl, rfl, hz, p.ret hH (by simp only [Rep])⟩
    · exact p.elim
  · exact p.elim
def dMod : D → D → M D
  | .int i, .int j => if 0 < j then ret (.int (i % j)) else stk
  | _, _ => stk
theorem ve_mod (ha : VE T X W a fa) (hb : VE T X W b fb) : VE T X W (.BinOp a .Mod b pos) (fun env => bnd (fa env) fun d => bnd (fb env) fun e => dMod d e) := by
  refine ve_op op_mod (fun W G S H d e x y Q hH r1 r2 p => ?_) ha hb
  unfold dMod at p
  split at p
  · split at p
    · rename_i hz
      simp only [Rep] at r1 r2
      subst r1; subst r2
      exact ⟨_, _, rfl, rfl, hz, p.ret hH (by simp only [Rep])⟩
    · exact p.elim
  · exact p.elim
def dPow : D → D → M D
  | .int i, .int j => if 0 ≤ j ∧ (Builtin.Int.intBits i : Int) * j ≤ 2 ^ 27 then ret (.int (i ^ j.toNat)) else stk
  | _, _ => stk
def CPowW (i j : Int) : Prop := 0 ≤ j ∧ (Builtin.Int.intBits i : Int) * j ≤ 2 ^ 27
theorem op_powW : OpR X (binaryOp .Pow) (rI CPowW fun i j => .int (i ^ j.toNat)) := opI fun _ _ _ _ _ _ _ hc q => pow_int hc.1 hc.2 q
theorem ve_pow (ha : VE T X W a fa) (hb : VE T X W b fb) : VE T X W (.BinOp a .Pow b pos) (fun env => bnd (fa env) fun d => bnd (fb env) fun e => dPow d e) := by
  refine ve_op op_powW (fun W G S H d e x y Q hH r1 r2 p => ?_) ha hb
  unfold dPow at p
  split at p
  · split at p
    · rename_i hz
      simp only [Rep] at r1 r2
      subst r1; subst r2
      exact ⟨_, _, rfl, rfl, hz, p.ret hH (by simp only [Rep])⟩
    · exact p.elim
  · exact p.elim
def dNeg : D → M D
  | .int i => ret (.int (-i))
  | _ => stk
theorem ve_neg (ha : VE T X W a fa) : VE T X W (.UnaryOp .USub a pos) (fun env => bnd (fa env) dNeg) := by
  refine (pe_un un_neg ha).imp fun σ H Q ⟨G, S, env, hE, hH, p⟩ => ?_
  refine ⟨G, S, env, hE, hH, (p.bnd (rel := Rep T)).mono fun G1 S1 d x H1 st1 hd1 r1 p1 => ?_⟩
  unfold dNeg at p1
  split at p1
  · simp only [Rep] at r1
    subst r1
    exact ⟨_, rfl, p1.ret hd1 (by simp only [Rep])⟩
  · exact p1.elim

/-! ### argument lists, displays -/
def sNil : Envd → M (List D) := fun _ => ret []
def sCons (f : Envd → M D) (g : Envd → M (List D)) : Envd → M (List D) := fun env => bnd (f env) fun d => bnd (g env) fun ds => ret (d :: ds)
theorem va_nil : VA T X W [] sNil := pa_nil.imp fun σ H Q ⟨G, S, env, hE, hH, p⟩ => p.ret hH reps_nil
theorem va_cons {es : List Expr} {g : Envd → M (List D)} (ha : VE T X W a fa) (hr : VA T X W es g) (hs : starEach (a :: es) X.env = (false, eval a X.env) :: starEach es X.env) : VA T X W (a :: es) (sCons fa g) := by
  refine (pa_cons ha hr hs).imp fun σ H Q ⟨G, S, env, hE, hH, p⟩ => ?_
  refine ⟨G, S, env, hE, hH, (p.bnd (rel := Rep T)).mono fun G1 S1 d x H1 st1 hd1 r1 p1 => ?_⟩
  refine ⟨G1, S1, env, hE.le st1.le, hd1, (p1.bnd (rel := Reps T)).mono fun G2 S2 ds vs H2 st2 hd2 r2 p2 => ?_⟩
  exact p2.ret hd2 (reps_cons (r1.le st2.le) r2)
theorem ve_lst {mu : Bool} {es : List Expr} {g : Envd → M (List D)} (h : VA T X W es g) : VE T X W (.List es pos) (fun env => bnd (g env) fun ds => if ds.length ≤ sizeLine then newL mu ds else stk) := by
  refine (pe_lst h).imp fun σ H Q ⟨G, S, env, hE, hH, p⟩ => ?_
  refine ⟨G, S, env, hE, hH, (p.bnd (rel := Reps T)).mono fun G1 S1 ds vs H1 st1 hd1 r1 p1 => ?_⟩
  split at p1
  · rename_i hz
    exact ⟨by rw [← r1.len]; exact hz, newL_ok hd1 r1 p1⟩
  · exact p1.elim
theorem ve_tup {es : List Expr} {k : Nat} {g : Envd → M (List D)} (h : VA T X W es g) : VE T X W (.Tuple es k pos) (fun env => bnd (g env) fun ds => if ds.length ≤ sizeLine then ret (.tup ds) else stk) := by
  refine (pe_tup h).imp fun σ H Q ⟨G, S, env, hE, hH, p⟩ => ?_
  refine ⟨G, S, env, hE, hH, (p.bnd (rel := Reps T)).mono fun G1 S1 ds vs H1 st1 hd1 r1 p1 => ?_⟩
  split at p1
  · rename_i hz
    exact ⟨by rw [← r1.len]; exact hz, newT_ok hd1 r1 p1⟩
  · exact p1.elim

/-! ### tests -/
theorem vt_val {f : Envd → M D} (h : VE T X W a f) (he : ∀ whole, isTrue a X.env whole = (do let v ← whole; standAt a.pos; holding [v] (truthy v))) : VT T X W a (fun env => bnd (f env) asB) := by
  refine (pt_val h he).imp fun σ H Q ⟨G, S, env, hE, hH, p⟩ => ?_
  refine ⟨G, S, env, hE, hH, (p.bnd (rel := Rep T)).mono fun G1 S1 d x H1 st1 hd1 r1 p1 => ?_⟩
  unfold asB at p1
  split at p1
  · simp only [Rep] at r1
    subst r1
    exact ⟨_, rfl, p1.ret hd1 rfl⟩
  · exact p1.elim
theorem vt_cmp {op : CmpOp} {r : R2} {g : D → D → M D} (ho : OpR X (compareOp op) r) (hm : behindInMarks op b = false)
    (hr : ∀ (W : XK) (G : Gh) (S : Store) (H : Hp) (d e : D) (x y : V) (Q : VK), Held T G S H → Rep T G d x → Rep T G e y → PV T G H W (g d e S) Q → r x y H Q)
    (ha : VE T X W a fa) (hb : VE T X W b fb) : VT T X W (.Compare a [op] [b] pos) (fun env => bnd (bnd (fa env) fun d => bnd (fb env) fun e => g d e) asB) := by
  refine (pt_cmpR ho ha hb hm).imp fun σ H Q ⟨G, S, env, hE, hH, p⟩ => ?_
  refine tOp_of hr σ H _ ⟨G, S, env, hE, hH, (p.bnd (rel := Rep T)).mono fun G1 S1 d x H1 st1 hd1 r1 p1 => ?_⟩
  unfold asB at p1
  split at p1
  · simp only [Rep] at r1
    subst r1
    exact ⟨_, rfl, p1.ret hd1 rfl⟩
  · exact p1.elim
def sAnd (f g : Envd → M Bool) : Envd → M Bool := fun env => bnd (f env) fun c => if c = true then g env else ret false
def sOr (f g : Envd → M Bool) : Envd → M Bool := fun env => bnd (f env) fun c => if c = true then ret true else g env
def sNot (f : Envd → M Bool) : Envd → M Bool := fun env => bnd (f env) fun c => ret (!c)
theorem vw_and1 {f : Envd → M Bool} (h : VT T X W a f) : VW T X W (.BoolOp .And [a] pos) f := pw_and1 h
theorem vw_or1 {f : Envd → M Bool} (h : VT T X W a f) : VW T X W (.BoolOp .Or [a] pos) f := pw_or1 h
theorem vw_and {es : List Expr} {f g : Envd → M Bool} (ha : VT T X W a f) (hb : VW T X W (.BoolOp .And (b :: es) pos) g) : VW T X W (.BoolOp .And (a :: b :: es) pos) (sAnd f g) := by
  refine (pw_and ha hb).imp fun σ H Q ⟨G, S, env, hE, hH, p⟩ => ?_
  refine ⟨G, S, env, hE, hH, (p.bnd (rel := fun _ (a b : Bool) => b = a)).mono fun G1 S1 c d H1 st1 hd1 r1 p1 => ?_⟩
  subst r1
  split
  · rename_i hc
    rw [if_pos hc] at p1
    exact ⟨G1, S1, env, hE.le st1.le, hd1, p1⟩
  · rename_i hc
    rw [if_neg hc] at p1
    exact p1.ret hd1 rfl
theorem vw_or {es : List Expr} {f g : Envd → M Bool} (ha : VT T X W a f) (hb : VW T X W (.BoolOp .Or (b :: es) pos) g) : VW T X W (.BoolOp .Or (a :: b :: es) pos) (sOr f g) := by
  refine (pw_or ha hb).imp fun σ H Q ⟨G, S, env, hE, hH, p⟩ => ?_
  refine ⟨G, S, env, hE, hH, (p.bnd (rel := fun _ (a b : Bool) => b = a)).mono fun G1 S1 c d H1 st1 hd1 r1 p1 => ?_⟩
  subst r1
  split
  · rename_i hc
    rw [if_pos hc] at p1
    exact p1.ret hd1 rfl
  · rename_i hc
    rw [if_neg hc] at p1
    exact ⟨G1, S1, env, hE.le st1.le, hd1, p1⟩
theorem vt_not {f : Envd → M Bool} (h : VT T X W a f) : VT T X W (.UnaryOp .Not a pos) (sNot f) := by
  refine (pt_not h).imp fun σ H Q ⟨G, S, env, hE, hH, p⟩ => ?_
  refine ⟨G, S, env, hE, hH, (p.bnd (rel := fun _ (a b : Bool) => b = a)).mono fun G1 S1 c d H1 st1 hd1 r1 p1 => ?_⟩
  subst r1
  exact p1.ret hd1 rfl
/-! as values -/
def vAnd (f g : Envd → M D) : Envd → M D := fun env => bnd (f env) fun x => bnd (asB x) fun c => if c = true then g env else ret (.bl false)
def vOr (f g : Envd → M D) : Envd → M D := fun env => bnd (f env) fun x => bnd (asB x) fun c => if c = true then ret (.bl true) else g env
def vNot (f : Envd → M D) : Envd → M D := fun env => bnd (f env) fun x => bnd (asB x) fun c => ret (.bl (!c))
theorem asB_ok {d : D} {x : V} {G : Gh} {H : Hp} {S : Store} {α β : Type} {rel : Gh → α → β → Prop} {W : XK} {k : Bool → M α} {Q : Gh → Store → α → β → Hp → Prop} (hH : Held T G S H) (r : Rep T G d x) (p : Pst T rel G H W (bnd (asB d) k S) Q) :
    ∃ c, x = .bl c ∧ Pst T rel G H W (k c S) Q := by
  unfold bnd asB at p
  split at p <;> rename_i h <;> split at h <;> simp only [ret, stk] at h <;> try (cases h)
  · simp only [Rep] at r
    exact ⟨_, r, p⟩
  all_goals exact p.elim
theorem ve_and {es : List Expr} {f g : Envd → M D} (ha : VE T X W a f) (hb : VE T X W (.BoolOp .And (b :: es) pos) g) : VE T X W (.BoolOp .And (a :: b :: es) pos) (vAnd f g) := by
  refine (pe_and ha hb).imp fun σ H Q ⟨G, S, env, hE, hH, p⟩ => ?_
  refine ⟨G, S, env, hE, hH, (p.bnd (rel := Rep T)).mono fun G1 S1 d x H1 st1 hd1 r1 p1 => ?_⟩
  obtain ⟨c, rfl, p2⟩ := asB_ok hd1 r1 p1
  refine ⟨c, rfl, ?_⟩
  split
  · rename_i hc
    rw [if_pos hc] at p2
    exact ⟨G1, S1, env, hE.le st1.le, hd1, p2⟩
  · rename_i hc
    rw [if_neg hc] at p2
    exact p2.ret hd1 (by simp only [Rep])
theorem ve_or {es : List Expr} {f g : Envd → M D} (ha : VE T X W a f) (hb : VE T X W (.BoolOp .Or (b :: es) pos) g) : VE T X W (.BoolOp .Or (a :: b :: es) pos) (vOr f g) := by
  refine (pe_or ha hb).imp fun σ H Q ⟨G, S, env, hE, hH, p⟩ => ?_
  refine ⟨G, S, env, hE, hH, (p.bnd (rel := Rep T)).mono fun G1 S1 d x H1 st1 hd1 r1 p1 => ?_⟩
  obtain ⟨c, rfl, p2⟩ := asB_ok hd1 r1 p1
  refine ⟨c, rfl, ?_⟩
  split
  · rename_i hc
    rw [if_pos hc] at p2
    exact p2.ret hd1 (by simp only [Rep])
  · rename_i hc
    rw [if_neg hc] at p2
    exact ⟨G1, S1, env, hE.le st1.le, hd1, p2⟩
theorem ve_not {f : Envd → M D} (ha : VE T X W a f) : VE T X W (.UnaryOp .Not a pos) (vNot f) := by
  refine (pe_not ha).imp fun σ H Q ⟨G, S, env, hE, hH, p⟩ => ?_
  refine ⟨G, S, env, hE, hH, (p.bnd (rel := Rep T)).mono fun G1 S1 d x H1 st1 hd1 r1 p1 => ?_⟩
  obtain ⟨c, rfl, p2⟩ := asB_ok hd1 r1 p1
  exact ⟨c, rfl, p2.ret hd1 (by simp only [Rep])⟩
def sIf {α : Type} (c : Envd → M Bool) (f g : Envd → M α) : Envd → M α := fun env => bnd (c env) fun b => if b = true then f env else g env
theorem ve_if {c : Expr} {fc : Envd → M Bool} (hc : VT T X W c fc) (ha : VE T X W a fa) (hb : VE T X W b fb) : VE T X W (.IfExp c a b pos) (sIf fc fa fb) := by
  refine (pe_ifExp hc ha hb).imp fun σ H Q ⟨G, S, env, hE, hH, p⟩ => ?_
  refine ⟨G, S, env, hE, hH, (p.bnd (rel := fun _ (a b : Bool) => b = a)).mono fun G1 S1 k d H1 st1 hd1 r1 p1 => ?_⟩
  subst r1
  split
  · rename_i hk
    rw [if_pos hk] at p1
    exact ⟨G1, S1, env, hE.le st1.le, hd1, p1⟩
  · rename_i hk
    rw [if_neg hk] at p1
    exact ⟨G1, S1, env, hE.le st1.le, hd1, p1⟩
end
end Ev

set_option Elab.async false
set_option linter.all false
set_option maxRecDepth 100000
set_option maxHeartbeats 4000000
/-! EvC: comparisons, chains, subscripts, slices. -/
namespace Ev
open PySem PySem.Spec PyProof.Rows L2

/-! ### == by data -/
def toPl (g : D → Option PyData) : List D → Option (List PyData)
  | [] => some []
  | d :: ds => match g d, toPl g ds with
    | some p, some ps => some (p :: ps)
    | _, _ => none
def toP (S : Store) : Nat → D → Option PyData
  | 0, d => match d with
    | .non => some .none
    | .bl b => some (.bool b)
    | .int i => some (.int i)
    | .str x => some (.str x)
    | _ => none
  | n + 1, d => match d with
    | .non => some .none
    | .bl b => some (.bool b)
    | .int i => some (.int i)
    | .str x => some (.str x)
    | .lst xs => (toPl (toP S n) xs).map .list
    | .tup xs => (toPl (toP S n) xs).map .tuple
    | .ref k => match seqL S (.ref k) with
      | some xs => (toPl (toP S n) xs).map .list
      | none => none
    | _ => none
def toPs (S : Store) (n : Nat) : List D → Option (List PyData) := toPl (toP S n)
section
variable {S : Store} {n : Nat}
theorem toP_non : toP S n .non = some .none := by cases n <;> rfl
theorem toP_bl {b : Bool} : toP S n (.bl b) = some (.bool b) := by cases n <;> rfl
theorem toP_int {i : Int} : toP S n (.int i) = some (.int i) := by cases n <;> rfl
theorem toP_str {x : Str} : toP S n (.str x) = some (.str x) := by cases n <;> rfl
theorem toP_scr {x : List Int} : toP S n (.scr x) = none := by cases n <;> rfl
theorem toP_dct {ks : List Key} {xs : List D} : toP S n (.dct ks xs) = none := by cases n <;> rfl
theorem toP_obj {c : Nat} {xs : List D} : toP S n (.obj c xs) = none := by cases n <;> rfl
theorem toP_l0 {xs : List D} : toP S 0 (.lst xs) = none := rfl
theorem toP_t0 {xs : List D} : toP S 0 (.tup xs) = none := rfl
theorem toP_r0 {k : Nat} : toP S 0 (.ref k) = none := rfl
theorem toP_lst {xs : List D} : toP S (n + 1) (.lst xs) = (toPs S n xs).map .list := rfl
theorem toP_tup {xs : List D} : toP S (n + 1) (.tup xs) = (toPs S n xs).map .tuple := rfl
theorem toP_ref {k : Nat} : toP S (n + 1) (.ref k) = match seqL S (.ref k) with
      | some xs => (toPs S n xs).map .list
      | none => none := rfl
theorem toPs_nil : toPs S n [] = some [] := rfl
theorem toPs_cons {d : D} {ds : List D} : toPs S n (d :: ds) = match toP S n d, toPs S n ds with
    | some p, some ps => some (p :: ps)
    | _, _ => none := rfl
end
section
variable {T : Kit} {G : Gh} {S : Store} {H : Hp} {K : PySem.W.Frag}
mutual
theorem toP_ok (hK : K = T.K) (hH : Held T G S H) : ∀ (n : Nat) {d : D} {x : V} {p : PyData}, Rep T G d x → toP S n d = some p → Dp K H x p
  | n, .non, x, p, r, e => by
    simp only [Rep] at r; subst r
    simp only [toP_non, toP_bl, toP_int, toP_str, toP_scr, toP_dct, toP_obj, toP_l0, toP_t0, toP_r0, toP_lst, toP_tup, toP_ref] at e; cases e; exact .non
  | n, .bl b, x, p, r, e => by
    simp only [Rep] at r; subst r
    simp only [toP_non, toP_bl, toP_int, toP_str, toP_scr, toP_dct, toP_obj, toP_l0, toP_t0, toP_r0, toP_lst, toP_tup, toP_ref] at e; cases e; exact .bl b
  | n, .int i, x, p, r, e => by
    simp only [Rep] at r; subst r
    simp only [toP_non, toP_bl, toP_int, toP_str, toP_scr, toP_dct, toP_obj, toP_l0, toP_t0, toP_r0, toP_lst, toP_tup, toP_ref] at e; cases e; exact .int i
  | n, .str s, x, p, r, e => by
    simp only [Rep] at r; subst r
    simp only [toP_non, toP_bl, toP_int, toP_str, toP_scr, toP_dct, toP_obj, toP_l0, toP_t0, toP_r0, toP_lst, toP_tup, toP_ref] at e; cases e; exact .str s
  | 0, .lst xs, x, p, r, e => by simp only [toP_non, toP_bl, toP_int, toP_str, toP_scr, toP_dct, toP_obj, toP_l0, toP_t0, toP_r0, toP_lst, toP_tup, toP_ref] at e; cases e
  | 0, .tup xs, x, p, r, e => by simp only [toP_non, toP_bl, toP_int, toP_str, toP_scr, toP_dct, toP_obj, toP_l0, toP_t0, toP_r0, toP_lst, toP_tup, toP_ref] at e; cases e
  | 0, .ref k, x, p, r, e => by simp only [toP_non, toP_bl, toP_int, toP_str, toP_scr, toP_dct, toP_obj, toP_l0, toP_t0, toP_r0, toP_lst, toP_tup, toP_ref] at e; cases e
  | n + 1, .lst xs, x, p, r, e => by
    simp only [toP_non, toP_bl, toP_int, toP_str, toP_scr, toP_dct, toP_obj, toP_l0, toP_t0, toP_r0, toP_lst, toP_tup, toP_ref] at e
    obtain ⟨ps, e1, rfl⟩ := Option.map_eq_some_iff.mp e
    simp only [Rep] at r
    obtain ⟨a, vs, rfl, q, z⟩ := r
    exact .lst (SqL.of (hH.ext _ _ q)) (toPs_ok hK hH n z e1)
  | n + 1, .tup xs, x, p, r, e => by
    simp only [toP_non, toP_bl, toP_int, toP_str, toP_scr, toP_dct, toP_obj, toP_l0, toP_t0, toP_r0, toP_lst, toP_tup, toP_ref] at e
    obtain ⟨ps, e1, rfl⟩ := Option.map_eq_some_iff.mp e
    simp only [Rep] at r
    obtain ⟨a, vs, rfl, q, z⟩ := r
    exact .tup (hK ▸ sqT_le hH.ext q) (toPs_ok hK hH n z e1)
  | n + 1, .ref k, x, p, r, e => by
    simp only [toP_non, toP_bl, toP_int, toP_str, toP_scr, toP_dct, toP_obj, toP_l0, toP_t0, toP_r0, toP_lst, toP_tup, toP_ref] at e
    split at e
    · rename_i xs h
      obtain ⟨ps, e1, rfl⟩ := Option.map_eq_some_iff.mp e
      obtain ⟨a, vs, rfl, q, z⟩ := seqL_ok hH r h
      exact .lst (SqL.of q) (toPs_ok hK hH n z e1)
    · cases e
  | n, .scr _, x, p, r, e => by cases n <;> simp only [toP_non, toP_bl, toP_int, toP_str, toP_scr, toP_dct, toP_obj, toP_l0, toP_t0, toP_r0, toP_lst, toP_tup, toP_ref] at e <;> cases e
  | n, .dct _ _, x, p, r, e => by cases n <;> simp only [toP_non, toP_bl, toP_int, toP_str, toP_scr, toP_dct, toP_obj, toP_l0, toP_t0, toP_r0, toP_lst, toP_tup, toP_ref] at e <;> cases e
  | n, .obj _ _, x, p, r, e => by cases n <;> simp only [toP_non, toP_bl, toP_int, toP_str, toP_scr, toP_dct, toP_obj, toP_l0, toP_t0, toP_r0, toP_lst, toP_tup, toP_ref] at e <;> cases e
theorem toPs_ok (hK : K = T.K) (hH : Held T G S H) : ∀ (n : Nat) {ds : List D} {xs : List V} {ps : List PyData}, Reps T G ds xs → toPs S n ds = some ps → DpAll K H xs ps
  | n, [], xs, ps, r, e => by
    simp only [Reps] at r; subst r
    simp only [toPs_nil, toPs_cons] at e; cases e; exact .nil
  | n, d :: ds, xs, ps, r, e => by
    simp only [Reps] at r
    obtain ⟨v, vs, rfl, r1, r2⟩ := r
    simp only [toPs_nil, toPs_cons] at e
    split at e
    · rename_i p ps' h1 h2
      cases e
      exact .cons (toP_ok hK hH n r1 h1) (toPs_ok hK hH n r2 h2)
    · cases e
end
end
def dEq (neg : Bool) (d e : D) : M D := fun S => match toP S 12 d, toP S 12 e with
  | some p, some q => if SeqAt.shaped p = true ∧ SeqAt.shaped q = true then .ok (.bl (if neg then !PyData.eqv p q else PyData.eqv p q)) S else .stuck
  | _, _ => .stuck
section
variable {T : Kit} {X : Cx} {W : WX} {pos : Pos} {a b : Expr} {fa fb : Envd → M D}
abbrev Two (T : Kit) (g : D → D → M D) (r : R2) : Prop := ∀ (W : XK) (G : Gh) (S : Store) (H : Hp) (d e : D) (x y : V) (Q : VK), Held T G S H → Rep T G d x → Rep T G e y → PV T G H W (g d e S) Q → r x y H Q
theorem two_eq (hK : X.K = T.K) : Two T (dEq false) (rEqD X.K) := fun W G S H d e x y Q hH r1 r2 p => by
  unfold dEq at p
  split at p
  · rename_i u v e1 e2
    split at p
    · rename_i hs
      exact ⟨u, v, toP_ok hK hH _ r1 e1, toP_ok hK hH _ r2 e2, hs.1, hs.2, p.ok hH (by simp only [Rep]; rfl)⟩
    · exact p.elim
  · exact p.elim
theorem two_ne (hK : X.K = T.K) : Two T (dEq true) (rNeD X.K) := fun W G S H d e x y Q hH r1 r2 p => by
  unfold dEq at p
  split at p
  · rename_i u v e1 e2
    split at p
    · rename_i hs
      exact ⟨u, v, toP_ok hK hH _ r1 e1, toP_ok hK hH _ r2 e2, hs.1, hs.2, p.ok hH (by simp only [Rep]; rfl)⟩
    · exact p.elim
  · exact p.elim
def dCmpI (f : Int → Int → Bool) : D → D → M D
  | .int i, .int j => ret (.bl (f i j))
  | _, _ => stk
theorem two_cmpI (f : Int → Int → Bool) : Two T (dCmpI f) (rI0 fun i j => .bl (f i j)) := fun W G S H d e x y Q hH r1 r2 p => by
  unfold dCmpI at p
  split at p
  · simp only [Rep] at r1 r2
    subst r1; subst r2
    exact ⟨_, _, rfl, rfl, p.ret hH (by simp only [Rep])⟩
  · exact p.elim
def dIsN (neg : Bool) (d e : D) : M D := match d, e with
  | .non, .non => ret (.bl (!neg))
  | _, .non => ret (.bl neg)
  | _, _ => stk
theorem isN_of {G : Gh} {d : D} {x : V} (r : Rep T G d x) : (d = .non ∧ x = .non) ∨ (d ≠ .non ∧ x ≠ .non) := by
  cases d <;> simp only [Rep] at r
  · exact .inl ⟨rfl, r⟩
  all_goals (refine .inr ⟨fun z => (by cases z), fun z => ?_⟩; subst z; first | (obtain ⟨a, b, c, e, _⟩ := r; cases e; done) | (obtain ⟨a, b, e, _⟩ := r; cases e; done) | (obtain ⟨a, e, _⟩ := r; cases e; done) | (cases r; done))
theorem two_isN : Two T (dIsN false) (fun x y H Q => y = .non ∧ Q (.bl (decide (x = .non))) H) := fun W G S H d e x y Q hH r1 r2 p => by
  unfold dIsN at p
  split at p
  · simp only [Rep] at r1 r2
    subst r1; subst r2
    exact ⟨rfl, p.ret hH (by simp only [Rep]; rfl)⟩
  · rename_i hn
    simp only [Rep] at r2
    subst r2
    rcases isN_of r1 with ⟨e, _⟩ | ⟨_, e⟩
    · exact absurd e (by intro z; exact hn z)
    · refine ⟨rfl, ?_⟩
      rw [decide_eq_false e]
      exact p.ret hH (by simp only [Rep])
  · exact p.elim
theorem two_notN : Two T (dIsN true) (fun x y H Q => y = .non ∧ Q (.bl (!decide (x = .non))) H) := fun W G S H d e x y Q hH r1 r2 p => by
  unfold dIsN at p
  split at p
  · simp only [Rep] at r1 r2
    subst r1; subst r2
    exact ⟨rfl, p.ret hH (by simp only [Rep]; rfl)⟩
  · rename_i hn
    simp only [Rep] at r2
    subst r2
    rcases isN_of r1 with ⟨e, _⟩ | ⟨_, e⟩
    · exact absurd e (by intro z; exact hn z)
    · refine ⟨rfl, ?_⟩
      rw [decide_eq_false e]
      exact p.ret hH (by simp only [Rep]; rfl)
  · exact p.elim

/-! ### in -/
def flD : D → Option V
  | .non => some .non
  | .bl b => some (.bl b)
  | .int i => some (.int i)
  | .str x => some (.str x)
  | _ => none
def flDs : List D → Option (List V)
  | [] => some []
  | d :: ds => match flD d, flDs ds with
    | some v, some vs => some (v :: vs)
    | _, _ => none
theorem flD_ok {G : Gh} {d : D} {x v : V} (r : Rep T G d x) (e : flD d = some v) : x = v ∧ flatV x = true := by
  cases d <;> simp only [flD] at e <;> cases e <;> (simp only [Rep] at r; subst r; exact ⟨rfl, rfl⟩)
theorem flDs_ok {G : Gh} : ∀ {ds : List D} {xs vs : List V}, Reps T G ds xs → flDs ds = some vs → xs = vs ∧ xs.all flatV = true
  | [], xs, vs, r, e => by
    simp only [Reps] at r; subst r
    simp only [flDs] at e; cases e; exact ⟨rfl, rfl⟩
  | d :: ds, xs, vs, r, e => by
    simp only [Reps] at r
    obtain ⟨v, r', rfl, r1, r2⟩ := r
    simp only [flDs] at e
    split at e
    · rename_i w ws h1 h2
      cases e
      obtain ⟨rfl, f1⟩ := flD_ok r1 h1
      obtain ⟨rfl, f2⟩ := flDs_ok r2 h2
      exact ⟨rfl, by rw [List.all_cons, f1, f2]; rfl⟩
    · cases e
/-- x in a text, a tuple of flat items, a list of data, a dict -/
def dIn (neg : Bool) (d e : D) : M D := fun S => match d, e with
  | .str ⟨cs⟩, .str z => match cs.toList with
    | [c] => .ok (.bl (if neg then !decide (c ∈ z.cps.toList) else decide (c ∈ z.cps.toList))) S
    | _ => .stuck
  | d, .tup xs => match flD d, flDs xs with
    | some v, some vs => .ok (.bl (if neg then !inV v vs else inV v vs)) S
    | _, _ => .stuck
  | d, e => match toP S 12 d, toP S 12 e with
    | some p, some (.list qs) => if SeqAt.shaped p = true ∧ SeqAt.shaped (.list qs) = true then .ok (.bl (if neg then !qs.any (fun z => PyData.eqv z p) else qs.any (fun z => PyData.eqv z p))) S else .stuck
    | _, _ => .stuck
def rInA (K : PySem.W.Frag) : R2 := fun x y H Q => (∃ (c : Nat) (z : Str), x = .str ⟨#[c]⟩ ∧ y = .str z ∧ Q (.bl (decide (c ∈ z.cps.toList))) H) ∨ (rIn K false x y H Q ∨ rInD K x y H Q)
def rNotInA (K : PySem.W.Frag) : R2 := fun x y H Q => (∃ (c : Nat) (z : Str), x = .str ⟨#[c]⟩ ∧ y = .str z ∧ Q (.bl (!decide (c ∈ z.cps.toList))) H) ∨ (rIn K true x y H Q ∨ rNotInD K x y H Q)
theorem op_inA (hu : X.A.units + 65 < cLine) : OpR X (compareOp .In) (rInA X.K) := op_in_sign.or (op_in_seq.or (op_inD hu))
theorem op_notInA (hu : X.A.units + 65 < cLine) : OpR X (compareOp .NotIn) (rNotInA X.K) := op_notIn_sign.or (op_notIn_seq.or (op_notInD hu))
theorem two_in (hK : X.K = T.K) : Two T (dIn false) (rInA X.K) := fun W G S H d e x y Q hH r1 r2 p => by
  unfold dIn at p
  split at p
  · rename_i cs z
    split at p
    · rename_i c hc
      have hcs : cs = #[c] := by rw [← Array.toList_inj, hc]
      subst hcs
      simp only [Rep] at r1 r2
      subst r1; subst r2
      exact .inl ⟨c, z, rfl, rfl, p.ok hH (by simp only [Rep]; rfl)⟩
    · exact p.elim
  · split at p
    · rename_i v vs h1 h2
      simp only [Rep] at r2
      obtain ⟨a, ws, rfl, q, z⟩ := r2
      obtain ⟨rfl, f1⟩ := flD_ok r1 h1
      obtain ⟨rfl, f2⟩ := flDs_ok z h2
      exact .inr (.inl ⟨a, _, rfl, .inr (hK ▸ sqT_le hH.ext q), f1, f2, p.ok hH (by simp only [Rep])⟩)
    · exact p.elim
  · split at p
    · rename_i u qs e1 e2
      split at p
      · rename_i hs
        exact .inr (.inr ⟨u, qs, toP_ok hK hH _ r1 e1, toP_ok hK hH _ r2 e2, hs.1, hs.2, p.ok hH (by simp only [Rep]; rfl)⟩)
      · exact p.elim
    · exact p.elim
theorem two_notIn (hK : X.K = T.K) : Two T (dIn true) (rNotInA X.K) := fun W G S H d e x y Q hH r1 r2 p => by
  unfold dIn at p
  split at p
  · rename_i cs z
    split at p
    · rename_i c hc
      have hcs : cs = #[c] := by rw [← Array.toList_inj, hc]
      subst hcs
      simp only [Rep] at r1 r2
      subst r1; subst r2
      exact .inl ⟨c, z, rfl, rfl, p.ok hH (by simp only [Rep]; rfl)⟩
    · exact p.elim
  · split at p
    · rename_i v vs h1 h2
      simp only [Rep] at r2
      obtain ⟨a, ws, rfl, q, z⟩ := r2
      obtain ⟨rfl, f1⟩ := flD_ok r1 h1
      obtain ⟨rfl, f2⟩ := flDs_ok z h2
      exact .inr (.inl ⟨a, _, rfl, .inr (hK ▸ sqT_le hH.ext q), f1, f2, p.ok hH (by simp only [Rep])⟩)
    · exact p.elim
  · split at p
    · rename_i u qs e1 e2
      split at p
      · rename_i hs
        exact .inr (.inr ⟨u, qs, toP_ok hK hH _ r1 e1, toP_ok hK hH _ r2 e2, hs.1, hs.2, p.ok hH (by simp only [Rep]; rfl)⟩)
      · exact p.elim
    · exact p.elim

/-! ### a < b < c -/
def sChain (g g' : D → D → M D) (fa fb fc : Envd → M D) : Envd → M D := fun env => bnd (fa env) fun x => bnd (fb env) fun y => bnd (g x y) fun z => bnd (asB z) fun k =>
  if k = true then bnd (fc env) fun w => g' y w else ret (.bl false)
theorem ve_chain {op op' : CmpOp} {r r' : R2} {c : Expr} {fc : Envd → M D} {g g' : D → D → M D} (ho : OpR X (compareOp op) r) (ho' : OpR X (compareOp op') r')
    (hr : ∀ (W : XK) (G : Gh) (S : Store) (H : Hp) (d e : D) (x y : V) (Q : VK), Held T G S H → Rep T G d x → Rep T G e y → PV T G H W (g d e S) Q → r x y H Q) (hr' : Two T g' r')
    (hm : lastMarks [op, op'] [b, c] = false) (ha : VE T X W a fa) (hb : VE T X W b fb) (hc : VE T X W c fc) :
    VE T X W (.Compare a [op, op'] [b, c] pos) (sChain g g' fa fb fc) := by
  refine (pe_chain ho ho' ha hb hc hm).imp fun σ H Q ⟨G, S, env, hE, hH, p⟩ => ?_
  refine ⟨G, S, env, hE, hH, (p.bnd (rel := Rep T)).mono fun G1 S1 d x H1 st1 hd1 r1 p1 => ?_⟩
  refine ⟨G1, S1, env, hE.le st1.le, hd1, (p1.bnd (rel := Rep T)).mono fun G2 S2 e y H2 st2 hd2 r2 p2 => ?_⟩
  refine hr (at_ W σ) G2 S2 H2 d e x y _ hd2 (r1.le st2.le) r2 ((p2.bnd (rel := Rep T)).mono fun G3 S3 z v H3 st3 hd3 r3 p3 => ?_)
  obtain ⟨k, rfl, p4⟩ := asB_ok hd3 r3 p3
  refine ⟨k, rfl, ?_⟩
  split
  · rename_i hk
    rw [if_pos hk] at p4
    refine ⟨G3, S3, env, hE.le ((st1.trans st2).trans st3).le, hd3, (p4.bnd (rel := Rep T)).mono fun G4 S4 w u H4 st4 hd4 r4 p5 => ?_⟩
    exact hr' _ _ _ _ _ _ _ _ _ hd4 (r2.le (st3.trans st4).le) r4 p5
  · rename_i hk
    rw [if_neg hk] at p4
    exact p4.ret hd3 (by simp only [Rep])

theorem vt_chain {op op' : CmpOp} {r r' : R2} {c : Expr} {fc : Envd → M D} {g g' : D → D → M D} (ho : OpR X (compareOp op) r) (ho' : OpR X (compareOp op') r') (hr : Two T g r) (hr' : Two T g' r')
    (hm : lastMarks [op, op'] [b, c] = false) (ha : VE T X W a fa) (hb : VE T X W b fb) (hc : VE T X W c fc) :
    VT T X W (.Compare a [op, op'] [b, c] pos) (fun env => bnd (sChain g g' fa fb fc env) asB) := by
  refine (pt_chain ho ho' ha hb hc hm).imp fun σ H Q ⟨G, S, env, hE, hH, p⟩ => ?_
  refine ⟨G, S, env, hE, hH, ((p.bnd (rel := Rep T)).bnd (rel := Rep T)).mono fun G1 S1 d x H1 st1 hd1 r1 p1 => ?_⟩
  refine ⟨G1, S1, env, hE.le st1.le, hd1, (p1.bnd (rel := Rep T)).mono fun G2 S2 e y H2 st2 hd2 r2 p2 => ?_⟩
  refine hr (at_ W σ) G2 S2 H2 d e x y _ hd2 (r1.le st2.le) r2 ((p2.bnd (rel := Rep T)).mono fun G3 S3 z v H3 st3 hd3 r3 p3 => ?_)
  obtain ⟨k, rfl, p4⟩ := asB_ok hd3 r3 p3
  refine ⟨k, rfl, ?_⟩
  split
  · rename_i hk
    rw [if_pos hk] at p4
    refine ⟨G3, S3, env, hE.le ((st1.trans st2).trans st3).le, hd3, (p4.bnd (rel := Rep T)).mono fun G4 S4 w u H4 st4 hd4 r4 p5 => ?_⟩
    refine hr' (at_ W σ) _ _ _ _ _ _ _ _ hd4 (r2.le (st3.trans st4).le) r4 (p5.mono fun G5 S5 d' x' H5 st5 hd5 r5 p6 => ?_)
    unfold asB at p6
    split at p6
    · simp only [Rep] at r5
      subst r5
      exact ⟨_, rfl, p6.ret hd5 rfl⟩
    · exact p6.elim
  · rename_i hk
    rw [if_neg hk] at p4
    have p5 := p4.ret (b := V.bl false) hd3 (by simp only [Rep])
    exact ⟨false, rfl, p5.ret hd3 rfl⟩

/-! ### subscripts -/
theorem atI_rep {G : Gh} {ds : List D} {vs : List V} {i : Int} {d : D} (r : Reps T G ds vs) (e : atI ds i = some d) : ∃ v, atI vs i = some v ∧ Rep T G d v := by
  unfold atI at e ⊢
  rw [← r.len]
  cases h : ixN ds.length i with
  | none => rw [h] at e; cases e
  | some j =>
    rw [h] at e
    obtain ⟨v, h1, h2⟩ := reps_get r (show ds[j]? = some d from e)
    exact ⟨v, h1, h2⟩
def dIx (d e : D) : M D := fun S => match d, e with
  | .tup xs, .int i => match atI xs i with
    | some x => .ok x S
    | none => .stuck
  | .str z, .int i => if z.length ≤ sizeLine then match atI z.cps.toList i with
      | some c => .ok (.str ⟨#[c]⟩) S
      | none => .stuck
    else .stuck
  | d, .int i => match seqL S d with
    | some xs => match atI xs i with
      | some x => .ok x S
      | none => .stuck
    | none => .stuck
  | _, _ => .stuck
theorem two_ix (hK : X.K = T.K) : Two T dIx (rIx X.K) := fun W G S H d e x y Q hH r1 r2 p => by
  unfold dIx at p
  split at p
  · rename_i xs i
    split at p
    · rename_i z h
      simp only [Rep] at r1 r2
      obtain ⟨a, vs, rfl, q, w⟩ := r1
      subst r2
      obtain ⟨v, h1, h2⟩ := atI_rep w h
      exact .inr (.inl ⟨a, vs, i, v, rfl, rfl, hK ▸ sqT_le hH.ext q, h1, p.ok hH h2⟩)
    · exact p.elim
  · rename_i z i
    split at p
    · rename_i hz
      split at p
      · rename_i c h
        simp only [Rep] at r1 r2
        subst r1; subst r2
        exact .inr (.inr ⟨z, i, c, rfl, rfl, hz, h, p.ok hH (by simp only [Rep])⟩)
      · exact p.elim
    · exact p.elim
  · rename_i i _ _
    split at p
    · rename_i xs h0
      split at p
      · rename_i z h
        obtain ⟨a, vs, rfl, q, w⟩ := seqL_ok hH r1 h0
        simp only [Rep] at r2
        subst r2
        obtain ⟨v, h1, h2⟩ := atI_rep w h
        exact .inl ⟨a, vs, i, v, rfl, rfl, SqL.of q, h1, p.ok hH h2⟩
      · exact p.elim
    · exact p.elim
  · exact p.elim
theorem ve_ix (hK : X.K = T.K) (hs : PlainIx b) (ha : VE T X W a fa) (hb : VE T X W b fb) : VE T X W (.Subscript a b pos) (fun env => bnd (fa env) fun d => bnd (fb env) fun e => dIx d e) :=
  (pe_ix ix_seq ha hb hs).imp (tOp_of (two_ix hK))

/-! ### slices -/
def cutD (xs : List D) (lo hi : Option Int) : List D := (xs.drop (HT.sIx xs.length 0 lo)).take (HT.sIx xs.length xs.length hi - HT.sIx xs.length 0 lo)
theorem reps_cut {G : Gh} {ds : List D} {vs : List V} {lo hi : Option Int} (r : Reps T G ds vs) : Reps T G (cutD ds lo hi) (cutV vs lo hi) := by
  unfold cutD cutV
  rw [r.len]
  exact reps_take _ (reps_drop _ r)
def dSl (mu : Bool) (d : D) (lo hi : Option Int) : M D := match d with
  | .str z => if z.length ≤ sizeLine then ret (.str (cutS z lo hi)) else stk
  | .scr xs => newL mu (cutD (xs.map .int) lo hi)
  | .tup xs => ret (.tup (cutD xs lo hi))
  | d => fun S => match seqL S d with
    | some xs => newL mu (cutD xs lo hi) S
    | none => .stuck
def rSlX (K : PySem.W.Frag) : V → Option Int → Option Int → Hp → VK → Prop := fun x lo hi H Q => rSlL K x lo hi H Q ∨ (rSlA K x lo hi H Q ∨ rSlS x lo hi H Q)
theorem sl_any : SlR X (rSlX X.K) := sl_list.or (sl_tupA.or sl_str)
theorem cut_whole {α : Type} {xs : List α} {lo hi : Option Int} (h : HT.sIx xs.length 0 lo = 0 ∧ HT.sIx xs.length xs.length hi = xs.length) : (xs.drop (HT.sIx xs.length 0 lo)).take (HT.sIx xs.length xs.length hi - HT.sIx xs.length 0 lo) = xs := by
  rw [h.1, h.2]
  simp
theorem sl_rep (hK : X.K = T.K) {mu : Bool} {W : XK} {G : Gh} {S : Store} {H : Hp} {d : D} {x : V} {lo hi : Option Int} {Q : VK} (hH : Held T G S H) (r1 : Rep T G d x) (p : PV T G H W (dSl mu d lo hi S) Q) : rSlX X.K x lo hi H Q := by
  unfold dSl at p
  split at p
  · split at p
    · rename_i hz
      simp only [Rep] at r1
      subst r1
      exact .inr (.inr ⟨_, rfl, hz, p.ret hH (by simp only [Rep])⟩)
    · exact p.elim
  · rename_i xs
    simp only [Rep] at r1
    obtain ⟨a, rfl, q⟩ := r1
    exact .inl ⟨a, _, rfl, hK ▸ sqL_le hH.ext q, newL_ok hH (reps_cut ints_reps) p⟩
  · rename_i xs
    simp only [Rep] at r1
    obtain ⟨a, vs, rfl, q, w⟩ := r1
    refine .inr (.inl ⟨a, vs, rfl, hK ▸ sqT_le hH.ext q, fun hw => ?_, fun _ => newT_ok hH (reps_cut w) p⟩)
    have e1 : cutD xs lo hi = xs := by
      unfold cutD
      rw [← w.len] at hw
      exact cut_whole hw
    rw [e1] at p
    exact p.ret hH (by simp only [Rep]; exact ⟨a, vs, rfl, q, w⟩)
  · dsimp only at p
    split at p
    · rename_i xs h0
      obtain ⟨a, vs, rfl, q, w⟩ := seqL_ok hH r1 h0
      exact .inl ⟨a, vs, rfl, SqL.of q, newL_ok hH (reps_cut w) p⟩
    · exact p.elim
/-- a slice's part -/
def asI (d : D) : M (Option Int) := fun S => match d with
  | .int i => .ok (some i) S
  | _ => .stuck
def sPart : Option (Envd → M D) → Envd → M (Option Int)
  | none => fun _ => ret none
  | some f => fun env => bnd (f env) asI
abbrev eqR {α : Type} : Gh → α → α → Prop := fun _ a b => b = a
def tO (T : Kit) (W : WX) (f : Envd → M (Option Int)) : TO := fun σ H Q => ∃ G S env, EnvRep T G env σ ∧ Held T G S H ∧ Pst T eqR G H (at_ W σ) (f env S) fun _ _ _ b H' => Q b H'
theorem _root_.L2.PO.imp {X : Cx} {e : Option Expr} {t t' : TO} (h : PO X e t) (k : ∀ σ H Q, t' σ H Q → t σ H Q) : PO X e t' := ⟨fun pins s σ H Q I q => h.run pins s σ H Q I (k _ _ _ q)⟩
theorem vo_none : PO X none (tO T W (sPart none)) := po_none.imp fun σ H Q ⟨G, S, env, hE, hH, p⟩ => p.ret hH rfl
theorem vo_some (ha : VE T X W a fa) : PO X (some a) (tO T W (sPart (some fa))) := by
  refine (po_some ha).imp fun σ H Q ⟨G, S, env, hE, hH, p⟩ => ?_
  refine ⟨G, S, env, hE, hH, (p.bnd (rel := Rep T)).mono fun G1 S1 d x H1 st1 hd1 r1 p1 => ?_⟩
  unfold asI at p1
  split at p1
  · simp only [Rep] at r1
    subst r1
    exact ⟨_, rfl, p1.ok hd1 rfl⟩
  · exact p1.elim
theorem ve_slice {mu : Bool} {lo hi : Option Expr} {flo fhi : Envd → M (Option Int)} {p2 : Pos} (hK : X.K = T.K) (ha : VE T X W a fa) (hl : PO X lo (tO T W flo)) (hh : PO X hi (tO T W fhi)) :
    VE T X W (.Subscript a (.Slice lo hi none p2) pos) (fun env => bnd (fa env) fun d => bnd (flo env) fun l => bnd (fhi env) fun h => dSl mu d l h) := by
  refine (pe_slice sl_any ha hl hh).imp fun σ H Q ⟨G, S, env, hE, hH, p⟩ => ?_
  refine ⟨G, S, env, hE, hH, (p.bnd (rel := Rep T)).mono fun G1 S1 d x H1 st1 hd1 r1 p1 => ?_⟩
  refine ⟨G1, S1, env, hE.le st1.le, hd1, (p1.bnd (rel := eqR)).mono fun G2 S2 l l' H2 st2 hd2 r2 p2 => ?_⟩
  refine ⟨G2, S2, env, hE.le (st1.trans st2).le, hd2, (p2.bnd (rel := eqR)).mono fun G3 S3 h h' H3 st3 hd3 r3 p3 => ?_⟩
  subst r2; subst r3
  exact sl_rep hK hd3 (r1.le (st2.trans st3).le) p3
/-- xs[::-1] -/
def dRev (mu : Bool) (d : D) : M D := fun S => match seqL S d with
  | some xs => newL mu xs.reverse S
  | none => .stuck
theorem ve_rev {mu : Bool} {k : Nat} {p1 p2 p3 : Pos} (ha : VE T X W a fa) : VE T X W (.Subscript a (.Slice none none (some (.UnaryOp .USub (.Constant (.int 1) k p1) p2)) p3) pos) (fun env => bnd (fa env) fun d => dRev mu d) := by
  refine (pe_revL ha).imp fun σ H Q ⟨G, S, env, hE, hH, p⟩ => ?_
  refine ⟨G, S, env, hE, hH, (p.bnd (rel := Rep T)).mono fun G1 S1 d x H1 st1 hd1 r1 p1 => ?_⟩
  unfold dRev at p1
  split at p1
  · rename_i xs h0
    obtain ⟨a, vs, rfl, q, w⟩ := seqL_ok hd1 r1 h0
    exact ⟨a, vs, rfl, SqL.of q, newL_ok hd1 (reps_rev w) p1⟩
  · exact p1.elim
end
end Ev

set_option Elab.async false
set_option linter.all false
set_option maxRecDepth 100000
set_option maxHeartbeats 4000000
/-! EvD: calls of builtins by data. -/
namespace Ev
open PySem PySem.Spec PyProof.Rows L2

/-! ### ints, truth values, in lists of data -/
def intsOf : List D → Option (List Int)
  | [] => some []
  | .int i :: ds => (intsOf ds).map (i :: ·)
  | _ :: _ => none
def blsOf : List D → Option (List Bool)
  | [] => some []
  | .bl i :: ds => (blsOf ds).map (i :: ·)
  | _ :: _ => none
def strsOf : List D → Option (List Str)
  | [] => some []
  | .str i :: ds => (strsOf ds).map (i :: ·)
  | _ :: _ => none
section
variable {T : Kit} {G : Gh}
theorem intsOf_ok : ∀ {ds : List D} {vs : List V} {ns : List Int}, Reps T G ds vs → intsOf ds = some ns → vs = ns.map V.int
  | [], vs, ns, r, e => by
    simp only [Reps] at r; subst r
    simp only [intsOf] at e; cases e; rfl
  | d :: ds, vs, ns, r, e => by
    simp only [Reps] at r
    obtain ⟨v, r', rfl, r1, r2⟩ := r
    cases d <;> simp only [intsOf] at e <;> try cases e
    obtain ⟨ms, e1, rfl⟩ := Option.map_eq_some_iff.mp e
    simp only [Rep] at r1
    subst r1
    rw [intsOf_ok r2 e1]; rfl
theorem blsOf_ok : ∀ {ds : List D} {vs : List V} {ns : List Bool}, Reps T G ds vs → blsOf ds = some ns → vs = ns.map V.bl
  | [], vs, ns, r, e => by
    simp only [Reps] at r; subst r
    simp only [blsOf] at e; cases e; rfl
  | d :: ds, vs, ns, r, e => by
    simp only [Reps] at r
    obtain ⟨v, r', rfl, r1, r2⟩ := r
    cases d <;> simp only [blsOf] at e <;> try cases e
    obtain ⟨ms, e1, rfl⟩ := Option.map_eq_some_iff.mp e
    simp only [Rep] at r1
    subst r1
    rw [blsOf_ok r2 e1]; rfl
theorem strsOf_ok : ∀ {ds : List D} {vs : List V} {ns : List Str}, Reps T G ds vs → strsOf ds = some ns → vs = ns.map V.str
  | [], vs, ns, r, e => by
    simp only [Reps] at r; subst r
    simp only [strsOf] at e; cases e; rfl
  | d :: ds, vs, ns, r, e => by
    simp only [Reps] at r
    obtain ⟨v, r', rfl, r1, r2⟩ := r
    cases d <;> simp only [strsOf] at e <;> try cases e
    obtain ⟨ms, e1, rfl⟩ := Option.map_eq_some_iff.mp e
    simp only [Rep] at r1
    subst r1
    rw [strsOf_ok r2 e1]; rfl
end
/-- sorted, by insertion -/
def ins1 (x : Int) : List Int → List Int
  | [] => [x]
  | y :: ys => if x ≤ y then x :: y :: ys else y :: ins1 x ys
def isort : List Int → List Int
  | [] => []
  | x :: xs => ins1 x (isort xs)
theorem ins1_perm (x : Int) : ∀ ys : List Int, (ins1 x ys).Perm (x :: ys)
  | [] => .refl _
  | y :: ys => by
    unfold ins1
    split
    · exact .refl _
    · exact (List.Perm.cons y (ins1_perm x ys)).trans (.swap x y ys)
theorem isort_perm : ∀ xs : List Int, (isort xs).Perm xs
  | [] => .refl _
  | x :: xs => (ins1_perm x _).trans (.cons x (isort_perm xs))
theorem ins1_le (x : Int) : ∀ ys : List Int, ys.Pairwise (· ≤ ·) → (ins1 x ys).Pairwise (· ≤ ·)
  | [], _ => by simp [ins1]
  | y :: ys, h => by
    unfold ins1
    have h' := List.pairwise_cons.mp h
    split
    · rename_i hx
      refine List.pairwise_cons.mpr ⟨fun z hz => ?_, h⟩
      rcases List.mem_cons.mp hz with e | hz
      · rw [e]; exact hx
      · exact Int.le_trans hx (h'.1 z hz)
    · refine List.pairwise_cons.mpr ⟨fun z hz => ?_, ins1_le x ys h'.2⟩
      rcases List.mem_cons.mp ((ins1_perm x ys).mem_iff.mp hz) with e | hz
      · rw [e]; omega
      · exact h'.1 z hz
theorem isort_le : ∀ xs : List Int, (isort xs).Pairwise (· ≤ ·)
  | [] => .nil
  | x :: xs => ins1_le x _ (isort_le xs)
theorem sorted_one {xs ys : List Int} (p : xs.Perm ys) (h1 : xs.Pairwise (· ≤ ·)) (h2 : ys.Pairwise (· ≤ ·)) : xs = ys :=
  List.Perm.eq_of_pairwise (fun a b _ _ h1 h2 => Int.le_antisymm h1 h2) h1 h2 p

section
variable {T : Kit} {X : Cx} {W : WX} {pos : Pos} {a b : Expr}
abbrev Many (T : Kit) (g : List D → M D) (r : List V → Hp → VK → Prop) : Prop := ∀ (W : XK) (G : Gh) (S : Store) (H : Hp) (ds : List D) (xs : List V) (Q : VK), Held T G S H → Reps T G ds xs → PV T G H W (g ds S) Q → r xs H Q
def noStar : List Expr → Bool
  | [] => true
  | .Starred _ _ :: _ => false
  | _ :: es => noStar es
theorem star_cons {e : Expr} {es : List Expr} (h : noStar (e :: es) = true) {env : Env} : starEach (e :: es) env = (false, eval e env) :: starEach es env := by
  cases e <;> first | rfl | (simp only [noStar] at h; cases h)
theorem noStar_tail {e : Expr} {es : List Expr} (h : noStar (e :: es) = true) : noStar es = true := by
  cases e <;> simp only [noStar] at h <;> first | exact h | cases h
theorem star_any {es : List Expr} {env : Env} (h : noStar es = true) : (backTo pos (starEach es env)).any (·.1) = false := by
  induction es with
  | nil => rfl
  | cons e es ih =>
    rw [star_cons h]
    have := ih (noStar_tail h)
    unfold backTo at this ⊢
    rw [List.map_cons, List.any_cons, this]; rfl
theorem ve_blt {id : String} {x : Str} {p : Pos} {e : Expr} {es : List Expr} {f : Envd → M (List D)} {g : List D → M D} {r : List V → Hp → VK → Prop} (hc : CallR X (.builtin id) r) (hg : Gl X x) (hm : X.mg x = none)
    (hv : bootBuiltins x = some (.builtin id)) (hr : Many T g r) (ha : VA T X W (e :: es) f) (hn : x ≠ "__name__") (hd : (x == ("__debug__" : Str)) = false) (hs : noStar (e :: es) = true) :
    VE T X W (.Call (.Name x p) (e :: es) [] pos) (fun env => bnd (f env) g) := by
  refine (pe_callB hc hg hm hv ha hn hd (star_cons hs) (star_any (noStar_tail hs))).imp fun σ H Q ⟨G, S, env, hE, hH, p⟩ => ?_
  refine ⟨G, S, env, hE, hH, (p.bnd (rel := Reps T)).mono fun G1 S1 ds xs H1 st1 hd1 r1 p1 => ?_⟩
  exact hr _ _ _ _ _ _ _ hd1 r1 p1
theorem ve_ty {id : String} {x : Str} {p : Pos} {e : Expr} {es : List Expr} {f : Envd → M (List D)} {g : List D → M D} {r : List V → Hp → VK → Prop} (hc : CallR X (.type id) r) (hg : Gl X x) (hm : X.mg x = none)
    (hv : bootBuiltins x = some (.type id)) (hr : Many T g r) (ha : VA T X W (e :: es) f) (hn : x ≠ "__name__") (hd : (x == ("__debug__" : Str)) = false) (hs : noStar (e :: es) = true) :
    VE T X W (.Call (.Name x p) (e :: es) [] pos) (fun env => bnd (f env) g) := by
  refine (pe_callTy hc hg hm hv ha hn hd (star_cons hs) (star_any (noStar_tail hs))).imp fun σ H Q ⟨G, S, env, hE, hH, p⟩ => ?_
  refine ⟨G, S, env, hE, hH, (p.bnd (rel := Reps T)).mono fun G1 S1 ds xs H1 st1 hd1 r1 p1 => ?_⟩
  exact hr _ _ _ _ _ _ _ hd1 r1 p1

theorem reps1 {G : Gh} {d : D} {xs : List V} (r : Reps T G [d] xs) : ∃ x, xs = [x] ∧ Rep T G d x := by
  simp only [Reps] at r
  obtain ⟨v, r', rfl, r1, rfl⟩ := r
  exact ⟨v, rfl, r1⟩
theorem reps2 {G : Gh} {d e : D} {xs : List V} (r : Reps T G [d, e] xs) : ∃ x y, xs = [x, y] ∧ Rep T G d x ∧ Rep T G e y := by
  simp only [Reps] at r
  obtain ⟨v, r', rfl, r1, w, r'', rfl, r2, rfl⟩ := r
  exact ⟨v, w, rfl, r1, r2⟩

/-! len -/
def dLen (ds : List D) : M D := fun S => match ds with
  | [.str z] => if z.length ≤ sizeLine then .ok (.int z.length) S else .stuck
  | [.tup xs] => .ok (.int xs.length) S
  | [d] => match seqL S d with
    | some xs => .ok (.int xs.length) S
    | none => .stuck
  | _ => .stuck
theorem many_len (hK : X.K = T.K) : Many T dLen (fun xs H Q => ∃ x n, xs = [x] ∧ LenV X.K x H n ∧ Q (.int n) H) := fun W G S H ds xs Q hH r p => by
  unfold dLen at p
  split at p
  · split at p
    · rename_i z hz
      obtain ⟨x, rfl, r1⟩ := reps1 r
      simp only [Rep] at r1
      subst r1
      exact ⟨_, z.length, rfl, ⟨hz, rfl⟩, p.ok hH (by simp only [Rep])⟩
    · exact p.elim
  · rename_i zs
    obtain ⟨x, rfl, r1⟩ := reps1 r
    simp only [Rep] at r1
    obtain ⟨a, vs, rfl, q, w⟩ := r1
    exact ⟨_, zs.length, rfl, .inr ⟨vs, hK ▸ sqT_le hH.ext q, w.len⟩, p.ok hH (by simp only [Rep])⟩
  · split at p
    · rename_i zs h
      obtain ⟨x, rfl, r1⟩ := reps1 r
      obtain ⟨a, vs, rfl, q, w⟩ := seqL_ok hH r1 h
      exact ⟨_, zs.length, rfl, .inl ⟨vs, SqL.of q, w.len⟩, p.ok hH (by simp only [Rep])⟩
    · exact p.elim
  · exact p.elim
/-! abs, int, str -/
def dAbs (ds : List D) : M D := fun S => match ds with
  | [.int i] => .ok (.int (i.natAbs : Int)) S
  | _ => .stuck
theorem many_abs : Many T dAbs (fun xs H Q => ∃ i, xs = [.int i] ∧ Q (.int (if i < 0 then -i else i)) H) := fun W G S H ds xs Q hH r p => by
  unfold dAbs at p
  split at p
  · rename_i i
    obtain ⟨x, rfl, r1⟩ := reps1 r
    simp only [Rep] at r1
    subst r1
    refine ⟨i, rfl, ?_⟩
    rw [show (if i < 0 then -i else i) = (i.natAbs : Int) by split <;> omega]
    exact p.ok hH (by simp only [Rep])
  · exact p.elim
def dInt (ds : List D) : M D := fun S => match ds with
  | [.int i] => .ok (.int i) S
  | [.bl k] => .ok (.int (if k then 1 else 0)) S
  | [.str z] => if z.length ≤ 640 then match PySem.intText? z with
      | some n => .ok (.int n) S
      | none => .stuck
    else .stuck
  | _ => .stuck
def rIntA : List V → Hp → VK → Prop := fun xs H Q => ((∃ i, xs = [.int i] ∧ Q (.int i) H) ∨ ∃ k, xs = [.bl k] ∧ Q (.int (if k then 1 else 0)) H) ∨ ∃ a n, xs = [.str a] ∧ PySem.intText? a = some n ∧ a.length ≤ 640 ∧ Q (.int n) H
theorem many_int : Many T dInt rIntA := fun W G S H ds xs Q hH r p => by
  unfold dInt at p
  split at p
  · obtain ⟨x, rfl, r1⟩ := reps1 r
    simp only [Rep] at r1
    subst r1
    exact .inl (.inl ⟨_, rfl, p.ok hH (by simp only [Rep])⟩)
  · obtain ⟨x, rfl, r1⟩ := reps1 r
    simp only [Rep] at r1
    subst r1
    exact .inl (.inr ⟨_, rfl, p.ok hH (by simp only [Rep])⟩)
  · split at p
    · rename_i hz
      split at p
      · rename_i n hn
        obtain ⟨x, rfl, r1⟩ := reps1 r
        simp only [Rep] at r1
        subst r1
        exact .inr ⟨_, n, rfl, hn, hz, p.ok hH (by simp only [Rep])⟩
      · exact p.elim
    · exact p.elim
  · exact p.elim
def dStr (ds : List D) : M D := fun S => match ds with
  | [.int i] => if i.natAbs.log2 < 1920 then .ok (.str (toString i)) S else .stuck
  | _ => .stuck
theorem many_str : Many T dStr (fun xs H Q => ∃ i, xs = [.int i] ∧ i.natAbs.log2 < 1920 ∧ Q (.str (toString i)) H) := fun W G S H ds xs Q hH r p => by
  unfold dStr at p
  split at p
  · split at p
    · rename_i hz
      obtain ⟨x, rfl, r1⟩ := reps1 r
      simp only [Rep] at r1
      subst r1
      exact ⟨_, rfl, hz, p.ok hH (by simp only [Rep])⟩
    · exact p.elim
  · exact p.elim
/-! list, tuple -/
def dList (mu : Bool) (ds : List D) : M D := fun S => match ds with
  | [.tup xs] => newL mu xs S
  | [d] => match seqL S d with
    | some xs => newL mu xs S
    | none => .stuck
  | _ => .stuck
theorem many_list {mu : Bool} (hK : X.K = T.K) : Many T (dList mu) (fun xs H Q => ∃ p ys, xs = [.ref p] ∧ (SqL X.K H p ys ∨ SqT X.K H p ys) ∧ ∀ l, H l = none → Q (.ref l) (upd H l (.lst ys))) := fun W G S H ds xs Q hH r p => by
  unfold dList at p
  split at p
  · obtain ⟨x, rfl, r1⟩ := reps1 r
    simp only [Rep] at r1
    obtain ⟨a, vs, rfl, q, w⟩ := r1
    exact ⟨_, vs, rfl, .inr (hK ▸ sqT_le hH.ext q), newL_ok hH w p⟩
  · split at p
    · rename_i zs h
      obtain ⟨x, rfl, r1⟩ := reps1 r
      obtain ⟨a, vs, rfl, q, w⟩ := seqL_ok hH r1 h
      exact ⟨_, vs, rfl, .inl (SqL.of q), newL_ok hH w p⟩
    · exact p.elim
  · exact p.elim
def dTuple (ds : List D) : M D := fun S => match ds with
  | [.tup xs] => .ok (.tup xs) S
  | [d] => match seqL S d with
    | some xs => .ok (.tup xs) S
    | none => .stuck
  | _ => .stuck
theorem many_tuple (hK : X.K = T.K) : Many T dTuple (fun xs H Q => ∃ p ys, xs = [.ref p] ∧ ((SqL X.K H p ys ∧ ∀ l, H l = none → Q (.ref l) (upd H l (.tup ys))) ∨ (SqT X.K H p ys ∧ Q (.ref p) H))) := fun W G S H ds xs Q hH r p => by
  unfold dTuple at p
  split at p
  · obtain ⟨x, rfl, r1⟩ := reps1 r
    simp only [Rep] at r1
    obtain ⟨a, vs, rfl, q, w⟩ := r1
    exact ⟨_, vs, rfl, .inr ⟨hK ▸ sqT_le hH.ext q, p.ok hH (by simp only [Rep]; exact ⟨a, vs, rfl, q, w⟩)⟩⟩
  · split at p
    · rename_i zs h
      obtain ⟨x, rfl, r1⟩ := reps1 r
      obtain ⟨a, vs, rfl, q, w⟩ := seqL_ok hH r1 h
      exact ⟨_, vs, rfl, .inl ⟨SqL.of q, newT_ok hH w p⟩⟩
    · exact p.elim
  · exact p.elim
/-! sum, all, any, max, min, sorted -/
def dSum (ds : List D) : M D := fun S => match ds with
  | [d] => match (seqL S d).bind intsOf with
    | some ns => .ok (.int ns.sum) S
    | none => .stuck
  | _ => .stuck
theorem ints_at {G : Gh} {S : Store} {H : Hp} {d : D} {x : V} {ns : List Int} (hH : Held T G S H) (r : Rep T G d x) (e : (seqL S d).bind intsOf = some ns) : ∃ a, x = .ref a ∧ H a = some (.lst (ns.map V.int)) := by
  obtain ⟨xs, h1, h2⟩ := Option.bind_eq_some_iff.mp e
  obtain ⟨a, vs, rfl, q, w⟩ := seqL_ok hH r h1
  rw [intsOf_ok w h2] at q
  exact ⟨a, rfl, q⟩
theorem many_sum : Many T dSum (rSum X.K) := fun W G S H ds xs Q hH r p => by
  unfold dSum at p
  split at p
  · split at p
    · rename_i ns h
      obtain ⟨x, rfl, r1⟩ := reps1 r
      obtain ⟨a, rfl, q⟩ := ints_at hH r1 h
      exact ⟨a, ns, rfl, SqL.of q, p.ok hH (by simp only [Rep])⟩
    · exact p.elim
  · exact p.elim
def dAll (any : Bool) (ds : List D) : M D := fun S => match ds with
  | [d] => match (seqL S d).bind blsOf with
    | some ns => .ok (.bl (if any then ns.any id else ns.all id)) S
    | none => .stuck
  | _ => .stuck
theorem bls_at {G : Gh} {S : Store} {H : Hp} {d : D} {x : V} {ns : List Bool} (hH : Held T G S H) (r : Rep T G d x) (e : (seqL S d).bind blsOf = some ns) : ∃ a, x = .ref a ∧ H a = some (.lst (ns.map V.bl)) := by
  obtain ⟨xs, h1, h2⟩ := Option.bind_eq_some_iff.mp e
  obtain ⟨a, vs, rfl, q, w⟩ := seqL_ok hH r h1
  rw [blsOf_ok w h2] at q
  exact ⟨a, rfl, q⟩
theorem many_all : Many T (dAll false) (rAll X.K) := fun W G S H ds xs Q hH r p => by
  unfold dAll at p
  split at p
  · split at p
    · rename_i ns h
      obtain ⟨x, rfl, r1⟩ := reps1 r
      obtain ⟨a, rfl, q⟩ := bls_at hH r1 h
      exact ⟨a, ns, rfl, SqL.of q, p.ok hH (by simp only [Rep]; rfl)⟩
    · exact p.elim
  · exact p.elim
theorem many_any : Many T (dAll true) (rAny X.K) := fun W G S H ds xs Q hH r p => by
  unfold dAll at p
  split at p
  · split at p
    · rename_i ns h
      obtain ⟨x, rfl, r1⟩ := reps1 r
      obtain ⟨a, rfl, q⟩ := bls_at hH r1 h
      exact ⟨a, ns, rfl, SqL.of q, p.ok hH (by simp only [Rep]; rfl)⟩
    · exact p.elim
  · exact p.elim
/-- the greatest, the least of a list -/
def lmax : List Int → Int
  | [] => 0
  | [x] => x
  | x :: y :: r => max x (lmax (y :: r))
def lmin : List Int → Int
  | [] => 0
  | [x] => x
  | x :: y :: r => min x (lmin (y :: r))
theorem lmax_mem : ∀ {xs : List Int}, xs ≠ [] → lmax xs ∈ xs
  | [], h => absurd rfl h
  | [x], _ => by simp [lmax]
  | x :: y :: r, _ => by
    have := lmax_mem (xs := y :: r) (by simp)
    unfold lmax
    rcases Int.le_total x (lmax (y :: r)) with h | h
    · rw [Int.max_eq_right h]; exact List.mem_cons_of_mem _ this
    · rw [Int.max_eq_left h]; exact List.mem_cons_self
theorem le_lmax : ∀ {xs : List Int} {z : Int}, z ∈ xs → z ≤ lmax xs
  | [], z, h => by cases h
  | [x], z, h => by simp at h; simp [lmax, h]
  | x :: y :: r, z, h => by
    unfold lmax
    rcases List.mem_cons.mp h with e | h
    · rw [e]; exact Int.le_max_left ..
    · exact Int.le_trans (le_lmax h) (Int.le_max_right ..)
theorem lmin_mem : ∀ {xs : List Int}, xs ≠ [] → lmin xs ∈ xs
  | [], h => absurd rfl h
  | [x], _ => by simp [lmin]
  | x :: y :: r, _ => by
    have := lmin_mem (xs := y :: r) (by simp)
    unfold lmin
    rcases Int.le_total x (lmin (y :: r)) with h | h
    · rw [Int.min_eq_left h]; exact List.mem_cons_self
    · rw [Int.min_eq_right h]; exact List.mem_cons_of_mem _ this
theorem lmin_le : ∀ {xs : List Int} {z : Int}, z ∈ xs → lmin xs ≤ z
  | [], z, h => by cases h
  | [x], z, h => by simp at h; simp [lmin, h]
  | x :: y :: r, z, h => by
    unfold lmin
    rcases List.mem_cons.mp h with e | h
    · rw [e]; exact Int.min_le_left ..
    · exact Int.le_trans (Int.min_le_right ..) (lmin_le h)
def dMax (ds : List D) : M D := fun S => match ds with
  | [.int i, .int j] => .ok (.int (max i j)) S
  | [d] => match (seqL S d).bind intsOf with
    | some (n :: ns) => .ok (.int (lmax (n :: ns))) S
    | _ => .stuck
  | _ => .stuck
def dMin (ds : List D) : M D := fun S => match ds with
  | [.int i, .int j] => .ok (.int (min i j)) S
  | [d] => match (seqL S d).bind intsOf with
    | some (n :: ns) => .ok (.int (lmin (n :: ns))) S
    | _ => .stuck
  | _ => .stuck
theorem many_max : Many T dMax (fun xs H Q => (∃ i j, xs = [.int i, .int j] ∧ Q (.int (if j > i then j else i)) H) ∨ rMax X.K xs H Q) := fun W G S H ds xs Q hH r p => by
  unfold dMax at p
  split at p
  · rename_i i j
    obtain ⟨x, y, rfl, r1, r2⟩ := reps2 r
    simp only [Rep] at r1 r2
    subst r1; subst r2
    refine .inl ⟨_, _, rfl, ?_⟩
    rw [show (if j > i then j else i) = max i j by split <;> omega]
    exact p.ok hH (by simp only [Rep])
  · split at p
    · rename_i n ns h
      obtain ⟨x, rfl, r1⟩ := reps1 r
      obtain ⟨a, rfl, q⟩ := ints_at hH r1 h
      refine .inr ⟨a, n :: ns, rfl, SqL.of q, by simp, fun m h1 h2 => ?_⟩
      have e : m = lmax (n :: ns) := Int.le_antisymm (le_lmax h1) (h2 _ (lmax_mem (by simp)))
      rw [e]
      exact p.ok hH (by simp only [Rep])
    · exact p.elim
  · exact p.elim
theorem many_min : Many T dMin (fun xs H Q => (∃ i j, xs = [.int i, .int j] ∧ Q (.int (if j < i then j else i)) H) ∨ rMin X.K xs H Q) := fun W G S H ds xs Q hH r p => by
  unfold dMin at p
  split at p
  · rename_i i j
    obtain ⟨x, y, rfl, r1, r2⟩ := reps2 r
    simp only [Rep] at r1 r2
    subst r1; subst r2
    refine .inl ⟨_, _, rfl, ?_⟩
    rw [show (if j < i then j else i) = min i j by split <;> omega]
    exact p.ok hH (by simp only [Rep])
  · split at p
    · rename_i n ns h
      obtain ⟨x, rfl, r1⟩ := reps1 r
      obtain ⟨a, rfl, q⟩ := ints_at hH r1 h
      refine .inr ⟨a, n :: ns, rfl, SqL.of q, by simp, fun m h1 h2 => ?_⟩
      have e : m = lmin (n :: ns) := Int.le_antisymm (h2 _ (lmin_mem (by simp))) (lmin_le h1)
      rw [e]
      exact p.ok hH (by simp only [Rep])
    · exact p.elim
  · exact p.elim
def dSorted (mu : Bool) (ds : List D) : M D := fun S => match ds with
  | [d] => match (seqL S d).bind intsOf with
    | some ns => newL mu ((isort ns).map .int) S
    | _ => .stuck
  | _ => .stuck
theorem many_sorted {mu : Bool} : Many T (dSorted mu) (rSortedI X.K) := fun W G S H ds xs Q hH r p => by
  unfold dSorted at p
  split at p
  · split at p
    · rename_i ns h
      obtain ⟨x, rfl, r1⟩ := reps1 r
      obtain ⟨a, rfl, q⟩ := ints_at hH r1 h
      refine ⟨a, ns, rfl, SqL.of q, fun ns' l h1 h2 hl => ?_⟩
      have e : ns' = isort ns := sorted_one (h1.trans (isort_perm ns).symm) h2 (isort_le ns)
      rw [e]
      exact newL_ok hH ints_reps p l hl
    · exact p.elim
  · exact p.elim

/-- a builtin that may be called by its name; mu: the list that it makes is a cell -/
inductive BK where
  | len | abs | int | str | list | tuple | sum | all | any | max | min | sorted
  deriving DecidableEq
def BK.sem (mu : Bool) : BK → List D → M D
  | .len => dLen | .abs => dAbs | .int => dInt | .str => dStr | .list => dList mu | .tuple => dTuple | .sum => dSum | .all => dAll false | .any => dAll true | .max => dMax | .min => dMin | .sorted => dSorted mu
def BK.name : BK → Str
  | .len => "len" | .abs => "abs" | .int => "int" | .str => "str" | .list => "list" | .tuple => "tuple" | .sum => "sum" | .all => "all" | .any => "any" | .max => "max" | .min => "min" | .sorted => "sorted"
theorem ve_bk {k : BK} {mu : Bool} {p : Pos} {e : Expr} {es : List Expr} {f : Envd → M (List D)} (hK : X.K = T.K) (hc : X.calm = true) (hg : Gl X k.name) (hm : X.mg k.name = none) (ha : VA T X W (e :: es) f) (hs : noStar (e :: es) = true) :
    VE T X W (.Call (.Name k.name p) (e :: es) [] pos) (fun env => bnd (f env) (k.sem mu)) := by
  cases k
  · exact ve_blt call_len hg hm PySem.boot_len (many_len hK) ha (by decide) (by decide) hs
  · exact ve_blt call_abs hg hm PyProof.Rows.boot_abs many_abs ha (by decide) (by decide) hs
  · exact ve_ty (call_int1.or call_int_str) hg hm PyProof.Rows.boot_int many_int ha (by decide) (by decide) hs
  · exact ve_ty call_str_int hg hm PyProof.Rows.boot_str many_str ha (by decide) (by decide) hs
  · exact ve_ty call_list_of hg hm PyProof.Rows.boot_list (many_list hK) ha (by decide) (by decide) hs
  · exact ve_ty call_tuple_of hg hm PyProof.Rows.boot_tuple (many_tuple hK) ha (by decide) (by decide) hs
  · exact ve_blt (cr_sum hc) hg hm (by decide +kernel) many_sum ha (by decide) (by decide) hs
  · exact ve_blt (cr_all hc) hg hm (by decide +kernel) many_all ha (by decide) (by decide) hs
  · exact ve_blt (cr_any hc) hg hm (by decide +kernel) many_any ha (by decide) (by decide) hs
  · exact ve_blt ((call_max2 hc).or (cr_max hc)) hg hm (by decide +kernel) many_max ha (by decide) (by decide) hs
  · exact ve_blt ((call_min2 hc).or (cr_min hc)) hg hm (by decide +kernel) many_min ha (by decide) (by decide) hs
  · exact ve_blt cr_sortedI hg hm PyProof.Rows.boot_sorted many_sorted ha (by decide) (by decide) hs
end
end Ev

set_option Elab.async false
set_option linter.all false
set_option maxRecDepth 100000
set_option maxHeartbeats 4000000
/-! EvE: what is walked, targets, comprehensions. -/
namespace Ev
open PySem PySem.Spec PyProof.Rows L2

/-! ### a list is walked: it changes no more -/
def shz (d : D) : M (List D) := fun S => match d with
  | .lst xs => .ok xs S
  | .ref k => match S[k]? with
    | some (.lst xs) => .ok xs (S.set k (.frz xs))
    | some (.frz xs) => .ok xs S
    | _ => .stuck
  | _ => .stuck
section
variable {T : Kit} {G : Gh} {S : Store} {H : Hp}
theorem shz_ok {d : D} {x : V} {ds : List D} {S' : Store} (hH : Held T G S H) (r : Rep T G d x) (e : shz d S = .ok ds S') : ∃ a vs G', x = .ref a ∧ Step G H G' H ∧ Held T G' S' H ∧ G'.H a = some (.lst vs) ∧ Reps T G' ds vs := by
  unfold shz at e
  split at e
  · cases e
    simp only [Rep] at r
    obtain ⟨a, vs, rfl, q, z⟩ := r
    exact ⟨a, vs, G, rfl, .refl, hH, q, z⟩
  · rename_i k
    simp only [Rep] at r
    obtain ⟨a, rfl, q⟩ := r
    split at e
    · rename_i xs hk
      cases e
      have c := hH.cell k _ a hk q
      simp only [CellRep] at c
      obtain ⟨c0, vs, c1, c2⟩ := c
      have l : Le G (G.put a (.lst vs)) := Gh.put_le c0
      have hc : CellRep T (G.put a (.lst vs)) a H (.frz ds) := by
        simp only [CellRep]
        exact ⟨vs, upd_same, c2.le l⟩
      obtain ⟨h1, h2⟩ := hH.freeze (c' := .frz ds) q c0 c1 hc
      exact ⟨a, vs, _, rfl, h2, h1, upd_same, c2.le l⟩
    · rename_i xs hk
      cases e
      have c := hH.cell k _ a hk q
      simp only [CellRep] at c
      obtain ⟨vs, c1, c2⟩ := c
      exact ⟨a, vs, G, rfl, .refl, hH, c1, c2⟩
    · cases e
  · cases e
end

/-! ### what a loop walks: the items that come -/
def relI (T : Kit) (G : Gh) (items : List D) (J : It) : Prop := ∀ (i : Nat) (G1 : Gh) (S1 : Store) (H1 : Hp), Le G G1 → Held T G1 S1 H1 →
  (i < items.length → J.go i H1) ∧ (items.length ≤ i → J.stop i H1) ∧ ∀ x H2, i < items.length → J.yld i H1 x H2 → ∃ d G2, items[i]? = some d ∧ Step G1 H1 G2 H2 ∧ Held T G2 S1 H2 ∧ Rep T G2 d x
def tI (T : Kit) (W : WX) (f : Envd → M (List D)) : TI := fun σ H R => ∃ G S env, EnvRep T G env σ ∧ Held T G S H ∧ Pst T (relI T) G H (at_ W σ) (f env S) fun _ _ _ J H' => R J H'
abbrev VI (T : Kit) (X : Cx) (W : WX) (tg e : Expr) (f : Envd → M (List D)) : Prop := PI X tg e (tI T W f)
theorem _root_.L2.PI.imp {X : Cx} {tg e : Expr} {t t' : TI} (h : PI X tg e t) (k : ∀ σ H Q, t' σ H Q → t σ H Q) : PI X tg e t' := ⟨fun pins s σ H Q I q => h.run pins s σ H Q I (k _ _ _ q)⟩
theorem _root_.L2.PI.or {X : Cx} {tg e : Expr} {t t' : TI} (h : PI X tg e t) (h' : PI X tg e t') : PI X tg e (fun σ H R => t σ H R ∨ t' σ H R) := ⟨fun pins s σ H Q I q => q.elim (h.run pins s σ H Q I) (h'.run pins s σ H Q I)⟩
section
variable {T : Kit} {X : Cx} {W : WX} {pos : Pos} {a b : Expr} {tg : Expr} {fa fb : Envd → M D}
theorem relI_list {K : PySem.W.Frag} {G : Gh} {ad : Addr} {ds : List D} {vs : List V} (hq : G.H ad = some (.lst vs)) (r : Reps T G ds vs) : relI T G ds (Itl K ad) := fun i G1 S1 H1 l hH => by
  have hs : SqL K H1 ad vs := SqL.of (hH.ext _ _ (l.H _ _ hq))
  have hl := r.len
  refine ⟨fun h => ⟨vs, vs[i]'(by omega), hs, List.getElem?_eq_getElem _⟩, fun h => ⟨vs, hs, by omega⟩, fun x H2 h y => ?_⟩
  obtain ⟨rfl, y⟩ := y
  obtain ⟨d, e, rd⟩ := reps_getV r (y vs hs)
  exact ⟨d, G1, e, .refl, hH, rd.le l⟩
theorem relI_tup {K : PySem.W.Frag} {G : Gh} {ad : Addr} {ds : List D} {vs : List V} (hK : K = T.K) (hq : SqT T.K G.H ad vs) (r : Reps T G ds vs) : relI T G ds (Itt K ad) := fun i G1 S1 H1 l hH => by
  have hs : SqT K H1 ad vs := hK ▸ sqT_le hH.ext (sqT_le l.H hq)
  have hl := r.len
  refine ⟨fun h => ⟨vs, vs[i]'(by omega), hs, List.getElem?_eq_getElem _⟩, fun h => ⟨vs, hs, by omega⟩, fun x H2 h y => ?_⟩
  obtain ⟨rfl, y⟩ := y
  obtain ⟨d, e, rd⟩ := reps_getV r (y vs hs)
  exact ⟨d, G1, e, .refl, hH, rd.le l⟩
def chars (z : Str) : List D := z.cps.toList.map fun c => .str ⟨#[c]⟩
theorem relI_str {G : Gh} {z : Str} : relI T G (chars z) (Its z) := fun i G1 S1 H1 l hH => by
  have hl : (chars z).length = z.cps.size := by unfold chars; simp
  refine ⟨fun h => by show i < z.cps.size; omega, fun h => by show z.cps.size ≤ i; omega, fun x H2 h y => ?_⟩
  obtain ⟨rfl, c, e, rfl⟩ := y
  refine ⟨.str ⟨#[c]⟩, G1, ?_, .refl, hH, by simp only [Rep]⟩
  unfold chars
  rw [List.getElem?_map, Array.getElem?_toList, e]; rfl
/-- a value is walked -/
def iSeq (f : Envd → M D) : Envd → M (List D) := fun env => bnd (f env) fun d S => match d with
  | .tup xs => .ok xs S
  | .str z => .ok (chars z) S
  | d => shz d S
theorem vi_seq (hK : X.K = T.K) (ha : VE T X W a fa) : VI T X W tg a (iSeq fa) := by
  refine ((pi_list (tg := tg) ha).or ((pi_tup (tg := tg) ha).or (pi_str (tg := tg) ha))).imp fun σ H Q ⟨G, S, env, hE, hH, p⟩ => ?_
  unfold iSeq at p
  cases e : fa env S with
  | stuck => simp only [bnd, e] at p; exact p.elim
  | exc c fs S1 =>
    simp only [bnd, e] at p
    exact .inl ⟨G, S, env, hE, hH, by rw [e]; exact p⟩
  | ok d S1 =>
    have p1 := p.bnd (rel := Rep T)
    rw [e] at p1
    have lst : ∀ {d : D}, fa env S = .ok d S1 → (∀ G' H' x, Step G H G' H' → Held T G' S1 H' → Rep T G' d x → Pst T (relI T) G' H' (at_ W σ) (shz d S1) fun _ _ _ J H' => Q J H') → iList X.K (tV T W fa) σ H Q := fun {d} e p1 =>
      ⟨G, S, env, hE, hH, by
        rw [e]
        intro G1 H1 x st1 hd1 r1
        have p2 := p1 G1 H1 x st1 hd1 r1
        cases e2 : shz d S1 with
        | stuck => rw [e2] at p2; exact p2.elim
        | exc c fs S2 =>
          exfalso
          unfold shz at e2
          split at e2
          · cases e2
          · split at e2 <;> cases e2
          · cases e2
        | ok ds S2 =>
          rw [e2] at p2
          obtain ⟨ad, vs, G2, rfl, st2, hd2, q, z⟩ := shz_ok hd1 r1 e2
          exact ⟨ad, rfl, ⟨vs, SqL.of (hd2.ext _ _ q)⟩, p2 G2 H1 _ st2 hd2 (relI_list q z)⟩⟩
    cases d with
    | tup xs =>
      refine .inr (.inl ⟨G, S, env, hE, hH, ?_⟩)
      rw [e]
      intro G1 H1 x st1 hd1 r1
      have p2 := p1 G1 H1 x st1 hd1 r1
      simp only [Rep] at r1
      obtain ⟨ad, vs, rfl, q, z⟩ := r1
      exact ⟨ad, rfl, ⟨vs, hK ▸ sqT_le hd1.ext q⟩, p2.ok hd1 (relI_tup hK q z)⟩
    | str z =>
      refine .inr (.inr ⟨G, S, env, hE, hH, ?_⟩)
      rw [e]
      intro G1 H1 x st1 hd1 r1
      have p2 := p1 G1 H1 x st1 hd1 r1
      simp only [Rep] at r1
      exact ⟨z, r1, p2.ok hd1 relI_str⟩
    | lst xs => exact .inl (lst e p1)
    | ref k => exact .inl (lst e p1)
    | non => exact .inl (lst e p1)
    | bl _ => exact .inl (lst e p1)
    | int _ => exact .inl (lst e p1)
    | scr _ => exact .inl (lst e p1)
    | dct _ _ => exact .inl (lst e p1)
    | obj _ _ => exact .inl (lst e p1)
/-! range -/
def rangeD (lo : Int) (n : Nat) : List D := (List.range n).map fun (i : Nat) => .int (lo + (i : Int))
theorem rangeD_len {lo : Int} {n : Nat} : (rangeD lo n).length = n := by unfold rangeD; simp
theorem relI_rng {G : Gh} {lo : Int} {n : Nat} : relI T G (rangeD lo n) (Itr lo n) := fun i G1 S1 H1 l hH => by
  rw [rangeD_len]
  refine ⟨fun h => h, fun h => h, fun x H2 h y => ?_⟩
  obtain ⟨rfl, rfl⟩ := y
  refine ⟨.int (lo + i), G1, ?_, .refl, hH, by simp only [Rep]⟩
  unfold rangeD
  rw [List.getElem?_map, List.getElem?_range h]; rfl
def downD (hi : Int) (n : Nat) : List D := (List.range n).map fun (i : Nat) => .int (hi - (i : Int))
theorem downD_len {lo : Int} {n : Nat} : (downD lo n).length = n := by unfold downD; simp
theorem relI_down {G : Gh} {hi : Int} {n : Nat} : relI T G (downD hi n) (Itc hi (-1) n) := fun i G1 S1 H1 l hH => by
  rw [downD_len]
  refine ⟨fun h => h, fun h => h, fun x H2 h y => ?_⟩
  obtain ⟨rfl, rfl⟩ := y
  refine ⟨.int (hi - i), G1, ?_, .refl, hH, by simp only [Rep]; rw [show hi + (i : Int) * -1 = hi - i by omega]⟩
  unfold downD
  rw [List.getElem?_map, List.getElem?_range h]; rfl
def okR (i : Int) : Bool := decide (-(2 ^ 62) ≤ i) && decide (i < 2 ^ 62)
def dRange1 (ds : List D) : M (List D) := fun S => match ds with
  | [.int j] => if okR j then .ok (rangeD 0 j.toNat) S else .stuck
  | _ => .stuck
def dRange2 (ds : List D) : M (List D) := fun S => match ds with
  | [.int i, .int j] => if okR i && okR j then .ok (rangeD i (j - i).toNat) S else .stuck
  | _ => .stuck
/-- downwards -/
def dRange3 (ds : List D) : M (List D) := fun S => match ds with
  | [.int i, .int j, .int c] => if okR i && okR j && c == -1 then .ok (downD i (i - j).toNat) S else .stuck
  | _ => .stuck
theorem okR_iff {i : Int} (h : okR i = true) : -(2 ^ 62) ≤ i ∧ i < 2 ^ 62 := by
  unfold okR at h
  simp only [Bool.and_eq_true, decide_eq_true_eq] at h
  exact h
theorem vi_range1 {f : Envd → M (List D)} {p : Pos} (hg : Gl X "range") (hm : X.mg "range" = none) (ha : VA T X W [a] f) (hs : noStar [a] = true) : VI T X W tg (.Call (.Name "range" p) [a] [] pos) (fun env => bnd (f env) dRange1) := by
  refine (pi_range1 hg hm ha (star_cons hs)).imp fun σ H Q ⟨G, S, env, hE, hH, p⟩ => ?_
  refine ⟨G, S, env, hE, hH, (p.bnd (rel := Reps T)).mono fun G1 S1 ds xs H1 st1 hd1 r1 p1 => ?_⟩
  unfold dRange1 at p1
  split at p1
  · rename_i j
    split at p1
    · rename_i h
      obtain ⟨x, rfl, r2⟩ := reps1 r1
      simp only [Rep] at r2
      subst r2
      exact ⟨j, rfl, (okR_iff h).1, (okR_iff h).2, p1.ok hd1 relI_rng⟩
    · exact p1.elim
  · exact p1.elim
theorem vi_range2 {f : Envd → M (List D)} {p : Pos} (hg : Gl X "range") (hm : X.mg "range" = none) (ha : VA T X W [a, b] f) (hs : noStar [a, b] = true) : VI T X W tg (.Call (.Name "range" p) [a, b] [] pos) (fun env => bnd (f env) dRange2) := by
  refine (pi_range2 hg hm ha (by rw [star_cons hs, star_cons (noStar_tail hs)]; rfl) (star_cons (noStar_tail hs))).imp fun σ H Q ⟨G, S, env, hE, hH, p⟩ => ?_
  refine ⟨G, S, env, hE, hH, (p.bnd (rel := Reps T)).mono fun G1 S1 ds xs H1 st1 hd1 r1 p1 => ?_⟩
  unfold dRange2 at p1
  split at p1
  · rename_i i j
    split at p1
    · rename_i h
      simp only [Bool.and_eq_true] at h
      obtain ⟨x, y, rfl, r2, r3⟩ := reps2 r1
      simp only [Rep] at r2 r3
      subst r2; subst r3
      exact ⟨i, j, rfl, ⟨(okR_iff h.1).1, (okR_iff h.1).2, (okR_iff h.2).1, (okR_iff h.2).2⟩, p1.ok hd1 relI_rng⟩
    · exact p1.elim
  · exact p1.elim
theorem reps3 {G : Gh} {d e f : D} {xs : List V} (r : Reps T G [d, e, f] xs) : ∃ x y z, xs = [x, y, z] ∧ Rep T G d x ∧ Rep T G e y ∧ Rep T G f z := by
  simp only [Reps] at r
  obtain ⟨v, r', rfl, r1, w, r'', rfl, r2, u, r3', rfl, r3, rfl⟩ := r
  exact ⟨v, w, u, rfl, r1, r2, r3⟩
theorem vi_range3 {c : Expr} {f : Envd → M (List D)} {p : Pos} (hg : Gl X "range") (hm : X.mg "range" = none) (ha : VA T X W [a, b, c] f) (hs : noStar [a, b, c] = true) : VI T X W tg (.Call (.Name "range" p) [a, b, c] [] pos) (fun env => bnd (f env) dRange3) := by
  refine (pi_range3 hg hm ha (star_cons hs) (star_any (noStar_tail hs))).imp fun σ H Q ⟨G, S, env, hE, hH, p⟩ => ?_
  refine ⟨G, S, env, hE, hH, (p.bnd (rel := Reps T)).mono fun G1 S1 ds xs H1 st1 hd1 r1 p1 => ?_⟩
  unfold dRange3 at p1
  split at p1
  · rename_i i j c
    split at p1
    · rename_i h
      simp only [Bool.and_eq_true, beq_iff_eq] at h
      obtain ⟨⟨h1, h2⟩, rfl⟩ := h
      obtain ⟨x, y, z, rfl, r2, r3, r4⟩ := reps3 r1
      simp only [Rep] at r2 r3 r4
      subst r2; subst r3; subst r4
      exact ⟨i, j, -1, _, rfl, RgC.neg (okR_iff h1).1 (okR_iff h1).2 (okR_iff h2).1 (okR_iff h2).2, p1.ok hd1 relI_down⟩
    · exact p1.elim
  · exact p1.elim

/-! zip, enumerate: new tuples -/
theorem relI_new {G : Gh} {items : List D} {J : It} (pre : ∀ (i : Nat) (G1 : Gh) (S1 : Store) (H1 : Hp), Le G G1 → Held T G1 S1 H1 → (i < items.length → J.go i H1) ∧ (items.length ≤ i → J.stop i H1) ∧
    ∀ x H2, i < items.length → J.yld i H1 x H2 → ∃ ds vs p, items[i]? = some (.tup ds) ∧ x = .ref p ∧ H1 p = none ∧ H2 = upd H1 p (.tup vs) ∧ Reps T G1 ds vs) : relI T G items J := fun i G1 S1 H1 l hH => by
  obtain ⟨h1, h2, h3⟩ := pre i G1 S1 H1 l hH
  refine ⟨h1, h2, fun x H2 hi y => ?_⟩
  obtain ⟨ds, vs, p, e, rfl, hp, rfl, r⟩ := h3 x H2 hi y
  obtain ⟨k1, k2⟩ := hH.new (p := p) (o := .tup vs) hp
  refine ⟨.tup ds, _, e, k2, k1, ?_⟩
  simp only [Rep]
  exact ⟨p, vs, rfl, SqT.of upd_same, r.le k2.le⟩
def zipD (xs ys : List D) : List D := (xs.zip ys).map fun p => .tup [p.1, p.2]
theorem zipD_len {xs ys : List D} : (zipD xs ys).length = min xs.length ys.length := by unfold zipD; simp
theorem zipD_get {xs ys : List D} {i : Nat} {d e : D} (h1 : xs[i]? = some d) (h2 : ys[i]? = some e) : (zipD xs ys)[i]? = some (.tup [d, e]) := by
  unfold zipD
  rw [List.getElem?_map, (List.getElem?_zip_eq_some (z := (d, e))).mpr ⟨h1, h2⟩]; rfl
theorem relI_zip {K : PySem.W.Frag} {G : Gh} {p q : Addr} {xs ys : List D} {vs ws : List V} (h1 : G.H p = some (.lst vs)) (r1 : Reps T G xs vs) (h2 : G.H q = some (.lst ws)) (r2 : Reps T G ys ws) : relI T G (zipD xs ys) (Itz K p q) :=
  relI_new fun i G1 S1 H1 l hH => by
    have s1 : SqL K H1 p vs := SqL.of (hH.ext _ _ (l.H _ _ h1))
    have s2 : SqL K H1 q ws := SqL.of (hH.ext _ _ (l.H _ _ h2))
    have l1 := r1.len
    have l2 := r2.len
    rw [zipD_len]
    refine ⟨fun h => ⟨vs, ws, vs[i]'(by omega), ws[i]'(by omega), s1, s2, List.getElem?_eq_getElem _, List.getElem?_eq_getElem _⟩, fun h => ⟨vs, ws, s1, s2, by omega⟩, fun x H2 hi y => ?_⟩
    obtain ⟨t, u, v, rfl, ht, rfl, y1, y2⟩ := y
    obtain ⟨d, e1, k1⟩ := reps_getV r1 (y1 vs s1)
    obtain ⟨e, e2, k2⟩ := reps_getV r2 (y2 ws s2)
    exact ⟨[d, e], [u, v], t, zipD_get e1 e2, rfl, ht, rfl, reps_cons (k1.le l) (reps_cons (k2.le l) reps_nil)⟩
theorem relI_zipT {K : PySem.W.Frag} (hK : K = T.K) {G : Gh} {p q : Addr} {xs ys : List D} {vs ws : List V} (h1 : SqT T.K G.H p vs) (r1 : Reps T G xs vs) (h2 : SqT T.K G.H q ws) (r2 : Reps T G ys ws) : relI T G (zipD xs ys) (RZ.ItzT K p q) :=
  relI_new fun i G1 S1 H1 l hH => by
    have s1 : SqT K H1 p vs := hK ▸ sqT_le hH.ext (sqT_le l.H h1)
    have s2 : SqT K H1 q ws := hK ▸ sqT_le hH.ext (sqT_le l.H h2)
    have l1 := r1.len
    have l2 := r2.len
    rw [zipD_len]
    refine ⟨fun h => ⟨vs, ws, vs[i]'(by omega), ws[i]'(by omega), s1, s2, List.getElem?_eq_getElem _, List.getElem?_eq_getElem _⟩, fun h => ⟨vs, ws, s1, s2, by omega⟩, fun x H2 hi y => ?_⟩
    obtain ⟨t, u, v, rfl, ht, rfl, y1, y2⟩ := y
    obtain ⟨d, e1, k1⟩ := reps_getV r1 (y1 vs s1)
    obtain ⟨e, e2, k2⟩ := reps_getV r2 (y2 ws s2)
    exact ⟨[d, e], [u, v], t, zipD_get e1 e2, rfl, ht, rfl, reps_cons (k1.le l) (reps_cons (k2.le l) reps_nil)⟩
/-- two lists, or two tuples -/
def dZip (ds : List D) : M (List D) := fun S => match ds with
  | [.tup xs, .tup ys] => .ok (zipD xs ys) S
  | [d, e] => match shz d S with
    | .ok xs S1 => match shz e S1 with
      | .ok ys S2 => .ok (zipD xs ys) S2
      | _ => .stuck
    | _ => .stuck
  | _ => .stuck
theorem vi_zip {f : Envd → M (List D)} {p tpos : Pos} {elts : List Expr} {kk : Nat} (hK : X.K = T.K) (hg : Gl X "zip") (hm : X.mg "zip" = none) (ha : VA T X W [a, b] f) (hs : noStar [a, b] = true) :
    VI T X W (.Tuple elts kk tpos) (.Call (.Name "zip" p) [a, b] [] pos) (fun env => bnd (f env) dZip) := by
  refine (RZ.pi_zipA hg hm ha (star_cons hs) (star_any (noStar_tail hs))).imp fun σ H Q ⟨G, S, env, hE, hH, p⟩ => ?_
  refine ⟨G, S, env, hE, hH, (p.bnd (rel := Reps T)).mono fun G1 S1 ds xs H1 st1 hd1 r1 p1 => ?_⟩
  unfold dZip at p1
  split at p1
  · obtain ⟨x, y, rfl, r2, r3⟩ := reps2 r1
    simp only [Rep] at r2 r3
    obtain ⟨u, vs, rfl, q1, z1⟩ := r2
    obtain ⟨v, ws, rfl, q2, z2⟩ := r3
    exact ⟨u, v, vs, ws, rfl, .inr ⟨hK ▸ sqT_le hd1.ext q1, hK ▸ sqT_le hd1.ext q2, p1.ok hd1 (relI_zipT hK q1 z1 q2 z2)⟩⟩
  · split at p1
    · rename_i e1
      split at p1
      · rename_i e2
        obtain ⟨x, y, rfl, r2, r3⟩ := reps2 r1
        obtain ⟨u, vs, G2, rfl, st2, hd2, q1, z1⟩ := shz_ok hd1 r2 e1
        obtain ⟨v, ws, G3, rfl, st3, hd3, q2, z2⟩ := shz_ok hd2 (r3.le st2.le) e2
        refine ⟨u, v, vs, ws, rfl, .inl ⟨SqL.of (hd2.ext _ _ q1), SqL.of (hd3.ext _ _ q2), ?_⟩⟩
        exact p1 G3 H1 _ (st2.trans st3) hd3 (relI_zip (st3.le.H _ _ q1) (z1.le st3.le) q2 z2)
      · exact p1.elim
    · exact p1.elim
  · exact p1.elim
def enumD (xs : List D) : List D := (xs.zipIdx).map fun p => .tup [.int (p.2 : Int), p.1]
theorem enumD_len {xs : List D} : (enumD xs).length = xs.length := by unfold enumD; simp
theorem enumD_get {xs : List D} {i : Nat} {d : D} (h : xs[i]? = some d) : (enumD xs)[i]? = some (.tup [.int (i : Int), d]) := by
  unfold enumD
  rw [List.getElem?_map, List.getElem?_zipIdx, h]
  simp
theorem relI_enum {K : PySem.W.Frag} {G : Gh} {p : Addr} {xs : List D} {vs : List V} (h1 : G.H p = some (.lst vs)) (r1 : Reps T G xs vs) : relI T G (enumD xs) (Ite K p) :=
  relI_new fun i G1 S1 H1 l hH => by
    have s1 : SqL K H1 p vs := SqL.of (hH.ext _ _ (l.H _ _ h1))
    have l1 := r1.len
    rw [enumD_len]
    refine ⟨fun h => ⟨vs, vs[i]'(by omega), s1, List.getElem?_eq_getElem _⟩, fun h => ⟨vs, s1, by omega⟩, fun x H2 hi y => ?_⟩
    obtain ⟨t, u, rfl, ht, rfl, y1⟩ := y
    obtain ⟨d, e1, k1⟩ := reps_getV r1 (y1 vs s1)
    exact ⟨[.int (i : Int), d], [.int (i : Nat), u], t, enumD_get e1, rfl, ht, rfl, reps_cons (by simp only [Rep]) (reps_cons (k1.le l) reps_nil)⟩
def dEnum (ds : List D) : M (List D) := fun S => match ds with
  | [d] => match shz d S with
    | .ok xs S1 => .ok (enumD xs) S1
    | _ => .stuck
  | _ => .stuck
theorem vi_enum {f : Envd → M (List D)} {p tpos : Pos} {elts : List Expr} {kk : Nat} (hg : Gl X "enumerate") (hm : X.mg "enumerate" = none) (ha : VA T X W [a] f) (hs : noStar [a] = true) :
    VI T X W (.Tuple elts kk tpos) (.Call (.Name "enumerate" p) [a] [] pos) (fun env => bnd (f env) dEnum) := by
  refine (pi_enum hg hm ha (star_cons hs)).imp fun σ H Q ⟨G, S, env, hE, hH, p⟩ => ?_
  refine ⟨G, S, env, hE, hH, (p.bnd (rel := Reps T)).mono fun G1 S1 ds xs H1 st1 hd1 r1 p1 => ?_⟩
  unfold dEnum at p1
  split at p1
  · split at p1
    · rename_i e1
      obtain ⟨x, rfl, r2⟩ := reps1 r1
      obtain ⟨u, vs, G2, rfl, st2, hd2, q1, z1⟩ := shz_ok hd1 r2 e1
      exact ⟨u, vs, rfl, SqL.of (hd2.ext _ _ q1), p1 G2 H1 _ st2 hd2 (relI_enum q1 z1)⟩
    · exact p1.elim
  · exact p1.elim

/-! ### targets: a name, names -/
inductive Tg where
  | nm (i : Nat) | tp (is : List Nat)
  deriving DecidableEq
def Tg.slots : Tg → List Nat
  | .nm i => [i]
  | .tp is => is
def setAll : List Nat → List D → Envd → Envd
  | i :: is, d :: ds, env => setAll is ds (env.set i (some d))
  | _, _, env => env
def setAllV : List Nat → List V → L2.St → L2.St
  | i :: is, d :: ds, env => setAllV is ds (env.set i (some d))
  | _, _, env => env
/-- the items of a tuple or a list, of just this number -/
def unp (n : Nat) (d : D) : M (List D) := fun S => match d with
  | .tup xs => if xs.length = n then .ok xs S else .stuck
  | d => match seqL S d with
    | some xs => if xs.length = n then .ok xs S else .stuck
    | none => .stuck
def Tg.bind (t : Tg) (d : D) (env : Envd) : M Envd := match t with
  | .nm i => ret (env.set i (some d))
  | .tp is => bnd (unp is.length d) fun xs => ret (setAll is xs env)
theorem setAll_rep {G : Gh} : ∀ {is : List Nat} {ds : List D} {vs : List V} {env : Envd} {σ : L2.St}, EnvRep T G env σ → Reps T G ds vs → EnvRep T G (setAll is ds env) (setAllV is vs σ)
  | [], ds, vs, env, σ, h, r => by cases ds <;> cases vs <;> exact h
  | i :: is, [], vs, env, σ, h, r => by
    simp only [Reps] at r; subst r; exact h
  | i :: is, d :: ds, vs, env, σ, h, r => by
    simp only [Reps] at r
    obtain ⟨v, r', rfl, r1, r2⟩ := r
    unfold setAll setAllV
    exact setAll_rep (h.set i r1) r2
theorem wipe_set {σ : L2.St} {x : Option V} {i : Nat} : ∀ {vs : List Nat}, i ∈ vs → wipe (σ.set i x) vs = wipe σ vs
  | [], h => by cases h
  | v :: vs, h => by
    unfold wipe
    by_cases hv : i ∈ vs
    · rw [wipe_set hv]
    · have e : i = v := by
        rcases List.mem_cons.mp h with e | e
        · exact e
        · exact absurd e hv
      subst e
      have : ∀ {us : List Nat}, i ∉ us → wipe (σ.set i x) us = (wipe σ us).set i x := by
        intro us
        induction us with
        | nil => intro _; rfl
        | cons u us ih =>
          intro hu
          unfold wipe
          rw [ih fun z => hu (List.mem_cons_of_mem _ z)]
          exact List.set_comm _ _ fun z => hu (by rw [z]; exact List.mem_cons_self)
      rw [this hv, List.set_set]
theorem wipe_setAll : ∀ {is : List Nat} {ws : List V} {σ : L2.St} {vs : List Nat}, (∀ i ∈ is, i ∈ vs) → wipe (setAllV is ws σ) vs = wipe σ vs
  | [], ws, σ, vs, _ => by cases ws <;> rfl
  | i :: is, [], σ, vs, _ => rfl
  | i :: is, w :: ws, σ, vs, h => by
    unfold setAllV
    rw [wipe_setAll fun j hj => h j (List.mem_cons_of_mem _ hj), wipe_set (h i List.mem_cons_self)]
/-- a target's reading -/
def gT (T : Kit) (t : Tg) : TG := fun v σ H Q => ∃ G S d env, EnvRep T G env σ ∧ Held T G S H ∧ Rep T G d v ∧ ∃ env', t.bind d env S = .ok env' S ∧ ∀ σ', EnvRep T G env' σ' → (∀ vs, (∀ i ∈ t.slots, i ∈ vs) → wipe σ' vs = wipe σ vs) → Q σ' H
abbrev VG (T : Kit) (X : Cx) (tg : Expr) (t : Tg) : Prop := PG X tg (gT T t)
theorem _root_.L2.PG.imp {X : Cx} {tg : Expr} {t t' : TG} (h : PG X tg t) (k : ∀ v σ H Q, t' v σ H Q → t v σ H Q) : PG X tg t' := ⟨fun pins s σ H v u Q I r q => h.run pins s σ H v u Q I r (k _ _ _ _ q)⟩
theorem _root_.L2.PG.or {X : Cx} {tg : Expr} {t t' : TG} (h : PG X tg t) (h' : PG X tg t') : PG X tg (fun v σ H Q => t v σ H Q ∨ t' v σ H Q) := ⟨fun pins s σ H v u Q I r q => q.elim (h.run pins s σ H v u Q I r) (h'.run pins s σ H v u Q I r)⟩
theorem vg_name {i : Nat} {x : Str} (hN : X.N.Nodup) (hi : X.N[i]? = some x) (hx : Loc X.env.scope x) (hf : X.fn x = true ∨ X.env.scope.names.lookup x = some .local) : VG T X (.Name x pos) (.nm i) := by
  refine (pg_name hN hi hx hf).imp fun v σ H Q ⟨G, S, d, env, hE, hH, r, env', e, q⟩ => ?_
  cases e
  exact q _ (hE.set i r) fun vs h => wipe_set (h i (by simp [Tg.slots]))
/-- names in a row -/
inductive NamesAt (X : Cx) : List Expr → List Nat → Prop
  | nil : NamesAt X [] []
  | cons {i : Nat} {x : Str} {p : Pos} {es : List Expr} {is : List Nat} : X.N[i]? = some x → Loc X.env.scope x → (X.fn x = true ∨ X.env.scope.names.lookup x = some .local) → NamesAt X es is → NamesAt X (.Name x p :: es) (i :: is)
def gNames : List Nat → TGs
  | [] => gNil
  | i :: is => gCons (gName i) (gNames is)
theorem pgs_names (hN : X.N.Nodup) : ∀ {es : List Expr} {is : List Nat}, NamesAt X es is → PGs X es (gNames is)
  | _, _, .nil => pgs_nil
  | _, _, .cons h1 h2 h3 r => pgs_cons (pg_name hN h1 h2 h3) (pgs_names hN r)
theorem gNames_of : ∀ {is : List Nat} {vs : List V} {σ : L2.St} {H : Hp} {Q : L2.St → Hp → Prop}, vs.length = is.length → Q (setAllV is vs σ) H → gNames is vs σ H Q
  | [], [], σ, H, Q, _, q => ⟨rfl, q⟩
  | [], v :: vs, σ, H, Q, h, q => by simp at h
  | i :: is, [], σ, H, Q, h, q => by simp at h
  | i :: is, v :: vs, σ, H, Q, h, q => ⟨v, vs, rfl, gNames_of (by simpa using h) q⟩
theorem names_len {es : List Expr} {is : List Nat} (h : NamesAt X es is) : (assignEach es X.env).length = is.length := by
  induction h with
  | nil => rfl
  | cons _ _ _ _ ih =>
    show (assignEach _ X.env).length + 1 = _
    rw [ih]; rfl
theorem names_star {es : List Expr} {is : List Nat} (h : NamesAt X es is) : (assignEach es X.env).findIdx? (·.1) = none := by
  induction h with
  | nil => rfl
  | cons _ _ _ r ih =>
    rw [List.findIdx?_eq_none_iff] at ih ⊢
    intro x hx
    rcases List.mem_cons.mp hx with e | hx
    · rw [e]
    · exact ih x hx
theorem vg_tup {es : List Expr} {k : Nat} {is : List Nat} (hK : X.K = T.K) (hc : X.calm = true) (hN : X.N.Nodup) (h : NamesAt X es is) : VG T X (.Tuple es k pos) (.tp is) := by
  refine ((pg_tup hc (pgs_names hN h) (names_len h) (names_star h)).or (pg_unl hc (pgs_names hN h) (names_len h) (names_star h))).imp fun v σ H Q ⟨G, S, d, env, hE, hH, r, env', e, q⟩ => ?_
  have fin : ∀ {ds : List D} {vs : List V}, Reps T G ds vs → ds.length = is.length → env' = setAll is ds env → gNames is vs σ H Q := fun {ds vs} r hl e => by
    subst e
    exact gNames_of (by rw [← r.len]; exact hl) (q _ (setAll_rep hE r) fun us h => wipe_setAll h)
  unfold Tg.bind at e
  dsimp only at e
  cases e1 : unp is.length d S with
  | stuck => simp only [bnd, e1] at e; cases e
  | exc c fs S1 => simp only [bnd, e1] at e; cases e
  | ok xs S1 =>
    simp only [bnd, e1, ret] at e
    cases e
    unfold unp at e1
    split at e1
    · split at e1
      · rename_i hl
        cases e1
        simp only [Rep] at r
        obtain ⟨a, vs, rfl, q1, z⟩ := r
        exact .inl ⟨a, vs, rfl, hK ▸ sqT_le hH.ext q1, z.len.symm.trans hl, fin z hl rfl⟩
      · cases e1
    · split at e1
      · rename_i xs' h0
        split at e1
        · rename_i hl
          cases e1
          obtain ⟨a, vs, rfl, q1, z⟩ := seqL_ok hH r h0
          exact .inr ⟨a, vs, rfl, SqL.of q1, z.len.symm.trans hl, fin z hl rfl⟩
        · cases e1
      · cases e1
end
end Ev

set_option Elab.async false
set_option linter.all false
set_option maxRecDepth 100000
set_option maxHeartbeats 4000000
/-! EvF: comprehensions, calls of the text's own defs. -/
namespace Ev
open PySem PySem.Spec PyProof.Rows L2

/-- nothing may be raised -/
def nx {α : Type} (m : M α) : M α := fun S => match m S with
  | .ok a S' => .ok a S'
  | _ => .stuck
def Val {α : Type} (r : R α) (k : α → Store → Prop) : Prop := match r with
  | .ok a S => k a S
  | _ => False
theorem Val.nx {α β : Type} {m : M α} {f : α → M β} {S : Store} {k : β → Store → Prop} (h : Val (bnd (nx m) f S) k) : ∃ a S', m S = .ok a S' ∧ Val (f a S') k := by
  unfold bnd Ev.nx at h
  cases e : m S with
  | ok a S' => rw [e] at h; exact ⟨a, S', rfl, h⟩
  | exc c fs S' => rw [e] at h; exact h.elim
  | stuck => rw [e] at h; exact h.elim
theorem Val.bnd {α β : Type} {m : M α} {f : α → M β} {S : Store} {k : β → Store → Prop} (h : Val (bnd m f S) k) : ∃ a S', m S = .ok a S' ∧ Val (f a S') k := by
  unfold Ev.bnd at h
  cases e : m S with
  | ok a S' => rw [e] at h; exact ⟨a, S', rfl, h⟩
  | exc c fs S' => rw [e] at h; exact h.elim
  | stuck => rw [e] at h; exact h.elim
theorem Val.ret {α : Type} {a : α} {S : Store} {k : α → Store → Prop} (h : Val (ret a S) k) : k a S := h
def compL (t : Tg) (test : Envd → M Bool) (elt : Envd → M D) (env : Envd) : List D → M (List D)
  | [] => ret []
  | d :: ds => bnd (t.bind d env) fun env1 => bnd (nx (test env1)) fun b => if b = true then bnd (nx (elt env1)) fun y => bnd (compL t test elt env ds) fun ys => ret (y :: ys) else compL t test elt env ds
def wipeD (env : Envd) : List Nat → Envd
  | [] => env
  | v :: vs => (wipeD env vs).set v none
def sComp (mu : Bool) (it : Envd → M (List D)) (t : Tg) (own : List Nat) (test : Envd → M Bool) (elt : Envd → M D) : Envd → M D := fun env =>
  bnd (it env) fun items => if items.length ≤ sizeLine then bnd (nx (compL t test elt (wipeD env own) items)) (newL mu) else stk
section
variable {T : Kit} {G : Gh} {S : Store} {H : Hp}
theorem wipeD_rep {env : Envd} {σ : L2.St} (h : EnvRep T G env σ) : ∀ vs : List Nat, EnvRep T G (wipeD env vs) (wipe σ vs)
  | [] => h
  | v :: vs => (wipeD_rep h vs).kill2 v none
theorem Held.adopt (h : Held T G S H) {p : Addr} {o : HO} (hp : H p = some o) (hG : G.H p = none) (hm : p ∉ G.m) : Held T (G.put p o) S H := by
  have l : Le G (G.put p o) := Gh.put_le hG
  refine ⟨fun a u e => ?_, h.len, h.nd, fun k c a e1 e2 => ?_⟩
  · have e' : upd G.H p o a = some u := e
    by_cases ha : a = p
    · subst ha
      rw [upd_same] at e'; cases e'; exact hp
    · rw [upd_ne ha] at e'; exact h.ext a u e'
  · have na : a ≠ p := fun z => hm (z ▸ List.mem_of_getElem? e2)
    refine (h.cell k c a e1 e2).le l (fun z => ?_) fun _ => rfl
    show upd G.H p o a = none
    rw [upd_ne na]; exact z
theorem Held.adoptC (h : Held T G S H) {p : Addr} {c : Cell} (hm : p ∉ G.m) (hc : CellRep T (G.push p) p H c) : Held T (G.push p) (S ++ [c]) H := by
  refine ⟨h.ext, ?_, ?_, fun k d a e1 e2 => ?_⟩
  · show (G.m ++ [p]).length = _
    rw [List.length_append, List.length_append, h.len]; rfl
  · refine List.nodup_append.mpr ⟨h.nd, by simp, fun x hx y hy => ?_⟩
    simp at hy
    subst hy
    exact fun z => hm (z ▸ hx)
  · have hl := h.len
    have e2 : (G.m ++ [p])[k]? = some a := e2
    by_cases hk : k < S.length
    · rw [List.getElem?_append_left hk] at e1
      rw [List.getElem?_append_left (by omega)] at e2
      exact (h.cell k d a e1 e2).le Gh.push_le (fun z => z) fun z => rfl
    · rw [List.getElem?_append_right (by omega)] at e1 e2
      have hk2 : k - S.length = 0 := by
        have := (List.getElem?_eq_some_iff.mp e1).1
        simp at this
        omega
      rw [hk2] at e1
      rw [show k - G.m.length = 0 by omega] at e2
      simp at e1 e2
      subst e1; subst e2
      exact hc
theorem Step.side {G0 : Gh} {H0 : Hp} (st : Step G0 H0 G H) {p : Addr} {o : HO} (hp : H0 p = none) : Step G0 H0 G (upd H p o) := ⟨st.le, fun a u e n => by
  obtain ⟨h1, h2, h3⟩ := st.fr a u e n
  exact ⟨by rw [upd_ne (ne_of_none e hp)]; exact h1, h2, h3⟩⟩
theorem newL_adopt {G0 : Gh} {H0 : Hp} {W : XK} {mu : Bool} {ds : List D} {vs : List V} {p : Addr} {Q : VK} (pv : PV T G0 H0 W (newL mu ds S) Q) (st : Step G0 H0 G H) (h0 : H0 p = none) (hH : Held T G S H) (hp : H p = some (.lst vs)) (hG : G.H p = none) (hm : p ∉ G.m)
    (r : Reps T G ds vs) : Q (.ref p) H := by
  unfold newL at pv
  cases mu with
  | true =>
    have hc : CellRep T (G.push p) p H (.lst ds) := by
      simp only [CellRep]
      exact ⟨hG, vs, hp, r.le Gh.push_le⟩
    refine pv (G.push p) H (.ref p) ⟨st.le.trans Gh.push_le, fun a u e n => ?_⟩ (hH.adoptC hm hc) ?_
    · obtain ⟨h1, h2, h3⟩ := st.fr a u e n
      refine ⟨h1, ?_, h3⟩
      show a ∉ G.m ++ [p]
      rw [List.mem_append, List.mem_singleton]
      rintro (z | z)
      · exact h2 z
      · exact ne_of_none e h0 z
    · simp only [Rep]
      refine ⟨p, rfl, ?_⟩
      show (G.m ++ [p])[S.length]? = some p
      rw [← hH.len, List.getElem?_append_right (Nat.le_refl _), Nat.sub_self]; rfl
  | false =>
    have l : Le G (G.put p (.lst vs)) := Gh.put_le hG
    refine pv (G.put p (.lst vs)) H (.ref p) ⟨st.le.trans l, fun a u e n => ?_⟩ (hH.adopt hp hG hm) ?_
    · obtain ⟨h1, h2, h3⟩ := st.fr a u e n
      refine ⟨h1, h2, fun z => ?_⟩
      show upd G.H p _ a = none
      rw [upd_ne (ne_of_none e h0)]
      exact h3 z
    · simp only [Rep]
      exact ⟨p, vs, rfl, upd_same, r.le l⟩
theorem unp_store {n : Nat} {d : D} {xs : List D} {S S' : Store} (e : unp n d S = .ok xs S') : S' = S := by
  unfold unp at e
  split at e
  · split at e <;> cases e; rfl
  · split at e
    · split at e <;> cases e; rfl
    · cases e
theorem bind_store {t : Tg} {d : D} {env env' : Envd} {S S' : Store} (e : t.bind d env S = .ok env' S') : S' = S := by
  cases t with
  | nm i => simp only [Tg.bind, ret] at e; cases e; rfl
  | tp is =>
    simp only [Tg.bind, bnd] at e
    cases h : unp is.length d S with
    | ok xs S1 =>
      rw [h] at e
      cases e
      exact unp_store h
    | exc c fs S1 => rw [h] at e; cases e
    | stuck => rw [h] at e; cases e
end

abbrev WF : WX := fun _ _ _ _ => False
section
variable {T : Kit} {X : Cx} {W : WX} {pos : Pos} {a b : Expr} {tg : Expr} {fa fb : Envd → M D}
/-- a comprehension's tests: none or one -/
def testOf : Option (Envd → M Bool) → Envd → M Bool
  | none => fun _ => ret true
  | some f => f
abbrev VTs (T : Kit) (X : Cx) (W : WX) (es : List Expr) (f : Envd → M Bool) : Prop := PTs X es (tB2 T W f)
theorem _root_.L2.PTs.imp {X : Cx} {e : List Expr} {t t' : TT} (h : PTs X e t) (k : ∀ σ H Q, t' σ H Q → t σ H Q) : PTs X e t' := ⟨fun pins s σ H Q I q => h.run pins s σ H Q I (k _ _ _ q)⟩
theorem vts_nil : VTs T X W [] (fun _ => ret true) := pts_nil.imp fun σ H Q ⟨G, S, env, hE, hH, p⟩ => p.ret hH rfl
theorem vts_one {c : Expr} {f : Envd → M Bool} (h : VT T X W c f) : VTs T X W [c] f := pts_one h
theorem comp_turns {mu : Bool} {t : Tg} {own : List Nat} {test : Envd → M Bool} {elt : Envd → M D} {G0 : Gh} {S0 : Store} {H0 : Hp} {env : Envd} {σ : L2.St} {items : List D} {J : It} {Wx : XK} {Q : VK}
    (hE : EnvRep T G0 env σ) (hH : Held T G0 S0 H0) (hJ : relI T G0 items J) (hz : items.length ≤ sizeLine) (ho : ∀ i ∈ t.slots, i ∈ own)
    (p : Val (compL t test elt (wipeD env own) items S0) fun ys S' => PV T G0 H0 Wx (newL mu ys S') Q) (Dl : Addr) (hD : H0 Dl = none) :
    ∃ Wf : Nat → Nat → Hp → Prop, (∃ m, Wf 0 m (upd H0 Dl (.lst []))) ∧ ∀ i m H, Wf i m H →
      (J.stop i H ∧ Q (.ref Dl) H) ∨ (J.go i H ∧ ∃ Nx : Hp → Prop, (∀ H', Nx H' → ∃ m', m' < m ∧ Wf (i + 1) m' H') ∧ ∀ x H', J.yld i H x H' → gT T t x (wipe σ own) H' fun σ2 H2 => wipe σ2 own = wipe σ own ∧ tB2 T WF test σ2 H2 fun b H3 =>
        if b = true then tV T WF elt σ2 H3 fun y H4 => ∃ acc, H4 Dl = some (.lst acc) ∧ acc.length < sizeLine ∧ Nx (upd H4 Dl (.lst (acc ++ [y]))) else Nx H3) := by
  refine ⟨fun i m H => m = items.length - i ∧ i ≤ items.length ∧ ∃ G S acc vacc, Step G0 H0 G H ∧ Held T G S H ∧ H Dl = some (.lst vacc) ∧ G.H Dl = none ∧ Dl ∉ G.m ∧ Reps T G acc vacc ∧ acc.length ≤ i ∧
    Val (compL t test elt (wipeD env own) (items.drop i) S) fun ys S' => PV T G0 H0 Wx (newL mu (acc ++ ys) S') Q, ⟨items.length, rfl, Nat.zero_le _, ?_⟩, ?_⟩
  · obtain ⟨h1, h2⟩ := hH.beside (p := Dl) (o := .lst []) hD
    exact ⟨G0, S0, [], [], h2, h1, upd_same, hH.fresh hD, hH.notm hD, reps_nil, Nat.le_refl _, p⟩
  rintro i m H ⟨rfl, hi, G, S, acc, vacc, st, hh, hDl, hDg, hDm, hr, hacc, pv⟩
  obtain ⟨jg, js, jy⟩ := hJ i G S H st.le hh
  by_cases hlt : i < items.length
  · refine .inr ⟨jg hlt, _, fun H' q => ⟨items.length - (i + 1), by omega, rfl, hlt, q⟩, fun x H' hy => ?_⟩
    obtain ⟨d, G1, e, st1, hh1, rd⟩ := jy x H' hlt hy
    have hd : items.drop i = d :: items.drop (i + 1) := by
      rw [List.drop_eq_getElem_cons hlt]
      rw [List.getElem?_eq_getElem hlt] at e
      cases e; rfl
    rw [hd] at pv
    unfold compL at pv
    obtain ⟨env1, S1, e1, pv1⟩ := pv.bnd
    have es := bind_store e1
    subst es
    clear pv
    refine ⟨G1, S1, d, wipeD env own, wipeD_rep (hE.le (st.trans st1).le) own, hh1, rd, env1, e1, fun σ' hE' hw => ⟨(hw own ho).trans (by
      have : ∀ (us : List Nat), (∀ v ∈ us, v ∈ own) → wipe (wipe σ us) own = wipe σ own := by
        intro us
        induction us with
        | nil => intro _; rfl
        | cons u us ih =>
          intro hu
          show wipe ((wipe σ us).set u none) own = _
          rw [wipe_set (hu u List.mem_cons_self)]
          exact ih fun v hv => hu v (List.mem_cons_of_mem _ hv)
      exact this own fun v hv => hv), ?_⟩⟩
    obtain ⟨k, S2, e2, pv⟩ := pv1.nx
    refine ⟨G1, S1, env1, hE', hh1, ?_⟩
    rw [e2]
    intro G2 H2 k' st2 hh2 hk
    subst hk
    split
    · rename_i hk
      rw [if_pos hk] at pv
      obtain ⟨y, S3, e3, pv⟩ := pv.nx
      refine ⟨G2, S2, env1, hE'.le st2.le, hh2, ?_⟩
      rw [e3]
      intro G3 H3 v st3 hh3 rv
      have sst := (st1.trans st2).trans st3
      obtain ⟨f1, f2, f3⟩ := sst.fr Dl _ hDl hDm
      obtain ⟨ys, S4, e4, pv⟩ := pv.bnd
      have hlen := hr.len
      refine ⟨vacc, f1, by omega, G3, S3, acc ++ [y], vacc ++ [v], (st.trans sst).side hD, hh3.beside_set (f3 hDg) f2, upd_same, f3 hDg, f2, reps_snoc (hr.le sst.le) rv, by simp; omega, ?_⟩
      rw [e4]
      have pv' := pv.ret
      show PV T G0 H0 Wx (newL mu (acc ++ [y] ++ ys) S4) Q
      rw [List.append_assoc]
      exact pv'
    · rename_i hk
      rw [if_neg hk] at pv
      have sst := st1.trans st2
      obtain ⟨f1, f2, f3⟩ := sst.fr Dl _ hDl hDm
      exact ⟨G2, S2, acc, vacc, st.trans sst, hh2, f1, f3 hDg, f2, hr.le sst.le, by omega, pv⟩
  · have hi' : i = items.length := by omega
    refine .inl ⟨js (by omega), ?_⟩
    rw [hi', List.drop_length] at pv
    have pv' := pv.ret
    rw [List.append_nil] at pv'
    exact newL_adopt pv' st hD hh hDl hDg hDm hr
theorem tLc_of {mu : Bool} {it : Envd → M (List D)} {t : Tg} {own : List (Str × Nat)} {test : Envd → M Bool} {elt : Envd → M D} (ho : ∀ i ∈ t.slots, i ∈ own.map (·.2)) (σ : L2.St) (H : Hp) (Q : VK) (h : tV T W (sComp mu it t (own.map (·.2)) test elt) σ H Q) :
    tLc (tI T W it) (gT T t) (tB2 T WF test) (tV T WF elt) (own.map (·.2)) σ H Q := by
  obtain ⟨G, S, env, hE, hH, p⟩ := h
  refine ⟨G, S, env, hE, hH, (p.bnd (rel := relI T)).mono fun G1 S1 items J H1 st1 hd1 r1 p1 => ?_⟩
  split at p1
  · rename_i hz
    refine fun Dl hD => comp_turns (mu := mu) (Wx := at_ W σ) (hE.le st1.le) hd1 r1 hz ho ?_ Dl hD
    · cases e : compL t test elt (wipeD env (own.map (·.2))) items S1 with
      | ok ys S2 =>
        simp only [bnd, nx, e] at p1
        exact p1
      | exc c fs S2 => simp only [bnd, nx, e] at p1; exact p1.elim
      | stuck => simp only [bnd, nx, e] at p1; exact p1.elim
  · exact p1.elim
theorem ve_comp {mu : Bool} {elt iter : Expr} {ifs : List Expr} {scope : Scope} {own : List (Str × Nat)} {it : Envd → M (List D)} {t : Tg} {test : Envd → M Bool} {fe : Envd → M D} (hc : X.calm = true) (hN : X.N.Nodup) (hi : VI T X W tg iter it) (ok : BlkOk X.N X.env.scope scope own)
    (hg : ∀ (s : Shared) (H : Hp) (C : Addr) (cl : List (Str × Addr)) (fp : List Addr), VG T (X.blk s H scope (compEnvC scope cl C X.env) fp) tg t) (ht : ∀ (s : Shared) (H : Hp) (C : Addr) (cl : List (Str × Addr)) (fp : List Addr), VTs T (X.blk s H scope (compEnvC scope cl C X.env) fp) WF ifs test)
    (he : ∀ (s : Shared) (H : Hp) (C : Addr) (cl : List (Str × Addr)) (fp : List Addr), VE T (X.blk s H scope (compEnvC scope cl C X.env) fp) WF elt fe) (hs : ∀ x, foldedSetIterable iter X.env x = pure x) (ho : ∀ i ∈ t.slots, i ∈ own.map (·.2)) :
    VE T X W (.ListComp elt [⟨tg, iter, ifs, 0⟩] scope pos) (sComp mu it t (own.map (·.2)) test fe) :=
  (pe_lc hc hN hi ok hg ht he hs).imp (tLc_of ho)

/-! ### a def of the text, called -/
def spOf (T : Kit) (sem : List D → M D) : Sp := fun vs H Q E => ∃ G S ds, Held T G S H ∧ Reps T G ds vs ∧ PV T G H E (sem ds S) Q
/-- a def that stands under a name -/
structure FnAt (X : Cx) (T : Kit) (k : Nat) (x : Str) (sem : List D → M D) : Prop where
  ex : ∃ f fd ps, X.mg x = some (.ref f) ∧ PySem.W.keepIn X.K (.ref f) = true ∧ FnOk X.prog X.w X.K X.mg X.base (L2.CX X.prog X.w) k f fd ps (spOf T sem) ∧ Binds X.K fd ps []
theorem ve_call {k : Nat} {x : Str} {p : Pos} {e : Expr} {es : List Expr} {f : Envd → M (List D)} {sem : List D → M D} (F : FnAt X T k x sem) (hr : Room k X.A) (hg : Gl X x) (hx : ∀ σ, PassesAt (L2.CX X.prog X.w) X σ (WE W σ)) (ha : VA T X W (e :: es) f)
    (hd : (x == ("__debug__" : Str)) = false) (hs : noStar (e :: es) = true) : VE T X W (.Call (.Name x p) (e :: es) [] pos) (fun env => bnd (f env) sem) := by
  obtain ⟨fa, fd, ps, hm, hk, F, hb⟩ := F.ex
  refine (pe_callS F hr hg hm hk hb hx ha hd (star_cons hs) (star_any (noStar_tail hs))).imp fun σ H Q ⟨G, S, env, hE, hH, p⟩ => ?_
  refine ⟨G, S, env, hE, hH, (p.bnd (rel := Reps T)).mono fun G1 S1 ds xs H1 st1 hd1 r1 p1 => ?_⟩
  exact ⟨G1, S1, ds, hd1, r1, p1⟩
end
end Ev

set_option Elab.async false
set_option linter.all false
set_option maxRecDepth 100000
set_option maxHeartbeats 4000000
/-! EvG: statements by data. -/
namespace Ev
open PySem PySem.Spec PyProof.Rows L2

/-- how a statement ends -/
inductive RS where
  | nx (env : Envd) (S : Store) | rt (d : D) (S : Store) | bk (env : Envd) (S : Store) | ct (env : Envd) (S : Store) | exc (c : Nat) (fs : List D) (env : Envd) (S : Store) | stuck
abbrev MS := Envd → Store → RS
def eB {α : Type} (r : R α) (env : Envd) (k : α → Store → RS) : RS := match r with
  | .ok a S => k a S
  | .exc c fs S => .exc c fs env S
  | .stuck => .stuck
def PS' (T : Kit) (G : Gh) (H : Hp) (W : WX) (D' : Ends) (r : RS) : Prop := match r with
  | .nx env S => ∀ G' H' σ', Step G H G' H' → Held T G' S H' → EnvRep T G' env σ' → D'.nx σ' H'
  | .rt d S => ∀ G' H' v, Step G H G' H' → Held T G' S H' → Rep T G' d v → D'.rt v H'
  | .bk env S => ∀ G' H' σ', Step G H G' H' → Held T G' S H' → EnvRep T G' env σ' → D'.bk σ' H'
  | .ct env S => ∀ G' H' σ', Step G H G' H' → Held T G' S H' → EnvRep T G' env σ' → D'.ct σ' H'
  | .exc c fs env S => ∀ G' H' σ' cls dx, Step G H G' H' → Held T G' S H' → EnvRep T G' env σ' → ExcRep T G' c fs cls dx → W cls dx σ' H'
  | .stuck => False
def tS (T : Kit) (W : WX) (f : MS) : TS := fun D' σ H => ∃ G S env, EnvRep T G env σ ∧ Held T G S H ∧ PS' T G H W D' (f env S)
abbrev VS (T : Kit) (X : Cx) (W : WX) (st : Stmt) (f : MS) : Prop := PS X st (tS T W f)
abbrev VSs (T : Kit) (X : Cx) (W : WX) (st : List Stmt) (f : MS) : Prop := PSs X st (tS T W f)
section
variable {T : Kit} {W : WX} {G G1 : Gh} {H H1 : Hp} {D' : Ends} {S : Store} {env : Envd} {σ : L2.St}
theorem PS'.later {r : RS} (st : Step G H G1 H1) (h : PS' T G H W D' r) : PS' T G1 H1 W D' r := by
  cases r with
  | nx env S => exact fun G' H' σ' s => h G' H' σ' (st.trans s)
  | rt d S => exact fun G' H' v s => h G' H' v (st.trans s)
  | bk env S => exact fun G' H' σ' s => h G' H' σ' (st.trans s)
  | ct env S => exact fun G' H' σ' s => h G' H' σ' (st.trans s)
  | exc c fs env S => exact fun G' H' σ' cls dx s => h G' H' σ' cls dx (st.trans s)
  | stuck => exact h
/-- an expression's end, then more -/
theorem PS'.eB {α β : Type} {rel : Gh → α → β → Prop} {r : R α} {k : α → Store → RS} (hE : EnvRep T G env σ) (h : PS' T G H W D' (eB r env k)) : Pst T rel G H (at_ W σ) r fun G' S' a b H' => PS' T G' H' W D' (k a S') := by
  cases r with
  | ok a S' => exact fun G' H' b s hd rr => h.later s
  | exc c fs S' => exact fun G' H' cls dx s hd x => h G' H' σ cls dx s hd (hE.le s.le) x
  | stuck => exact h
theorem PS'.nxt {env : Envd} {S : Store} (h : PS' T G H W D' (.nx env S)) (hH : Held T G S H) (hE : EnvRep T G env σ) : D'.nx σ H := h G H σ .refl hH hE
end

def sPass : MS := fun env S => .nx env S
def sBreak : MS := fun env S => .bk env S
def sCont : MS := fun env S => .ct env S
def sSeq (f g : MS) : MS := fun env S => match f env S with
  | .nx env' S' => g env' S'
  | r => r
def sExpr (f : Envd → M D) : MS := fun env S => eB (f env S) env fun _ S' => .nx env S'
def sRet (f : Envd → M D) : MS := fun env S => eB (f env S) env fun d S' => .rt d S'
def sRetN : MS := fun _ S => .rt .non S
def sIfS (c : Envd → M Bool) (f g : MS) : MS := fun env S => eB (c env S) env fun b S' => if b = true then f env S' else g env S'
def sAsg (t : Tg) (f : Envd → M D) : MS := fun env S => eB (f env S) env fun d S' => eB (t.bind d env S') env fun env' S'' => .nx env' S''
def sTup (is : List Nat) (f : Envd → M (List D)) : MS := fun env S => eB (f env S) env fun ds S' => if ds.length = is.length then .nx (setAll is ds env) S' else .stuck
section
variable {T : Kit} {X : Cx} {W : WX} {pos : Pos} {a b : Expr} {fa fb : Envd → M D}
theorem vs_pass : VS T X W (.Pass pos) sPass := ps_pass.imp fun D' σ H ⟨G, S, env, hE, hH, p⟩ => p.nxt hH hE
theorem vs_break : VS T X W (.Break pos) sBreak := ps_break.imp fun D' σ H ⟨G, S, env, hE, hH, p⟩ => p G H σ .refl hH hE
theorem vs_cont : VS T X W (.Continue pos) sCont := ps_continue.imp fun D' σ H ⟨G, S, env, hE, hH, p⟩ => p G H σ .refl hH hE
theorem vss_nil : VSs T X W [] sPass := pss_nil.imp fun D' σ H ⟨G, S, env, hE, hH, p⟩ => p.nxt hH hE
/-- a statement's reading, then what follows it -/
theorem tS_seq {f g : MS} (D' : Ends) (σ : L2.St) (H : Hp) (h : tS T W (sSeq f g) D' σ H) : tSeq (tS T W f) (tS T W g) D' σ H := by
  obtain ⟨G, S, env, hE, hH, p⟩ := h
  refine ⟨G, S, env, hE, hH, ?_⟩
  unfold sSeq at p
  cases e : f env S with
  | nx env' S' =>
    rw [e] at p
    exact fun G' H' σ' s hd hE' => ⟨G', S', env', hE', hd, p.later s⟩
  | rt d S' => rw [e] at p; exact p
  | bk env' S' => rw [e] at p; exact p
  | ct env' S' => rw [e] at p; exact p
  | exc c fs env' S' => rw [e] at p; exact p
  | stuck => rw [e] at p; exact p
theorem vss_cons {st : Stmt} {rest : List Stmt} {f g : MS} (h1 : VS T X W st f) (h2 : VSs T X W rest g) : VSs T X W (st :: rest) (sSeq f g) := (pss_cons h1 h2).imp tS_seq
theorem vss_one {st : Stmt} {f : MS} (h1 : VS T X W st f) : VSs T X W [st] f := pss_one h1
theorem vs_expr (ha : VE T X W a fa) (hs : swapsWith a none pos.line X.env = pure false) : VS T X W (.Expr a pos) (sExpr fa) := by
  refine (ps_expr ha hs).imp fun D' σ H ⟨G, S, env, hE, hH, p⟩ => ?_
  exact ⟨G, S, env, hE, hH, (p.eB hE (rel := Rep T)).mono fun G1 S1 d v H1 st1 hd1 r1 p1 => p1.nxt hd1 (hE.le st1.le)⟩
theorem vs_ret (ha : VE T X W a fa) : VS T X W (.Return (some a) pos) (sRet fa) := by
  refine (ps_ret ha).imp fun D' σ H ⟨G, S, env, hE, hH, p⟩ => ?_
  exact ⟨G, S, env, hE, hH, (p.eB hE (rel := Rep T)).mono fun G1 S1 d v H1 st1 hd1 r1 p1 => p1 G1 H1 v .refl hd1 r1⟩
theorem vs_retN : VS T X W (.Return none pos) sRetN := by
  refine ps_retN.imp fun D' σ H ⟨G, S, env, hE, hH, p⟩ => ?_
  exact p G H .non .refl hH (by simp only [Rep])
theorem vs_if {c : Expr} {fc : Envd → M Bool} {p q : List Stmt} {f g : MS} (hc : VT T X W c fc) (hp : VSs T X W p f) (hq : VSs T X W q g) : VS T X W (.If c p q pos) (sIfS fc f g) := by
  refine (ps_if hc hp hq).imp fun D' σ H ⟨G, S, env, hE, hH, p⟩ => ?_
  refine ⟨G, S, env, hE, hH, (p.eB hE (rel := fun _ (a b : Bool) => b = a)).mono fun G1 S1 k k' H1 st1 hd1 r1 p1 => ?_⟩
  subst r1
  split
  · rename_i hk
    rw [if_pos hk] at p1
    exact ⟨G1, S1, env, hE.le st1.le, hd1, p1⟩
  · rename_i hk
    rw [if_neg hk] at p1
    exact ⟨G1, S1, env, hE.le st1.le, hd1, p1⟩
/-- from a value to a target -/
theorem gT_of {t : Tg} {G : Gh} {S : Store} {H : Hp} {d : D} {v : V} {env : Envd} {σ : L2.St} {D' : Ends} (hE : EnvRep T G env σ) (hH : Held T G S H) (r : Rep T G d v) (p : PS' T G H W D' (eB (t.bind d env S) env fun env' S' => .nx env' S')) : gT T t v σ H D'.nx := by
  refine ⟨G, S, d, env, hE, hH, r, ?_⟩
  cases e : t.bind d env S with
  | ok env' S' =>
    have es := bind_store e
    subst es
    rw [e] at p
    exact ⟨env', rfl, fun σ' hE' _ => p G H σ' .refl hH hE'⟩
  | exc c fs S' =>
    exfalso
    cases t with
    | nm i => simp only [Tg.bind, ret] at e; cases e
    | tp is =>
      simp only [Tg.bind, bnd] at e
      cases h : unp is.length d S with
      | ok xs S1 => rw [h] at e; cases e
      | exc c fs S1 =>
        unfold unp at h
        split at h
        · split at h <;> cases h
        · split at h
          · split at h <;> cases h
          · cases h
      | stuck => rw [h] at e; cases e
  | stuck => rw [e] at p; exact p.elim
theorem vs_asg {tg : Expr} {t : Tg} (ha : VE T X W a fa) (hg : VG T X tg t) (hs : swapsWithSole [tg] a pos.line X.env = pure false) (hw : swappedStores [tg] a X.env = pure none) (h1 : (assignEach [tg] X.env).map (·.2) = [assign tg X.env]) :
    VS T X W (.Assign [tg] a pos) (sAsg t fa) := by
  refine (ps_asg ha hg hs hw h1).imp fun D' σ H ⟨G, S, env, hE, hH, p⟩ => ?_
  exact ⟨G, S, env, hE, hH, (p.eB hE (rel := Rep T)).mono fun G1 S1 d v H1 st1 hd1 r1 p1 => gT_of (hE.le st1.le) hd1 r1 p1⟩
theorem vs_asgLc {i : Nat} {y : Str} {py spos : Pos} {mu : Bool} {elt iter tg : Expr} {ifs : List Expr} {scope : Scope} {own : List (Str × Nat)} {it : Envd → M (List D)} {t : Tg} {test : Envd → M Bool} {fe : Envd → M D} (hc : X.calm = true) (hN : X.N.Nodup)
    (hy : X.N[i]? = some y) (hyl : X.env.scope.names.lookup y = some .local) (hsw : swapsWith (.ListComp elt [⟨tg, iter, ifs, 0⟩] scope pos) (some (.Name y py)) spos.line X.env = pure true)
    (hi : VI T X W tg iter it) (ok : BlkOk X.N X.env.scope scope own)
    (hg : ∀ (s : Shared) (H : Hp) (C : Addr) (cl : List (Str × Addr)) (fp : List Addr), VG T (X.blk s H scope (compEnvC scope cl C X.env) fp) tg t) (ht : ∀ (s : Shared) (H : Hp) (C : Addr) (cl : List (Str × Addr)) (fp : List Addr), VTs T (X.blk s H scope (compEnvC scope cl C X.env) fp) WF ifs test)
    (he : ∀ (s : Shared) (H : Hp) (C : Addr) (cl : List (Str × Addr)) (fp : List Addr), VE T (X.blk s H scope (compEnvC scope cl C X.env) fp) WF elt fe) (hs : ∀ x, foldedSetIterable iter X.env x = pure x) (ho : ∀ i ∈ t.slots, i ∈ own.map (·.2)) :
    VS T X W (.Assign [.Name y py] (.ListComp elt [⟨tg, iter, ifs, 0⟩] scope pos) spos) (sAsg (.nm i) (sComp mu it t (own.map (·.2)) test fe)) := by
  refine (ps_setLc hc hN hy hyl hsw hi ok hg ht he hs).imp fun D' σ H ⟨G, S, env, hE, hH, p⟩ => ?_
  refine tLc_of ho σ H _ ⟨G, S, env, hE, hH, (p.eB hE (rel := Rep T)).mono fun G1 S1 d v H1 st1 hd1 r1 p1 => ?_⟩
  exact p1.nxt hd1 ((hE.le st1.le).set i r1)
/-! two or three names from as many expressions -/
theorem vs_par2 {i j : Nat} {x y : Str} {f : Envd → M (List D)} {px py pt : Pos} {kt k2 pt2} (hc : X.calm = true) (hN : X.N.Nodup) (hi : X.N[i]? = some x) (hj : X.N[j]? = some y) (hij : i ≠ j)
    (hx : X.env.scope.names.lookup x = some .local) (hy : X.env.scope.names.lookup y = some .local) (ha : VA T X W [a, b] f)
    (hw : swappedStores [.Tuple [.Name x px, .Name y py] kt pt] (.Tuple [a, b] k2 pt2) X.env = pure (some [x, y])) : VS T X W (.Assign [.Tuple [.Name x px, .Name y py] kt pt] (.Tuple [a, b] k2 pt2) pos) (sTup [i, j] f) := by
  refine (ps_par hc hN hi hj hij hx hy ha hw rfl).imp fun D' σ H ⟨G, S, env, hE, hH, p⟩ => ?_
  refine ⟨G, S, env, hE, hH, (p.eB hE (rel := Reps T)).mono fun G1 S1 ds vs H1 st1 hd1 r1 p1 => ?_⟩
  split at p1
  · rename_i hl
    have hv : vs.length = 2 := by rw [← r1.len]; exact hl
    match vs, hv with
    | [v, w], _ => exact ⟨v, w, rfl, p1 G1 H1 _ .refl hd1 (setAll_rep (is := [i, j]) (hE.le st1.le) r1)⟩
  · exact p1.elim
theorem vs_par3 {i j l : Nat} {x y z : Str} {c : Expr} {f : Envd → M (List D)} {px py pz pt : Pos} {kt k2 pt2} (hc : X.calm = true) (hN : X.N.Nodup) (hi : X.N[i]? = some x) (hj : X.N[j]? = some y) (hl : X.N[l]? = some z) (hij : i ≠ j) (hil : i ≠ l) (hjl : j ≠ l)
    (hx : X.env.scope.names.lookup x = some .local) (hy : X.env.scope.names.lookup y = some .local) (hz : X.env.scope.names.lookup z = some .local) (ha : VA T X W [a, b, c] f)
    (hw : swappedStores [.Tuple [.Name x px, .Name y py, .Name z pz] kt pt] (.Tuple [a, b, c] k2 pt2) X.env = pure (some [x, y, z])) :
    VS T X W (.Assign [.Tuple [.Name x px, .Name y py, .Name z pz] kt pt] (.Tuple [a, b, c] k2 pt2) pos) (sTup [i, j, l] f) := by
  refine (ps_par3 hc hN hi hj hl hij hil hjl hx hy hz ha hw rfl).imp fun D' σ H ⟨G, S, env, hE, hH, p⟩ => ?_
  refine ⟨G, S, env, hE, hH, (p.eB hE (rel := Reps T)).mono fun G1 S1 ds vs H1 st1 hd1 r1 p1 => ?_⟩
  split at p1
  · rename_i hl
    have hv : vs.length = 3 := by rw [← r1.len]; exact hl
    match vs, hv with
    | [u, v, w], _ => exact ⟨u, v, w, rfl, p1 G1 H1 _ .refl hd1 (setAll_rep (is := [i, j, l]) (hE.le st1.le) r1)⟩
  · exact p1.elim
/-- any number of names, by a tuple -/
theorem vs_tup {es vs : List Expr} {is : List Nat} {f : Envd → M (List D)} {kt k2 : Nat} {pt pt2 : Pos} (hK : X.K = T.K) (hc : X.calm = true) (hN : X.N.Nodup) (hn : NamesAt X es is) (ha : VA T X W vs f)
    (hw : swappedStores [.Tuple es kt pt] (.Tuple vs k2 pt2) X.env = pure none) (hsz : is.length ≤ sizeLine) : VS T X W (.Assign [.Tuple es kt pt] (.Tuple vs k2 pt2) pos) (sTup is f) := by
  refine (vs_asg (ve_tup ha) (vg_tup hK hc hN hn) rfl hw rfl).imp fun D' σ H ⟨G, S, env, hE, hH, p⟩ => ⟨G, S, env, hE, hH, ?_⟩
  unfold sTup at p
  unfold sAsg
  cases e : f env S with
  | ok ds S1 =>
    rw [e] at p
    simp only [eB] at p
    split at p
    · rename_i hl
      simp only [bnd, e, if_pos (show ds.length ≤ sizeLine by omega), ret, eB, Tg.bind, unp, if_pos hl]
      exact p
    · exact p.elim
  | exc c fs S1 =>
    rw [e] at p
    simp only [bnd, e, eB]
    exact p
  | stuck =>
    rw [e] at p
    exact p.elim

/-! ### loops -/
def forL (t : Tg) (kill : List Nat) (body : MS) : List D → MS
  | [], env, S => .nx (wipeD env kill) S
  | d :: ds, env, S => eB (t.bind d (wipeD env kill) S) env fun env1 S1 => match body env1 S1 with
    | .nx env2 S2 => forL t kill body ds env2 S2
    | .ct env2 S2 => forL t kill body ds env2 S2
    | .bk env2 S2 => .nx (wipeD env2 kill) S2
    | r => r
def sFor (t : Tg) (kill : List Nat) (it : Envd → M (List D)) (body : MS) : MS := fun env S => eB (it env S) env fun items S1 => forL t kill body items env S1
theorem kill_rep {G : Gh} {env : Envd} {σ : L2.St} (h : EnvRep T G env σ) : ∀ vs : List Nat, EnvRep T G (wipeD env vs) σ
  | [] => h
  | v :: vs => (kill_rep h vs).kill v
theorem vs_for {tg iter : Expr} {body : List Stmt} {it : Envd → M (List D)} {t : Tg} {kill : List Nat} {fb : MS} (hp : PassesOwn (model X.prog X.w) X.A X.env X.xe) (hc : X.calm = true) (hi : VI T X W tg iter it) (hg : VG T X tg t) (hb : VSs T X W body fb)
    (hs : ∀ x, foldedSetIterable iter X.env x = pure x) : VS T X W (.For tg iter body [] pos) (sFor t kill it fb) := by
  refine (ps_for hp hc hi hg hb hs).imp fun D' σ H ⟨G, S, env, hE, hH, p⟩ => ?_
  refine ⟨G, S, env, hE, hH, (p.eB hE (rel := relI T)).mono fun G0 S0 items J H0 st0 hd0 hJ p0 => ?_⟩
  refine ⟨fun i m σ H => m = items.length - i ∧ i ≤ items.length ∧ ∃ G S env, Le G0 G ∧ EnvRep T G env σ ∧ Held T G S H ∧ PS' T G H W D' (forL t kill fb (items.drop i) env S), ⟨items.length, rfl, Nat.zero_le _, G0, S0, env, .refl, hE.le st0.le, hd0, p0⟩, ?_⟩
  rintro i m σ H ⟨rfl, hi, G, S, env, lg, hE, hH, p⟩
  obtain ⟨jg, js, jy⟩ := hJ i G S H lg hH
  by_cases hlt : i < items.length
  · refine .inr ⟨jg hlt, _, fun σ' H' q => ⟨items.length - (i + 1), by omega, rfl, hlt, q⟩, fun x H' hy => ?_⟩
    obtain ⟨d, G1, e, st1, hh1, rd⟩ := jy x H' hlt hy
    have hd : items.drop i = d :: items.drop (i + 1) := by
      rw [List.drop_eq_getElem_cons hlt]
      rw [List.getElem?_eq_getElem hlt] at e
      cases e; rfl
    rw [hd] at p
    unfold forL at p
    have hE1 := kill_rep (hE.le st1.le) kill
    refine ⟨G1, S, d, wipeD env kill, hE1, hh1, rd, ?_⟩
    cases e1 : t.bind d (wipeD env kill) S with
    | stuck => rw [e1] at p; exact p.elim
    | exc c fs S1 =>
      exfalso
      cases t with
      | nm i => simp only [Tg.bind, ret] at e1; cases e1
      | tp is =>
        simp only [Tg.bind, bnd] at e1
        cases h : unp is.length d S with
        | ok xs S1 => rw [h] at e1; cases e1
        | exc c fs S1 =>
          unfold unp at h
          split at h
          · split at h <;> cases h
          · split at h
            · split at h <;> cases h
            · cases h
        | stuck => rw [h] at e1; cases e1
    | ok env1 S1 =>
      have es := bind_store e1
      subst es
      rw [e1] at p
      simp only [eB] at p
      refine ⟨env1, rfl, fun σ' hE' _ => ⟨G1, S1, env1, hE', hh1, ?_⟩⟩
      cases e2 : fb env1 S1 with
      | nx env2 S2 =>
        rw [e2] at p
        exact fun G2 H2 σ2 st2 hh2 hE2 => ⟨G2, S2, env2, (lg.trans st1.le).trans st2.le, hE2, hh2, p.later (st1.trans st2)⟩
      | ct env2 S2 =>
        rw [e2] at p
        exact fun G2 H2 σ2 st2 hh2 hE2 => ⟨G2, S2, env2, (lg.trans st1.le).trans st2.le, hE2, hh2, p.later (st1.trans st2)⟩
      | bk env2 S2 =>
        rw [e2] at p
        exact fun G2 H2 σ2 st2 hh2 hE2 => p G2 H2 σ2 (st1.trans st2) hh2 (kill_rep hE2 kill)
      | rt d S2 =>
        rw [e2] at p
        exact fun G2 H2 v st2 hh2 rv => p G2 H2 v (st1.trans st2) hh2 rv
      | exc c fs env2 S2 =>
        rw [e2] at p
        exact fun G2 H2 σ2 cls dx st2 hh2 hE2 x => p G2 H2 σ2 cls dx (st1.trans st2) hh2 hE2 x
      | stuck => rw [e2] at p; exact p.elim
  · have hi' : i = items.length := by omega
    refine .inl ⟨js (by omega), ?_⟩
    rw [hi', List.drop_length] at p
    exact p G H σ .refl hH (kill_rep hE kill)
def whileL (kill : List Nat) (c : Envd → M Bool) (body : MS) : Nat → MS
  | 0, _, _ => .stuck
  | n + 1, env, S => eB (c (wipeD env kill) S) env fun b S1 => if b = true then match body (wipeD env kill) S1 with
      | .nx env2 S2 => whileL kill c body n env2 S2
      | .ct env2 S2 => whileL kill c body n env2 S2
      | .bk env2 S2 => .nx (wipeD env2 kill) S2
      | r => r
    else .nx (wipeD env kill) S1
theorem vs_while {c : Expr} {body : List Stmt} {kill : List Nat} {n : Nat} {fc : Envd → M Bool} {fb : MS} (hp : PassesOwn (model X.prog X.w) X.A X.env X.xe) (hc : VT T X W c fc) (hb : VSs T X W body fb) : VS T X W (.While c body [] pos) (whileL kill fc fb n) := by
  refine (ps_while hp hc hb).imp fun D' σ H ⟨G, S, env, hE, hH, p⟩ => ?_
  refine ⟨fun m σ H => ∃ G S env, EnvRep T G env σ ∧ Held T G S H ∧ PS' T G H W D' (whileL kill fc fb m env S), ⟨n, G, S, env, hE, hH, p⟩, ?_⟩
  rintro m σ H ⟨G, S, env, hE, hH, p⟩
  cases m with
  | zero => exact p.elim
  | succ m =>
    unfold whileL at p
    have hE1 := kill_rep hE kill
    refine ⟨G, S, wipeD env kill, hE1, hH, (p.eB hE (rel := fun _ (a b : Bool) => b = a)).mono fun G1 S1 k k' H1 st1 hd1 r1 p1 => ?_⟩
    subst r1
    split
    · rename_i hk
      rw [if_pos hk] at p1
      refine ⟨_, fun σ' H' q => ⟨m, Nat.lt_succ_self _, q⟩, G1, S1, wipeD env kill, hE1.le st1.le, hd1, ?_⟩
      cases e2 : fb (wipeD env kill) S1 with
      | nx env2 S2 =>
        rw [e2] at p1
        exact fun G2 H2 σ2 st2 hh2 hE2 => ⟨G2, S2, env2, hE2, hh2, p1.later st2⟩
      | ct env2 S2 =>
        rw [e2] at p1
        exact fun G2 H2 σ2 st2 hh2 hE2 => ⟨G2, S2, env2, hE2, hh2, p1.later st2⟩
      | bk env2 S2 =>
        rw [e2] at p1
        exact fun G2 H2 σ2 st2 hh2 hE2 => p1 G2 H2 σ2 st2 hh2 (kill_rep hE2 kill)
      | rt d S2 =>
        rw [e2] at p1
        exact p1
      | exc c fs env2 S2 =>
        rw [e2] at p1
        exact p1
      | stuck => rw [e2] at p1; exact p1.elim
    · rename_i hk
      rw [if_neg hk] at p1
      exact p1 G1 H1 σ .refl hd1 (hE1.le st1.le)
end
end Ev

set_option Elab.async false
set_option linter.all false
set_option maxRecDepth 100000
set_option maxHeartbeats 4000000
/-! EvH: methods of lists, texts, ints; stores to a list's places. -/
namespace Ev
open PySem PySem.Spec PyProof.Rows L2

section
variable {T : Kit} {G : Gh} {S : Store} {H : Hp}
/-- a list that may change -/
theorem cell_lst {k : Nat} {x : V} {xs : List D} (hH : Held T G S H) (r : Rep T G (.ref k) x) (e : S[k]? = some (.lst xs)) : ∃ a vs, x = .ref a ∧ G.m[k]? = some a ∧ G.H a = none ∧ H a = some (.lst vs) ∧ Reps T G xs vs := by
  simp only [Rep] at r
  obtain ⟨a, rfl, q⟩ := r
  have c := hH.cell k _ a e q
  simp only [CellRep] at c
  obtain ⟨c0, vs, c1, c2⟩ := c
  exact ⟨a, vs, rfl, q, c0, c1, c2⟩
theorem put_lst {W : XK} {k : Nat} {a : Addr} {xs ys : List D} {vs : List V} {d : D} {v : V} {Q : VK} (hH : Held T G S H) (e : S[k]? = some (.lst xs)) (hm : G.m[k]? = some a) (h0 : G.H a = none) (r : Reps T G ys vs) (rd : Rep T G d v)
    (p : PV T G H W (.ok d (S.set k (.lst ys))) Q) : Q v (upd H a (.lst vs)) := by
  obtain ⟨h1, h2⟩ := hH.write (o := .lst vs) (c' := .lst ys) e hm h0 (by simp only [CellRep]; exact ⟨h0, vs, upd_same, r⟩)
  exact p G _ v h2 h1 rd
end
def chkL (d : D) : M Unit := fun S => match seqL S d with
  | some _ => .ok () S
  | none => .stuck
def chkS (d : D) : M Unit := fun S => match d with
  | .str _ => .ok () S
  | _ => .stuck
def sBM (chk : D → M Unit) (fo : Envd → M D) (fa : Envd → M (List D)) (g : D → List D → M D) : Envd → M D := fun env => bnd (fo env) fun d => bnd (chk d) fun _ => bnd (fa env) fun ds => g d ds
section
variable {T : Kit} {X : Cx} {W : WX} {pos apos : Pos} {o e a b : Expr} {es : List Expr} {fo fa' fb : Envd → M D} {fa : Envd → M (List D)}
abbrev MtOk (T : Kit) (g : D → List D → M D) (r : V → List V → Hp → VK → Prop) : Prop := ∀ (W : XK) (G : Gh) (S : Store) (H : Hp) (d : D) (x : V) (ds : List D) (xs : List V) (Q : VK), Held T G S H → Rep T G d x → Reps T G ds xs → PV T G H W (g d ds S) Q → r x xs H Q
/-- the receiver of a method's call is no super() -/
def plainO : Expr → Bool
  | .Call (.Name _ _) [] [] _ => false
  | _ => true
theorem base_of {m : Str} (h : plainO o = true) : attributeBase o m X.env (eval o X.env) = eval o X.env := by
  unfold attributeBase
  split
  · simp only [plainO] at h; cases h
  · rfl
theorem star_all {es : List Expr} {env : Env} (h : noStar es = true) : (backTo pos (starEach es env)).all (fun x => !x.1) = true := by
  induction es with
  | nil => rfl
  | cons e es ih =>
    rw [star_cons h]
    have := ih (noStar_tail h)
    unfold backTo at this ⊢
    rw [List.map_cons, List.all_cons, this]; rfl
theorem few_of {es : List Expr} (h : noStar es = true) (hl : es.length < 20) : ((backTo pos (starEach es X.env)).all (fun x => !x.1) && (backToKw pos (keywordEach [] X.env)).all (fun x => x.1.isSome)
      && decide (es.length + ([] : List Keyword).length + (if ([] : List Keyword).isEmpty then 0 else 1) < 30)) = true := by
  rw [star_all h]
  simp only [Bool.true_and, Bool.and_eq_true, decide_eq_true_eq]
  refine ⟨rfl, ?_⟩
  simp
  omega
theorem ve_bm {T0 : String} {name : Str} {id : String} {chk : D → M Unit} {g : D → List D → M D} {r : V → List V → Hp → VK → Prop} (pa : PlainAttrs T0) (slot : Slot T0 name id) (hty : typeOf (.builtin id) = pure (.type "method_descriptor")) (hm : MtR X id r)
    (hc : ∀ (W : XK) (G : Gh) (S : Store) (H : Hp) (d : D) (x : V) {α β : Type} (rel : Gh → α → β → Prop) (k : Unit → M α) (Q : Gh → Store → α → β → Hp → Prop), Held T G S H → Rep T G d x → Pst T rel G H W (bnd (chk d) k S) Q → tyV X.K T0 x H ∧ Pst T rel G H W (k () S) Q)
    (hr : MtOk T g r) (ho : VE T X W o fo) (ha : VA T X W (e :: es) fa) (hb : plainO o = true) (hs : noStar (e :: es) = true) (hl : (e :: es).length < 20) (hline : (apos.endLine == pos.line) = true) :
    VE T X W (.Call (.Attribute o name apos) (e :: es) [] pos) (sBM chk fo fa g) := by
  refine (pe_bm pa slot hty hm ho ha (base_of hb) (few_of hs hl) hline (star_cons hs) (star_any (noStar_tail hs))).imp fun σ H Q ⟨G, S, env, hE, hH, p⟩ => ?_
  refine ⟨G, S, env, hE, hH, (p.bnd (rel := Rep T)).mono fun G1 S1 d x H1 st1 hd1 r1 p1 => ?_⟩
  obtain ⟨h1, p2⟩ := hc _ _ _ _ _ _ _ _ _ hd1 r1 p1
  refine ⟨h1, G1, S1, env, hE.le st1.le, hd1, (p2.bnd (rel := Reps T)).mono fun G2 S2 ds xs H2 st2 hd2 r2 p3 => ?_⟩
  exact hr _ _ _ _ _ _ _ _ _ hd2 (r1.le st2.le) r2 p3
theorem ve_bm0 {T0 : String} {name : Str} {id : String} {chk : D → M Unit} {g : D → List D → M D} {r : V → List V → Hp → VK → Prop} (pa : PlainAttrs T0) (slot : Slot T0 name id) (hty : typeOf (.builtin id) = pure (.type "method_descriptor")) (hm : MtR X id r)
    (hc : ∀ (W : XK) (G : Gh) (S : Store) (H : Hp) (d : D) (x : V) {α β : Type} (rel : Gh → α → β → Prop) (k : Unit → M α) (Q : Gh → Store → α → β → Hp → Prop), Held T G S H → Rep T G d x → Pst T rel G H W (bnd (chk d) k S) Q → tyV X.K T0 x H ∧ Pst T rel G H W (k () S) Q)
    (hr : MtOk T g r) (ho : VE T X W o fo) (hb : plainO o = true) (hline : (apos.endLine == pos.line) = true) :
    VE T X W (.Call (.Attribute o name apos) [] [] pos) (sBM chk fo sNil g) := by
  refine (pe_bm0 pa slot hty hm ho (base_of hb) hline).imp fun σ H Q ⟨G, S, env, hE, hH, p⟩ => ?_
  refine ⟨G, S, env, hE, hH, (p.bnd (rel := Rep T)).mono fun G1 S1 d x H1 st1 hd1 r1 p1 => ?_⟩
  obtain ⟨h1, p2⟩ := hc _ _ _ _ _ _ _ _ _ hd1 r1 p1
  refine ⟨h1, ?_⟩
  exact hr _ _ _ _ _ _ _ _ _ hd1 r1 reps_nil p2
theorem chkL_ok (hK : X.K = T.K) (W : XK) (G : Gh) (S : Store) (H : Hp) (d : D) (x : V) {α β : Type} (rel : Gh → α → β → Prop) (k : Unit → M α) (Q : Gh → Store → α → β → Hp → Prop) (hH : Held T G S H) (r : Rep T G d x) (p : Pst T rel G H W (bnd (chkL d) k S) Q) :
    tyV X.K "list" x H ∧ Pst T rel G H W (k () S) Q := by
  unfold bnd chkL at p
  cases e : seqL S d with
  | none => simp only [e] at p; exact p.elim
  | some xs =>
    simp only [e] at p
    obtain ⟨a, vs, rfl, q, _⟩ := seqL_ok hH r e
    exact ⟨.inl ⟨rfl, vs, SqL.of q⟩, p⟩
theorem chkS_ok (W : XK) (G : Gh) (S : Store) (H : Hp) (d : D) (x : V) {α β : Type} (rel : Gh → α → β → Prop) (k : Unit → M α) (Q : Gh → Store → α → β → Hp → Prop) (hH : Held T G S H) (r : Rep T G d x) (p : Pst T rel G H W (bnd (chkS d) k S) Q) :
    tyV X.K "str" x H ∧ Pst T rel G H W (k () S) Q := by
  unfold bnd chkS at p
  cases d <;> simp only at p <;> try exact p.elim
  simp only [Rep] at r
  subst r
  exact ⟨rfl, p⟩

/-! append, extend, insert, pop, index -/
def dAppend (d : D) (ds : List D) : M D := fun S => match d, ds with
  | .ref k, [e] => match S[k]? with
    | some (.lst xs) => if xs.length < sizeLine then .ok .non (S.set k (.lst (xs ++ [e]))) else .stuck
    | _ => .stuck
  | _, _ => .stuck
theorem mtOk_append : MtOk T dAppend rAppend := fun W G S H d x ds xs Q hH r1 r2 p => by
  unfold dAppend at p
  split at p
  · split at p
    · rename_i zs h
      split at p
      · rename_i hz
        obtain ⟨y, rfl, r3⟩ := reps1 r2
        obtain ⟨a, vs, rfl, q1, q2, q3, q4⟩ := cell_lst hH r1 h
        exact ⟨a, vs, y, rfl, rfl, q3, by rw [← q4.len]; exact hz, put_lst hH h q1 q2 (reps_snoc q4 r3) (by simp only [Rep]) p⟩
      · exact p.elim
    · exact p.elim
  · exact p.elim
def dExtend (d : D) (ds : List D) : M D := fun S => match d, ds with
  | .ref k, [e] => match S[k]?, seqL S e with
    | some (.lst xs), some ys => if xs.length + ys.length ≤ sizeLine then .ok .non (S.set k (.lst (xs ++ ys))) else .stuck
    | _, _ => .stuck
  | _, _ => .stuck
theorem mtOk_extend : MtOk T dExtend rExtend := fun W G S H d x ds xs Q hH r1 r2 p => by
  unfold dExtend at p
  split at p
  · split at p
    · rename_i zs ys h h2
      split at p
      · rename_i hz
        obtain ⟨y, rfl, r3⟩ := reps1 r2
        obtain ⟨a, vs, rfl, q1, q2, q3, q4⟩ := cell_lst hH r1 h
        obtain ⟨b, ws, rfl, k1, k2⟩ := seqL_ok hH r3 h2
        exact ⟨a, b, vs, ws, rfl, rfl, q3, k1, by rw [← q4.len, ← k2.len]; exact hz, put_lst hH h q1 q2 (reps_app q4 k2) (by simp only [Rep]) p⟩
      · exact p.elim
    · exact p.elim
  · exact p.elim
def dInsert (d : D) (ds : List D) : M D := fun S => match d, ds with
  | .ref k, [.int i, e] => match S[k]? with
    | some (.lst xs) => if xs.length < sizeLine ∧ 0 ≤ i ∧ i < 2 ^ 63 then .ok .non (S.set k (.lst (xs.take i.toNat ++ [e] ++ xs.drop i.toNat))) else .stuck
    | _ => .stuck
  | _, _ => .stuck
def rInsert : V → List V → Hp → VK → Prop := fun x vs H Q => ∃ (l : Addr) (xs : List V) (i : Int) (y : V), x = .ref l ∧ vs = [.int i, y] ∧ H l = some (.lst xs) ∧ xs.length < sizeLine ∧ 0 ≤ i ∧ i < 2 ^ 63 ∧ Q .non (upd H l (.lst (xs.take i.toNat ++ [y] ++ xs.drop i.toNat)))
theorem mtOk_insert : MtOk T dInsert rInsert := fun W G S H d x ds xs Q hH r1 r2 p => by
  unfold dInsert at p
  split at p
  · split at p
    · rename_i zs h
      split at p
      · rename_i hz
        obtain ⟨y, z, rfl, r3, r4⟩ := reps2 r2
        simp only [Rep] at r3
        subst r3
        obtain ⟨a, vs, rfl, q1, q2, q3, q4⟩ := cell_lst hH r1 h
        exact ⟨a, vs, _, z, rfl, rfl, q3, by rw [← q4.len]; exact hz.1, hz.2.1, hz.2.2, put_lst hH h q1 q2 (reps_app (reps_snoc (reps_take _ q4) r4) (reps_drop _ q4)) (by simp only [Rep]) p⟩
      · exact p.elim
    · exact p.elim
  · exact p.elim
def dPop (d : D) (ds : List D) : M D := fun S => match d, ds with
  | .ref k, [] => match S[k]? with
    | some (.lst xs) => match xs[xs.length - 1]? with
      | some y => .ok y (S.set k (.lst xs.dropLast))
      | none => .stuck
    | _ => .stuck
  | _, _ => .stuck
theorem reps_dropLast {G : Gh} {ds : List D} {vs : List V} (h : Reps T G ds vs) : Reps T G ds.dropLast vs.dropLast := by
  rw [List.dropLast_eq_take, List.dropLast_eq_take, h.len]
  exact reps_take _ h
theorem mtOk_pop : MtOk T dPop rPop := fun W G S H d x ds xs Q hH r1 r2 p => by
  unfold dPop at p
  split at p
  · split at p
    · rename_i zs h
      split at p
      · rename_i y hy
        simp only [Reps] at r2
        subst r2
        obtain ⟨a, vs, rfl, q1, q2, q3, q4⟩ := cell_lst hH r1 h
        obtain ⟨v, hv, rv⟩ := reps_get q4 hy
        rw [q4.len] at hv
        exact ⟨a, vs, v, rfl, rfl, q3, hv, put_lst hH h q1 q2 (reps_dropLast q4) rv p⟩
      · exact p.elim
    · exact p.elim
  · exact p.elim
def dPopAt (d : D) (ds : List D) : M D := fun S => match d, ds with
  | .ref k, [.int i] => match S[k]? with
    | some (.lst xs) => match ixN xs.length i with
      | some j => match xs[j]? with
        | some y => if -(2 ^ 63) ≤ i ∧ i < 2 ^ 63 then .ok y (S.set k (.lst (xs.eraseIdx j))) else .stuck
        | none => .stuck
      | none => .stuck
    | _ => .stuck
  | _, _ => .stuck
theorem mtOk_popAt : MtOk T dPopAt rPopAt := fun W G S H d x ds xs Q hH r1 r2 p => by
  unfold dPopAt at p
  split at p
  · split at p
    · rename_i zs h
      split at p
      · rename_i j hj
        split at p
        · rename_i y hy
          split at p
          · rename_i hz
            obtain ⟨z, rfl, r3⟩ := reps1 r2
            simp only [Rep] at r3
            subst r3
            obtain ⟨a, vs, rfl, q1, q2, q3, q4⟩ := cell_lst hH r1 h
            obtain ⟨v, hv, rv⟩ := reps_get q4 hy
            exact ⟨a, vs, _, j, v, rfl, rfl, q3, hz.1, hz.2, by rw [← q4.len]; exact (ixN_seq hj).1, hv, put_lst hH h q1 q2 (reps_erase _ q4) rv p⟩
          · exact p.elim
        · exact p.elim
      · exact p.elim
    · exact p.elim
  · exact p.elim
/-- the first place of an equal one -/
def fstEq (p : PyData) : List PyData → Nat → Option Nat
  | [], _ => none
  | q :: qs, i => if PyData.eqv q p = true then some i else fstEq p qs (i + 1)
theorem fstEq_ok {p : PyData} : ∀ {qs : List PyData} {i j : Nat}, fstEq p qs i = some j → ∃ n z, j = i + n ∧ qs[n]? = some z ∧ PyData.eqv z p = true ∧ ∀ m z', m < n → qs[m]? = some z' → PyData.eqv z' p = false
  | [], i, j, h => by simp [fstEq] at h
  | q :: qs, i, j, h => by
    unfold fstEq at h
    split at h
    · rename_i hq
      cases h
      exact ⟨0, q, rfl, rfl, hq, fun m z' hm => absurd hm (Nat.not_lt_zero _)⟩
    · rename_i hq
      obtain ⟨n, z, e1, e2, e3, e4⟩ := fstEq_ok h
      refine ⟨n + 1, z, by omega, by simpa using e2, e3, fun m z' hm hz => ?_⟩
      cases m with
      | zero => simp at hz; subst hz; simpa using hq
      | succ m => exact e4 m z' (by omega) (by simpa using hz)
def dIndex (d : D) (ds : List D) : M D := fun S => match ds with
  | [e] => match toP S 12 d, toP S 12 e with
    | some (.list ps), some p => if SeqAt.shaped (.list ps) = true ∧ SeqAt.shaped p = true then match fstEq p ps 0 with
        | some j => .ok (.int (j : Int)) S
        | none => .stuck
      else .stuck
    | _, _ => .stuck
  | _ => .stuck
theorem mtOk_index (hK : X.K = T.K) : MtOk T dIndex (rIndexD X.K) := fun W G S H d x ds xs Q hH r1 r2 p => by
  unfold dIndex at p
  split at p
  · split at p
    · rename_i ps q h1 h2
      split at p
      · rename_i hs
        split at p
        · rename_i j hj
          obtain ⟨y, rfl, r3⟩ := reps1 r2
          obtain ⟨n, z, e1, e2, e3, e4⟩ := fstEq_ok hj
          have dp := toP_ok hK hH _ r1 h1
          have en : j = n := by omega
          subst en
          obtain ⟨a, rfl⟩ : ∃ a, x = .ref a := by cases dp; exact ⟨_, rfl⟩
          exact ⟨a, y, q, ps, j, z, rfl, rfl, dp, toP_ok hK hH _ r3 h2, hs.1, hs.2, e2, e3, e4, p.ok hH (by simp only [Rep])⟩
        · exact p.elim
      · exact p.elim
    · exact p.elim
  · exact p.elim

/-! texts -/
def dSplit (mu : Bool) (d : D) (ds : List D) : M D := fun S => match d, ds with
  | .str a, [.str b] => if (b.length == 0) = false ∧ a.length + 2 ≤ sizeLine then newL mu ((Txt.split a b).map .str) S else .stuck
  | _, _ => .stuck
theorem strs_reps {G : Gh} : ∀ {xs : List Str}, Reps T G (xs.map D.str) (xs.map V.str)
  | [] => reps_nil
  | x :: xs => reps_cons (by simp only [Rep]) strs_reps
theorem mtOk_split {mu : Bool} : MtOk T (dSplit mu) (fun x xs H Q => ∃ a b, x = .str a ∧ xs = [.str b] ∧ (b.length == 0) = false ∧ a.length + 2 ≤ sizeLine ∧ rNewStrs (Txt.split a b) H Q) := fun W G S H d x ds xs Q hH r1 r2 p => by
  unfold dSplit at p
  split at p
  · split at p
    · rename_i hz
      obtain ⟨y, rfl, r3⟩ := reps1 r2
      simp only [Rep] at r1 r3
      subst r1; subst r3
      exact ⟨_, _, rfl, rfl, hz.1, hz.2, newL_ok hH strs_reps p⟩
    · exact p.elim
  · exact p.elim
def dJoin (d : D) (ds : List D) : M D := fun S => match d, ds with
  | .str a, [e] => match (seqL S e).bind strsOf with
    | some ys => if (ys.map (·.length)).sum + ys.length * a.length ≤ 16777216 then .ok (.str (Txt.join a ys)) S else .stuck
    | none => .stuck
  | _, _ => .stuck
theorem mtOk_join : MtOk T dJoin (fun x xs H Q => ∃ a p, ∃ ys : List Str, x = .str a ∧ xs = [.ref p] ∧ (SqL X.K H p (ys.map V.str) ∨ SqT X.K H p (ys.map V.str)) ∧ (ys.map (·.length)).sum + ys.length * a.length ≤ 16777216 ∧ Q (.str (Txt.join a ys)) H) := fun W G S H d x ds xs Q hH r1 r2 p => by
  unfold dJoin at p
  split at p
  · split at p
    · rename_i ys h
      split at p
      · rename_i hz
        obtain ⟨y, rfl, r3⟩ := reps1 r2
        obtain ⟨zs, h1, h2⟩ := Option.bind_eq_some_iff.mp h
        obtain ⟨b, ws, rfl, k1, k2⟩ := seqL_ok hH r3 h1
        rw [strsOf_ok k2 h2] at k1
        simp only [Rep] at r1
        subst r1
        exact ⟨_, b, ys, rfl, rfl, .inl (SqL.of k1), hz, p.ok hH (by simp only [Rep])⟩
      · exact p.elim
    · exact p.elim
  · exact p.elim
def dStarts (d : D) (ds : List D) : M D := fun S => match d, ds with
  | .str a, [.str b] => .ok (.bl (Txt.startswith a b)) S
  | _, _ => .stuck
theorem mtOk_starts : MtOk T dStarts (fun x xs H Q => ∃ a b, x = .str a ∧ xs = [.str b] ∧ Q (.bl (Txt.startswith a b)) H) := fun W G S H d x ds xs Q hH r1 r2 p => by
  unfold dStarts at p
  split at p
  · obtain ⟨y, rfl, r3⟩ := reps1 r2
    simp only [Rep] at r1 r3
    subst r1; subst r3
    exact ⟨_, _, rfl, rfl, p.ok hH (by simp only [Rep])⟩
  · exact p.elim
/-- a method that is called by its name -/
inductive MK where
  | append | extend | insert | popAt | index | split | join | starts
  deriving DecidableEq
def MK.name : MK → Str
  | .append => "append" | .extend => "extend" | .insert => "insert" | .popAt => "pop" | .index => "index" | .split => "split" | .join => "join" | .starts => "startswith"
def MK.sem (mu : Bool) : MK → D → List D → M D
  | .append => dAppend | .extend => dExtend | .insert => dInsert | .popAt => dPopAt | .index => dIndex | .split => dSplit mu | .join => dJoin | .starts => dStarts
def MK.chk : MK → D → M Unit
  | .append => chkL | .extend => chkL | .insert => chkL | .popAt => chkL | .index => chkL | .split => chkS | .join => chkS | .starts => chkS
theorem ve_mk {k : MK} {mu : Bool} (hK : X.K = T.K) (hu : X.A.units + 65 < cLine) (ho : VE T X W o fo) (ha : VA T X W (e :: es) fa) (hb : plainO o = true) (hs : noStar (e :: es) = true) (hl : (e :: es).length < 20) (hline : (apos.endLine == pos.line) = true) :
    VE T X W (.Call (.Attribute o k.name apos) (e :: es) [] pos) (sBM k.chk fo fa (k.sem mu)) := by
  cases k
  · exact ve_bm PySem.F.plainAttrs_list PySem.F.slot_list_append PySem.F.type_list_append mt_append (chkL_ok hK) mtOk_append ho ha hb hs hl hline
  · exact ve_bm PySem.F.plainAttrs_list PySem.F.slot_list_extend PySem.F.type_list_extend mt_extend (chkL_ok hK) mtOk_extend ho ha hb hs hl hline
  · exact ve_bm PySem.F.plainAttrs_list PySem.F.slot_list_insert PySem.F.type_list_insert mt_insert (chkL_ok hK) mtOk_insert ho ha hb hs hl hline
  · exact ve_bm PySem.F.plainAttrs_list PySem.F.slot_list_pop PySem.F.type_list_pop mt_popAt (chkL_ok hK) mtOk_popAt ho ha hb hs hl hline
  · exact ve_bm PySem.F.plainAttrs_list PySem.F.slot_list_index PySem.F.type_list_index (mt_indexD hu) (chkL_ok hK) (mtOk_index hK) ho ha hb hs hl hline
  · exact ve_bm PySem.F.plainAttrs_str PySem.F.slot_str_split PySem.F.type_str_split mt_split chkS_ok mtOk_split ho ha hb hs hl hline
  · exact ve_bm PySem.F.plainAttrs_str PySem.F.slot_str_join PySem.F.type_str_join mt_join chkS_ok mtOk_join ho ha hb hs hl hline
  · exact ve_bm PySem.F.plainAttrs_str PySem.F.slot_str_startswith PySem.F.type_str_startswith mt_startswith chkS_ok mtOk_starts ho ha hb hs hl hline
theorem ve_pop (hK : X.K = T.K) (ho : VE T X W o fo) (hb : plainO o = true) (hline : (apos.endLine == pos.line) = true) : VE T X W (.Call (.Attribute o "pop" apos) [] [] pos) (sBM chkL fo sNil dPop) :=
  ve_bm0 PySem.F.plainAttrs_list PySem.F.slot_list_pop PySem.F.type_list_pop mt_pop (chkL_ok hK) mtOk_pop ho hb hline
def dBits (d : D) : M D := fun S => match d with
  | .int i => .ok (.int (Builtin.Int.intBits i)) S
  | _ => .stuck
theorem ve_bits (ho : VE T X W o fo) (hb : plainO o = true) (hline : (apos.endLine == pos.line) = true) : VE T X W (.Call (.Attribute o "bit_length" apos) [] [] pos) (fun env => bnd (fo env) dBits) := by
  refine (pe_bits ho (base_of hb) hline).imp fun σ H Q ⟨G, S, env, hE, hH, p⟩ => ?_
  refine ⟨G, S, env, hE, hH, (p.bnd (rel := Rep T)).mono fun G1 S1 d x H1 st1 hd1 r1 p1 => ?_⟩
  unfold dBits at p1
  split at p1
  · simp only [Rep] at r1
    subst r1
    exact ⟨_, rfl, p1.ok hd1 (by simp only [Rep])⟩
  · exact p1.elim

/-! ### xs[i] = e -/
def dSet (d i e : D) : M Unit := fun S => match d, i with
  | .ref k, .int j => match S[k]? with
    | some (.lst xs) => match ixN xs.length j with
      | some n => .ok () (S.set k (.lst (xs.set n e)))
      | none => .stuck
    | _ => .stuck
  | _, _ => .stuck
def sSet (fo fi fe : Envd → M D) : MS := fun env S => eB (fe env S) env fun e S1 => eB (fo env S1) env fun d S2 => eB (fi env S2) env fun i S3 => eB (dSet d i e S3) env fun _ S4 => .nx env S4
def noSlice : Expr → Bool
  | .Slice _ _ _ _ => false
  | _ => true
theorem vs_set {i : Expr} {fi fe : Envd → M D} {p' : Pos} (hsl : noSlice i = true) (ho : VE T X W o fo) (hi : VE T X W i fi) (he : VE T X W e fe) (hs : swapsWithSole [.Subscript o i p'] e pos.line X.env = pure false) (hw : swappedStores [.Subscript o i p'] e X.env = pure none)
    (h1 : (assignEach [.Subscript o i p'] X.env).map (·.2) = [assign (.Subscript o i p') X.env]) : VS T X W (.Assign [.Subscript o i p'] e pos) (sSet fo fi fe) := by
  refine (ps_asg he (pg_sub ho hi set_list (by intro v; cases i <;> first | rfl | (simp only [noSlice] at hsl; cases hsl))) hs hw h1).imp fun D' σ H ⟨G, S, env, hE, hH, p⟩ => ?_
  refine ⟨G, S, env, hE, hH, (p.eB hE (rel := Rep T)).mono fun G1 S1 e y H1 st1 hd1 r1 p1 => ?_⟩
  refine ⟨G1, S1, env, hE.le st1.le, hd1, (p1.eB (hE.le st1.le) (rel := Rep T)).mono fun G2 S2 d x H2 st2 hd2 r2 p2 => ?_⟩
  refine ⟨G2, S2, env, hE.le (st1.trans st2).le, hd2, (p2.eB (hE.le (st1.trans st2).le) (rel := Rep T)).mono fun G3 S3 i z H3 st3 hd3 r3 p3 => ?_⟩
  have hE3 := hE.le ((st1.trans st2).trans st3).le
  have r1' := r1.le (st2.trans st3).le
  have r2' := r2.le st3.le
  cases d <;> cases i <;> simp only [dSet, eB] at p3 <;> try exact p3.elim
  rename_i k j
  cases e1 : S3[k]? with
  | none => simp only [e1] at p3; exact p3.elim
  | some c =>
    cases c <;> simp only [e1] at p3 <;> try exact p3.elim
    rename_i xs
    cases e2 : ixN xs.length j with
    | none => simp only [e2] at p3; exact p3.elim
    | some n =>
      simp only [e2] at p3
      obtain ⟨a, vs, rfl, q1, q2, q3, q4⟩ := cell_lst hd3 r2' e1
      simp only [Rep] at r3
      subst r3
      obtain ⟨h1, h2⟩ := hd3.write (o := .lst (vs.set n y)) (c' := .lst (xs.set n e)) e1 q1 q2 (by simp only [CellRep]; exact ⟨q2, _, upd_same, reps_set n q4 r1'⟩)
      exact ⟨a, vs, j, n, rfl, rfl, q3, by rw [← q4.len]; exact e2, p3 G3 _ σ h2 h1 hE3⟩
end
end Ev

set_option Elab.async false
set_option linter.all false
set_option maxRecDepth 100000
set_option maxHeartbeats 4000000
/-! EvI: isinstance with built-in types; small facts of the text's forms. -/
namespace Ev
open PySem PySem.Spec PyProof.Rows L2

/-! ### isinstance -/
def tyD (S : Store) : D → Option String
  | .non => some "NoneType"
  | .bl _ => some "bool"
  | .int _ => some "int"
  | .str _ => some "str"
  | .scr _ => some "list"
  | .lst _ => some "list"
  | .tup _ => some "tuple"
  | .dct _ _ => some "dict"
  | .ref k => match S[k]? with
    | some (.lst _) => some "list"
    | some (.frz _) => some "list"
    | some (.dct _ _) => some "dict"
    | _ => none
  | .obj _ _ => none
def isB (a b : String) : Bool := a == b || (a == "bool" && b == "int")
/-- the types that are asked for -/
inductive TK where
  | int | bool | str | list | tuple
  deriving DecidableEq
def TK.name : TK → String
  | .int => "int" | .bool => "bool" | .str => "str" | .list => "list" | .tuple => "tuple"
def TK.nm : TK → Str
  | .int => "int" | .bool => "bool" | .str => "str" | .list => "list" | .tuple => "tuple"
theorem TK.boot (k : TK) : bootBuiltins k.nm = some (.type k.name) := by
  cases k
  · exact PyProof.Rows.boot_int
  · exact PyProof.Rows.boot_bool
  · exact PyProof.Rows.boot_str
  · exact PyProof.Rows.boot_list
  · exact PyProof.Rows.boot_tuple
theorem kit_isB (K : PySem.W.Frag) (k : TK) {t : String} (h : t = "NoneType" ∨ t = "bool" ∨ t = "int" ∨ t = "str" ∨ t = "list" ∨ t = "tuple" ∨ t = "dict") : PySem.W.kitOne K (.type t) (.type k.name) = some (isB t k.name) := by
  rcases h with rfl | rfl | rfl | rfl | rfl | rfl | rfl <;> cases k <;> exact kit_ty (by decide +kernel)
section
variable {T : Kit} {G : Gh} {S : Store} {H : Hp}
theorem tyD_ok {K : PySem.W.Frag} (hK : K = T.K) (hH : Held T G S H) {d : D} {x : V} {t : String} (r : Rep T G d x) (e : tyD S d = some t) : TyX K H x (.type t) ∧ (t = "NoneType" ∨ t = "bool" ∨ t = "int" ∨ t = "str" ∨ t = "list" ∨ t = "tuple" ∨ t = "dict") := by
  subst hK
  cases d with
  | non => simp only [tyD] at e; cases e; simp only [Rep] at r; subst r; exact ⟨.base .non, by simp⟩
  | bl b => simp only [tyD] at e; cases e; simp only [Rep] at r; subst r; exact ⟨.base (.bl b), by simp⟩
  | int b => simp only [tyD] at e; cases e; simp only [Rep] at r; subst r; exact ⟨.base (.int b), by simp⟩
  | str b => simp only [tyD] at e; cases e; simp only [Rep] at r; subst r; exact ⟨.base (.str b), by simp⟩
  | scr xs =>
    simp only [tyD] at e; cases e; simp only [Rep] at r
    obtain ⟨a, rfl, q⟩ := r
    refine ⟨?_, by simp⟩
    rcases sqL_le hH.ext q with (q | ⟨o, q⟩) | ⟨its, hv, o, hk, hc, _⟩
    · exact .base (.lst q)
    · exact .base (.frz q)
    · exact .kList hk hc
  | lst xs =>
    simp only [tyD] at e; cases e; simp only [Rep] at r
    obtain ⟨a, vs, rfl, q, _⟩ := r
    exact ⟨.base (.lst (hH.ext _ _ q)), by simp⟩
  | tup xs =>
    simp only [tyD] at e; cases e; simp only [Rep] at r
    obtain ⟨a, vs, rfl, q, _⟩ := r
    refine ⟨?_, by simp⟩
    rcases sqT_le hH.ext q with (q | ⟨o, q⟩) | ⟨its, hv, o, hk, hc, _⟩
    · exact .base (.tup q)
    · exact .fTuple q
    · exact .kTuple hk hc
  | dct ks vs =>
    simp only [tyD] at e; cases e; simp only [Rep] at r
    obtain ⟨a, vs, rfl, q, _⟩ := r
    exact ⟨.base (.dK (hH.ext _ _ q)), by simp⟩
  | obj c fs => simp only [tyD] at e; cases e
  | ref k =>
    simp only [tyD] at e
    simp only [Rep] at r
    obtain ⟨a, rfl, q⟩ := r
    split at e <;> try cases e
    · rename_i h
      have c := hH.cell k _ a h q
      simp only [CellRep] at c
      obtain ⟨_, vs, c1, _⟩ := c
      exact ⟨.base (.lst c1), by simp⟩
    · rename_i h
      have c := hH.cell k _ a h q
      simp only [CellRep] at c
      obtain ⟨vs, c1, _⟩ := c
      exact ⟨.base (.lst (hH.ext _ _ c1)), by simp⟩
    · rename_i h
      have c := hH.cell k _ a h q
      simp only [CellRep] at c
      obtain ⟨_, vs, c1, _⟩ := c
      exact ⟨.base (.dK c1), by simp⟩
end
def dIsi (ks : List TK) (d : D) : M D := fun S => match tyD S d with
  | some t => .ok (.bl (ks.any fun k => isB t k.name)) S
  | none => .stuck
theorem kit_any (K : PySem.W.Frag) {t : String} (h : t = "NoneType" ∨ t = "bool" ∨ t = "int" ∨ t = "str" ∨ t = "list" ∨ t = "tuple" ∨ t = "dict") : ∀ ks : List TK, PySem.W.kitAny K (.type t) (ks.map fun (k : TK) => Value.type k.name) = some (ks.any fun k => isB t k.name)
  | [] => rfl
  | k :: ks => by
    show (match PySem.W.kitOne K (.type t) (.type k.name) with | some true => some true | some false => PySem.W.kitAny K (.type t) (ks.map fun (k : TK) => Value.type k.name) | none => none) = _
    rw [kit_isB K k h]
    cases hb : isB t k.name with
    | true => simp [hb]
    | false => simp [hb, kit_any K h ks]
section
variable {T : Kit} {X : Cx} {W : WX} {pos p p2 : Pos} {a : Expr} {fa : Envd → M D}
theorem pe_tk (k : TK) (hg : Gl X k.nm) (hm : X.mg k.nm = none) : PE X (.Name k.nm p) (tC (.ty k.name)) := pe_bltn hg hm k.boot rfl (by cases k <;> decide) (by cases k <;> decide)
theorem ve_isi {k : TK} (hK : X.K = T.K) (hg : Gl X "isinstance") (hm : X.mg "isinstance" = none) (hg2 : Gl X k.nm) (hm2 : X.mg k.nm = none) (ha : VE T X W a fa) (hs : noStar [a] = true) :
    VE T X W (.Call (.Name "isinstance" p) [a, .Name k.nm p2] [] pos) (fun env => bnd (fa env) (dIsi [k])) := by
  refine (pe_callB call_isi hg hm PyProof.Rows.boot_isinstance (pa_cons ha (pa_cons (pe_tk k hg2 hm2) pa_nil) (by cases a <;> first | rfl | (simp only [noStar] at hs; cases hs))) (by decide) (by decide) (by cases a <;> first | rfl | (simp only [noStar] at hs; cases hs)) rfl).imp fun σ H Q ⟨G, S, env, hE, hH, p⟩ => ?_
  refine ⟨G, S, env, hE, hH, (p.bnd (rel := Rep T)).mono fun G1 S1 d x H1 st1 hd1 r1 p1 => ?_⟩
  unfold dIsi at p1
  split at p1
  · rename_i t ht
    obtain ⟨h1, h2⟩ := tyD_ok hK hd1 r1 ht
    exact ⟨x, .ty k.name, _, _, _, rfl, .ty _, h1, kit_isB _ k h2, p1.ok hd1 (by simp [Rep])⟩
  · exact p1.elim
theorem ve_isi2 {k l : TK} {p3 p4 : Pos} {j : Nat} (hK : X.K = T.K) (hg : Gl X "isinstance") (hm : X.mg "isinstance" = none) (hg2 : Gl X k.nm) (hm2 : X.mg k.nm = none) (hg3 : Gl X l.nm) (hm3 : X.mg l.nm = none) (ha : VE T X W a fa) (hs : noStar [a] = true) :
    VE T X W (.Call (.Name "isinstance" p) [a, .Tuple [.Name k.nm p2, .Name l.nm p3] j p4] [] pos) (fun env => bnd (fa env) (dIsi [k, l])) := by
  refine (pe_callB call_isiT hg hm PyProof.Rows.boot_isinstance (pa_cons ha (pa_cons (pe_tup (pa_cons (pe_tk k hg2 hm2) (pa_cons (pe_tk l hg3 hm3) pa_nil))) pa_nil) (by cases a <;> first | rfl | (simp only [noStar] at hs; cases hs))) (by decide) (by decide) (by cases a <;> first | rfl | (simp only [noStar] at hs; cases hs)) rfl).imp fun σ H Q ⟨G, S, env, hE, hH, p⟩ => ?_
  refine ⟨G, S, env, hE, hH, (p.bnd (rel := Rep T)).mono fun G1 S1 d x H1 st1 hd1 r1 p1 => ?_⟩
  refine ⟨by show 2 ≤ sizeLine; decide, fun tp hp => ?_⟩
  unfold dIsi at p1
  split at p1
  · rename_i t ht
    obtain ⟨n1, n2⟩ := hd1.beside (p := tp) (o := .tup [.ty k.name, .ty l.name]) hp
    obtain ⟨h1, h2⟩ := tyD_ok hK n1 r1 ht
    exact ⟨x, tp, [.ty k.name, .ty l.name], _, [.type k.name, .type l.name], _, rfl, upd_same, .cons (.ty _) (.cons (.ty _) .nil), h1, kit_any _ h2 [k, l], p1 G1 _ _ n2 n1 (by simp only [Rep])⟩
  · exact p1.elim
end
end Ev

set_option Elab.async false
set_option linter.all false
set_option maxRecDepth 100000
set_option maxHeartbeats 4000000
/-! EvIa: arguments by name alone; starred items of a display. -/
namespace Ev
open PySem PySem.Spec PyProof.Rows L2

/-! ### f(a = .., b = ..) -/
/-- the values by name, in the parameters' order -/
def byPerm {α : Type} (perm : List Nat) (xs : List α) : List α := perm.filterMap fun i => xs[i]?
theorem vals_perm {vs : List V} {us : List Value} (h : Vals vs us) : ∀ perm : List Nat, Vals (byPerm perm vs) (byPerm perm us)
  | [] => .nil
  | i :: is => by
    unfold byPerm
    rw [List.filterMap_cons, List.filterMap_cons]
    cases e : vs[i]? with
    | none =>
      have e2 : us[i]? = none := by
        rw [List.getElem?_eq_none_iff] at e ⊢
        rw [← h.length]; exact e
      rw [e2]
      exact vals_perm h is
    | some v =>
      obtain ⟨u, hu, r⟩ := h.get e
      rw [hu]
      exact .cons r (vals_perm h is)
theorem reps_perm {T : Kit} {G : Gh} {ds : List D} {vs : List V} (h : Reps T G ds vs) : ∀ perm : List Nat, Reps T G (byPerm perm ds) (byPerm perm vs)
  | [] => reps_nil
  | i :: is => by
    unfold byPerm
    rw [List.filterMap_cons, List.filterMap_cons]
    cases e : ds[i]? with
    | none =>
      have e2 : vs[i]? = none := by
        rw [List.getElem?_eq_none_iff] at e ⊢
        rw [← h.len]; exact e
      rw [e2]
      exact reps_perm h is
    | some d =>
      obtain ⟨v, hv, r⟩ := reps_get h e
      rw [hv]
      exact reps_cons r (reps_perm h is)
/-- how a call by names alone binds -/
structure KOnly (K : PySem.W.Frag) (fd : FuncData) (ps ks : List Str) (perm : List Nat) : Prop where
  to : ∀ (s : Shared) (ws : List Value), K.In s.heap → ws.length = ks.length → BindsTo s fd ⟨[], ks.zip ws⟩ (ps.zip (byPerm perm ws))
/-- a def that is called by names alone -/
structure FnKAt (X : Cx) (T : Kit) (k : Nat) (x : Str) (ks : List Str) (sem : List D → M D) : Prop where
  ex : ∃ f fd ps perm sem0, X.mg x = some (.ref f) ∧ PySem.W.keepIn X.K (.ref f) = true ∧ FnOk X.prog X.w X.K X.mg X.base (L2.CX X.prog X.w) k f fd ps (spOf T sem0) ∧ KOnly X.K fd ps ks perm ∧ sem = fun ds => sem0 (byPerm perm ds)
section
variable {T : Kit} {X : Cx} {W : WX} {pos : Pos} {a b : Expr} {fa fb : Envd → M D}
/-- the values of the keywords -/
abbrev VK' (T : Kit) (X : Cx) (W : WX) (ks : List Keyword) (f : Envd → M (List D)) : Prop := PK X ks (tAs T W f)
theorem _root_.L2.PK.imp {X : Cx} {e : List Keyword} {t t' : TA} (h : PK X e t) (k : ∀ σ H Q, t' σ H Q → t σ H Q) : PK X e t' := ⟨fun w pins s σ H Q I q => h.run w pins s σ H Q I (k _ _ _ q)⟩
theorem vk_nil : VK' T X W [] sNil := pk_nil.imp fun σ H Q ⟨G, S, env, hE, hH, p⟩ => p.ret hH reps_nil
theorem vk_cons {nm : Option Str} {kp : Pos} {ks : List Keyword} {g : Envd → M (List D)} (ha : VE T X W a fa) (hr : VK' T X W ks g) : VK' T X W (⟨nm, a, kp⟩ :: ks) (sCons fa g) := by
  refine (pk_cons ha hr).imp fun σ H Q ⟨G, S, env, hE, hH, p⟩ => ?_
  refine ⟨G, S, env, hE, hH, (p.bnd (rel := Rep T)).mono fun G1 S1 d x H1 st1 hd1 r1 p1 => ?_⟩
  refine ⟨G1, S1, env, hE.le st1.le, hd1, (p1.bnd (rel := Reps T)).mono fun G2 S2 ds vs H2 st2 hd2 r2 p2 => ?_⟩
  exact p2.ret hd2 (reps_cons (r1.le st2.le) r2)
def kwNames : List Keyword → List Str
  | [] => []
  | ⟨some x, _, _⟩ :: ks => x :: kwNames ks
  | ⟨none, _, _⟩ :: ks => kwNames ks
def kwAll : List Keyword → Bool
  | [] => true
  | ⟨some _, _, _⟩ :: ks => kwAll ks
  | ⟨none, _, _⟩ :: _ => false
theorem kw_all {ks : List Keyword} {env : Env} (h : kwAll ks = true) : ((backToKw pos (keywordEach ks env)).all (·.1.isSome)) = true := by
  induction ks with
  | nil => rfl
  | cons k ks ih =>
    obtain ⟨nm, e, p⟩ := k
    cases nm with
    | none => simp only [kwAll] at h; cases h
    | some x => exact ih h
theorem kw_any {ks : List Keyword} {env : Env} (h : kwAll ks = true) : ((backToKw pos (keywordEach ks env)).any (·.1.isNone)) = false := by
  induction ks with
  | nil => rfl
  | cons k ks ih =>
    obtain ⟨nm, e, p⟩ := k
    cases nm with
    | none => simp only [kwAll] at h; cases h
    | some x => exact ih h
theorem kw_names {ks : List Keyword} {env : Env} (h : kwAll ks = true) : (backToKw pos (keywordEach ks env)).filterMap (·.1) = kwNames ks := by
  induction ks with
  | nil => rfl
  | cons k ks ih =>
    obtain ⟨nm, e, p⟩ := k
    cases nm with
    | none => simp only [kwAll] at h; cases h
    | some x => exact congrArg (x :: ·) (ih h)
theorem reps_lenV {G : Gh} {ds : List D} {vs : List V} {us : List Value} (r : Reps T G ds vs) (v : Vals vs us) : us.length = ds.length := by rw [r.len, v.length]
theorem ve_callK0 {k : Nat} {x : Str} {p : Pos} {kws : List Keyword} {f : Envd → M (List D)} {sem : List D → M D} (F : FnKAt X T k x (kwNames kws) sem) (hr : Room k X.A) (hg : Gl X x) (hx : ∀ σ, PassesAt (L2.CX X.prog X.w) X σ (WE W σ)) (hk : VK' T X W kws f)
    (hd : (x == ("__debug__" : Str)) = false) (hall : kwAll kws = true) (hn : kws ≠ []) : VE T X W (.Call (.Name x p) [] kws pos) (fun env => bnd (f env) fun ds => if ds.length = (kwNames kws).length then sem ds else stk) := by
  obtain ⟨fa, fd, ps, perm, sem0, hm, hkeep, F1, hb, rfl⟩ := F.ex
  refine ⟨fun pins s σ H Q I q => ?_⟩
  obtain ⟨G, S, env, hE, hH, pp⟩ := q
  refine wpAny_Call_Name_kw (ld_glob I hg hm ?_ hd)
  refine PySem.W.callWith_KW0 (h₀ := X.base) I.ok.mod.kin hkeep (kw_all hall) ?_ (by rw [kw_any hall]; rfl)
  refine thn (hk.run pos pins s σ H (fun zs H2 => ∃ G2 S2 ds, Held T G2 S2 H2 ∧ Reps T G2 ds zs ∧ ds.length = (kwNames kws).length ∧ PV T G2 H2 (at_ W σ) (sem0 (byPerm perm ds) S2) Q) I ⟨G, S, env, hE, hH, (pp.bnd (rel := Reps T)).mono fun G1 S1 ds xs H1 st1 hd1 r1 p1 => ?_⟩)
    fun ws s2 ⟨zs, H2, I2, rz, G2, S2, ds, hd2, r2, hl, p2⟩ => ⟨I2.kIn, ?_⟩
  · split at p1
    · rename_i hl
      exact ⟨G1, S1, ds, hd1, r1, hl, p1⟩
    · exact p1.elim
  · rw [kw_names hall]
    have sp : spOf T sem0 (byPerm perm zs) H2 Q (WE W σ) := ⟨G2, S2, byPerm perm ds, hd2, reps_perm r2 perm, p2⟩
    have rv := vals_perm rz perm
    have hln : (byPerm perm ws).length = ps.length := by rw [← rv.length]; exact F1.len _ _ _ _ sp
    refine wpAny_call (codeAny_mono (F1.run X.A X.stack s2 H2 ⟨[], (kwNames kws).zip ws⟩ (byPerm perm ws) (byPerm perm zs) Q (WE W σ) hr I2.env0 (hb.to s2 ws I2.kIn (by rw [reps_lenV r2 rz]; exact hl)) rv sp) fun r s' hq => ?_)
    cases r with
    | error e => exact hx σ pins H2 s2 e s' I2 hq
    | ok fl =>
      cases fl with
      | ret u => exact I2.after hq
      | next => exact False.elim hq
      | brk => exact False.elim hq
      | cont => exact False.elim hq

/-! ### [*xs, y] -/
def sStar (f : Envd → M D) (g : Envd → M (List D)) : Envd → M (List D) := fun env => bnd (f env) fun d => bnd (fun S => match seqT d with | some xs => .ok xs S | none => match seqL S d with | some xs => .ok xs S | none => .stuck) fun xs => bnd (g env) fun ds => ret (xs ++ ds)
theorem va_star {es : List Expr} {p : Pos} {g : Envd → M (List D)} (hK : X.K = T.K) (ha : VE T X W a fa) (hr : VA T X W es g) : VA T X W (.Starred a p :: es) (sStar fa g) := by
  refine (StX.pa_star ha hr).imp fun σ H Q ⟨G, S, env, hE, hH, pp⟩ => ?_
  refine ⟨G, S, env, hE, hH, (pp.bnd (rel := Rep T)).mono fun G1 S1 d x H1 st1 hd1 r1 p1 => ?_⟩
  cases e1 : seqT d with
  | some xs =>
    simp only [bnd, e1] at p1
    obtain ⟨ad, vs, rfl, q1, z1⟩ := seqT_ok hK.symm hd1 r1 e1
    refine ⟨ad, vs, rfl, .inl q1, G1, S1, env, hE.le st1.le, hd1, ?_⟩
    exact (Pst.bnd (rel := Reps T) (rel2 := Reps T) (m := g env) (f := fun ds => ret (xs ++ ds)) p1).mono fun G2 S2 ds ws H2 st2 hd2 r2 p2 => p2.ret hd2 (reps_app (z1.le st2.le) r2)
  | none =>
    cases e2 : seqL S1 d with
    | none => simp only [bnd, e1, e2] at p1; exact p1.elim
    | some xs =>
      simp only [bnd, e1, e2] at p1
      obtain ⟨ad, vs, rfl, q1, z1⟩ := seqL_ok hd1 r1 e2
      refine ⟨ad, vs, rfl, .inr (SqL.of q1), G1, S1, env, hE.le st1.le, hd1, ?_⟩
      exact (Pst.bnd (rel := Reps T) (rel2 := Reps T) (m := g env) (f := fun ds => ret (xs ++ ds)) p1).mono fun G2 S2 ds ws H2 st2 hd2 r2 p2 => p2.ret hd2 (reps_app (z1.le st2.le) r2)
end
end Ev

set_option Elab.async false
set_option linter.all false
set_option maxRecDepth 100000
set_option maxHeartbeats 4000000
/-! EvS: sorted(set(xs)), xs a list of ints of some thousands at most. -/
namespace L2
open PySem PySem.Spec PyProof.Rows
abbrev nuS (w : World) : Obj := { cls := .type "set", dict := none, data := .set #[] 0 (.fresh 0 0 (!w.params.followText "set-order")) }
section
variable {P : Program} {w : World} {A : Around} {E : Value → Shared → Prop} {s : Shared}
set_option maxHeartbeats 8000000 in
theorem set_of_list {l : Addr} {items : Array Value} (ns : List Int) {Q : Value → Shared → Prop} (hh : A.handled = none) (hl : s.heap.IsList l items) (hit : IntsAre items.toList ns) (few : ns.length + 1 < scanBound)
    (fin : ∀ (h' : Heap) (tk c : Nat), SetR w h' s.heap.objs.size (fun j => decide (j ∈ ns)) c → c ≤ ns.length → (∀ b o, s.heap.get? b = some o → h'.get? b = some o) → Q (.ref s.heap.objs.size) { s with heap := h', toks := tk }) :
    wpAny (model P w) A (call (.type "set") [.ref l]) Q E s := by
  have size : items.size = ns.length := by simpa using IntsAre.length hit
  obtain ⟨c, tl, m1⟩ := F.called_set.mro
  have m2 := F.called_set.made
  have m3 := F.called_set.sub
  refine wpAny_call (codeAny_of_tree (show wpAny _ _ (callAny (.type "set") _) _ _ _ from ?_))
  refine wpAny_pure ⟨Code.quiet_builtin _ (by decide +kernel), codeAny_builtin F.entry_type_call ?_⟩
  rw [Around.under_plain (weight_type_call_type "set" [.ref l] []) rfl]
  have m4 := F.called_set.notType
  have m5 := F.called_set.canCreate
  have m6 := F.typeCall_set_1 (.ref l)
  repeat any_goals first | assumption | wp_step
  refine codeAny_mono (code_set_led1 (P := P) (w := w) (.ref l) (E := E) (Q₁ := fun ob s1 => ob = .ref s.heap.objs.size ∧ s1 = { s with heap := s.heap.push (nuS w) }) ⟨rfl, rfl⟩) fun r s1 hr => ?_
  cases r with
  | error e => exact hr
  | ok fl =>
  cases fl with
  | next => exact hr
  | brk => exact hr
  | cont => exact hr
  | ret ob =>
  obtain ⟨rfl, rfl⟩ := hr
  have at0 : (s.heap.push (nuS w)).get? s.heap.objs.size = some (nuS w) := Heap.get?_push_size _ rfl
  have ty0 : Shared.TypeIs { s with heap := s.heap.push (nuS w) } (.ref s.heap.objs.size) "set" := ⟨_, at0, rfl⟩
  have m7 := F.called_set.init.lookup
  have m8 := F.called_set.init.bind (.ref s.heap.objs.size)
  repeat any_goals first | assumption | wp_step
  refine codeAny_mono (codeAny_call_builtin (R := wants (fun r s2 => r = .none ∧ ∃ h' tk c, s2 = { s with heap := h', toks := tk } ∧ SetR w h' s.heap.objs.size (fun j => decide (j ∈ ns)) c ∧ c ≤ ns.length ∧
    ∀ b o, s.heap.get? b = some o → h'.get? b = some o) E) F.called_set.init.plain F.entry_set_init (check_set_init_1 ty0 ?_)) fun r2 s2 hr2 => ?_
  · obtain ⟨ol, at1, cl, nl, dl⟩ := hl
    obtain ⟨c1, c2, c3, c4⟩ := ol
    dsimp only at cl dl
    subst cl dl
    have size1 : (s.heap.push (nuS w)).objs.size = s.heap.objs.size + 1 := Heap.size_push ..
    have old : l < s.heap.objs.size := Heap.lt_size at1
    have at2 : (s.heap.push (nuS w)).get? l = some { cls := .type "list", dict := c2, data := .seq items nl, slots := c4 } := Heap.get?_push_of_some _ at1
    have w1 := F.sub_list_set
    have w2 := F.sub_list_frozenset
    have w3 : (Value.type "list" == Value.type "dict") = false := by decide
    have lst1 : (s.heap.push (nuS w)).IsList l items := ⟨_, at2, rfl, nl, rfl⟩
    unfold Builtin.«set.__init__» noKeywords Builtin.Frozenset.updateFrom
    generalize hIt : pyIter = IT
    wp_walk
    subst hIt
    refine wpAny_pyIter_list lst1 (wpAny_bind (wpAny_runValue ?_))
    have free3 : A.in1.in1.in1.handled = none := by simp [hh]
    have ne1 : l ≠ (s.heap.push (nuS w)).objs.size := size1 ▸ Nat.ne_of_lt (Nat.lt_succ_of_lt old)
    have ne2 : s.heap.objs.size ∉ [(s.heap.push (nuS w)).objs.size, l] := by
      rw [size1]
      simp only [List.mem_cons, List.not_mem_nil, or_false, not_or]
      exact ⟨(Nat.succ_ne_self _).symm, (Nat.ne_of_lt old).symm⟩
    have val : ∀ (i : Nat) (v : Value), items[i]? = some v → ∃ k t, ns[i]? = some k ∧ v = .int k t := fun i v hv => by
      have lt : i < ns.length := size ▸ (Array.getElem?_eq_some_iff.mp hv).1
      obtain ⟨t, e⟩ := PyProof.Rows.IntsAre.int_at hit i v (by simpa using hv)
      exact ⟨ns[i], t, List.getElem?_eq_getElem lt, by simpa [List.getD, lt] using e⟩
    refine set_update_ints (Walks.list free3 _ l ne1 items).toS s.heap.objs.size ne2 ns size few val (items.size - 0) 0 _ (by omega) (Nat.zero_le _) ⟨⟨_, Heap.get?_push_size _ rfl, rfl, rfl⟩, lst1.push _⟩ ⟨0, Nat.le_refl 0, setR_new_at (Heap.get?_push_of_some _ at0)⟩ fun s' c' mv le st => ?_
    obtain ⟨h', g2, d', tk', os'⟩ := s'
    obtain rfl : g2 = s.gens := mv.gens
    obtain rfl : d' = s.drawn := mv.drawn
    obtain rfl : os' = s.os := mv.os
    refine wpAny_pure (show wpAny _ _ (ret Value.none) _ _ _ from wpAny_pure ⟨rfl, h', tk', c', rfl, st, size ▸ le, fun b o e => ?_⟩)
    have lt : b < s.heap.objs.size := Heap.lt_size e
    refine mv.heap b o ?_ (Heap.get?_push_of_some _ (Heap.get?_push_of_some _ e))
    rw [size1]
    simp only [List.mem_cons, List.not_mem_nil, or_false, not_or]
    exact ⟨Nat.ne_of_lt lt, Nat.ne_of_lt (Nat.lt_succ_of_lt lt)⟩
  · cases r2 with
    | error e => exact hr2
    | ok fl2 =>
    cases fl2 with
    | next => exact hr2.elim
    | brk => exact hr2.elim
    | cont => exact hr2.elim
    | ret r =>
    obtain ⟨rfl, h', tk, c', rfl, e1, e2, e3⟩ := hr2
    repeat any_goals first | assumption | wp_step
    exact fin _ _ _ e1 e2 e3
end
end L2

set_option Elab.async false
set_option linter.all false
set_option maxRecDepth 100000
set_option maxHeartbeats 4000000
/-! EvSa: the rules of sorted(set(xs)). -/
namespace L2
open PySem PySem.Spec PyProof.Rows
section
variable {X : Cx}
/-- set(xs), a list of ints -/
def rSetLI (K : PySem.W.Frag) (w : World) : List V → Hp → VK → Prop := fun vs H Q => ∃ (a : Addr) (ns : List Int), vs = [V.ref a] ∧ SqL K H a (ns.map V.int) ∧ ns.length + 1 < scanBound ∧
  ∀ (p : Addr) (c : Nat), c ≤ ns.length → H p = none → Q (.ref p) (upd H p (SetO w p (fun j => decide (j ∈ ns)) c))
theorem cr_setL (hc : X.calm = true) : CallR X (.type "set") (rSetLI X.K X.w) := by
  intro pins s σ H vs us Q I r h
  obtain ⟨a, ns, rfl, hs, few, q⟩ := h
  obtain ⟨its, rv, hl, hz⟩ := I.list hs
  rw [Vals.ref1 r]
  refine set_of_list ns (I.ok.hd hc) hl.isList (by simpa using ints_of_vals rv) few fun h' tk c st le k => ?_
  have free := I.hok.fresh (Nat.le_refl s.heap.objs.size)
  exact ⟨.ref _, upd H s.heap.objs.size (SetO X.w s.heap.objs.size (fun j => decide (j ∈ ns)) c), I.laid (t' := tk) k (Nat.le_refl _) (setO_new st), rfl, q _ c le free⟩
/-- sorted(set), any number of members -/
def rSortU (w : World) : List V → Hp → VK → Prop := fun vs H Q => ∃ (a : Addr) (S : Int → Bool) (n : Nat), vs = [V.ref a] ∧ H a = some (SetO w a S n) ∧ n < scanBound ∧
  ∀ (ns : List Int) (p : Addr), ns.Pairwise (· < ·) → (∀ k : Int, k ∈ ns ↔ S k = true) → H p = none → Q (.ref p) (upd H p (.lst (ns.map V.int)))
theorem sort_of_set {P : Program} {w : World} {A : PySem.Around} {E : Value → Shared → Prop} {s : Shared} {a : Addr} {S : Int → Bool} {n : Nat} {Q : Value → Shared → Prop} (R : SetR w s.heap a S n) (hh : A.handled = none) (few : n < scanBound)
    (fin : ∀ s' p (out : Array Value) (c : Nat) (ns : List Int), (∀ b o, s.heap.get? b = some o → s'.heap.get? b = some o) → s'.gens = s.gens → s'.os = s.os → s.heap.objs.size ≤ p →
      s'.heap.get? p = some (seqObj "list" out c) → IntsAre out.toList ns → ns.Pairwise (· < ·) → (∀ k, k ∈ ns ↔ S k = true) → ns.length = n → Q (.ref p) s') : wpAny (model P w) A (call (.builtin "sorted") [.ref a]) Q E s := by
  have zs : scanBound ≤ sizeLine := by rw [sizeLine_eq]; decide
  obtain ⟨o, es, ep, t, x1, x2, x3, x4, x5, x6, x7, x8, x9, x10, x11⟩ := R
  refine Calls.call_function_entry kind_sorted plain_sorted entry_sorted (args_sorted1 _) ?_
  unfold Builtin.«sorted»
  refine wpAny_bind (m := checkCount "sorted" 1 1 _) (wpAny_pure (wpAny_bind (collect_set (A := A.in1) hh ⟨o, x1, x2.1, x3⟩ x8 x7 x10 x11 fun s1 vs k1 z1 g1 o1 pm => ?_)))
  have len : vs.length = n := by
    rw [pm.length_eq]
    simpa using x9
  have iar : IntsAre vs (vs.map SrtO.iv) := SrtO.ints_iv fun v hv => by
    obtain ⟨e, he, q⟩ := List.mem_map.mp (pm.mem_iff.mp hv)
    obtain ⟨k, tk, h1, _⟩ := x4 e he
    exact ⟨k, tk, q ▸ h1⟩
  have keys : es.toList.map (fun e => SrtO.iv e.2) = es.toList.map keyOf := List.map_congr_left fun e he => by
    obtain ⟨k, tk, h1, _⟩ := x4 e he
    unfold keyOf SrtO.iv
    rw [h1]
  have perm : (vs.map SrtO.iv).Perm (es.toList.map keyOf) := by
    have q := pm.map SrtO.iv
    rw [List.map_map] at q
    exact keys ▸ q
  refine wpAny_bind (wpAny_newList ?_ (by omega))
  have at1 : (s1.heap.push (seqObj "list" vs.toArray 0)).get? s1.heap.objs.size = some (seqObj "list" vs.toArray 0) := Heap.get?_push_size _ rfl
  refine wpAny_bind (wpAny_holding (wpAny_call_entry slot_list_sort ⟨_, at1, rfl⟩ entry_list_sort (SrtO.list_sort_ord SrtO.swo_int at1 (by omega) (fun h2 => SrtO.ints_sortable iar h2) fun out h1 h2 => ⟨_, rfl, ?_⟩) (args_list_sort _)))
  obtain ⟨y1, y2, y3⟩ := SrtO.ints_out iar h1 h2
  obtain ⟨c, hc⟩ := sortedHeap_at (vs := vs) (out := out.toArray) at1
  have pn := y2.trans perm
  refine wpAny_pure ⟨_, rfl, fin _ s1.heap.objs.size out.toArray c _ (fun b u e => ?_) g1 o1 z1 hc y1 (lt_of_le_nodup _ y3 (pn.nodup_iff.mpr x5)) (fun k => by rw [pn.mem_iff, ← x6 k]) ?_⟩
  · have lt := Heap.lt_size (k1 b u e)
    refine (sortedHeap_old (Nat.ne_of_lt lt) ?_).trans (Heap.get?_push_of_some _ (k1 b u e))
    rw [size_push']
    exact Nat.lt_succ_of_lt lt
  · rw [pn.length_eq]
    simpa using x9
theorem cr_sortU (hc : X.calm = true) : CallR X (.builtin "sorted") (rSortU X.w) := by
  intro pins s σ H vs us Q I r h
  obtain ⟨a, S, n, rfl, ha, few, q⟩ := h
  have zs : scanBound ≤ sizeLine := by rw [sizeLine_eq]; decide
  rw [Vals.ref1 r]
  refine sort_of_set (setO_get I ha) (I.ok.hd hc) few fun s' p out c ns k g o hp at1 iar lt mem len => ?_
  obtain ⟨h', g', d', t', o'⟩ := s'
  obtain rfl : g' = s.gens := g
  obtain rfl : o' = s.os := o
  have J : Inv X pins σ (upd H p (.lst (ns.map V.int))) ⟨h', s.gens, d', t', s.os⟩ :=
    I.call (ch := []) (Un.laid k hp (I.hok.fresh hp)) (I.hok.laid k hp ⟨by rw [List.length_map]; omega, out.toList, c, vals_of_ints iar, at1⟩) I.bare fun _ z => nomatch z
  exact ⟨.ref p, _, J, rfl, q ns p lt mem (I.hok.fresh hp)⟩
end
end L2

set_option Elab.async false
set_option linter.all false
set_option maxRecDepth 100000
set_option maxHeartbeats 4000000
/-! EvSb: sorted(set(xs)) by data. -/
namespace Ev
open PySem PySem.Spec PyProof.Rows L2
/-- sorted, each once -/
def insU (x : Int) : List Int → List Int
  | [] => [x]
  | y :: ys => if x < y then x :: y :: ys else if x = y then y :: ys else y :: insU x ys
def sset : List Int → List Int
  | [] => []
  | x :: xs => insU x (sset xs)
theorem insU_mem {x z : Int} : ∀ {ys : List Int}, z ∈ insU x ys ↔ z = x ∨ z ∈ ys
  | [] => by simp [insU]
  | y :: ys => by
    unfold insU
    split
    · simp
    · split
      · rename_i h; subst h; simp
      · rw [List.mem_cons, insU_mem (ys := ys), List.mem_cons]
        constructor
        · rintro (h | h | h) <;> simp [h]
        · rintro (h | h | h) <;> simp [h]
theorem sset_mem {z : Int} : ∀ {xs : List Int}, z ∈ sset xs ↔ z ∈ xs
  | [] => by simp [sset]
  | x :: xs => by unfold sset; rw [insU_mem, sset_mem (xs := xs), List.mem_cons]
theorem insU_lt {x : Int} : ∀ {ys : List Int}, ys.Pairwise (· < ·) → (insU x ys).Pairwise (· < ·)
  | [], _ => by simp [insU]
  | y :: ys, h => by
    obtain ⟨h1, h2⟩ := List.pairwise_cons.mp h
    unfold insU
    split
    · rename_i c
      refine List.pairwise_cons.mpr ⟨fun z hz => ?_, h⟩
      rcases List.mem_cons.mp hz with rfl | hz
      · exact c
      · exact Int.lt_trans c (h1 z hz)
    · split
      · exact h
      · rename_i c1 c2
        refine List.pairwise_cons.mpr ⟨fun z hz => ?_, insU_lt h2⟩
        rcases insU_mem.mp hz with rfl | hz
        · omega
        · exact h1 z hz
theorem sset_lt : ∀ xs : List Int, (sset xs).Pairwise (· < ·)
  | [] => .nil
  | x :: xs => insU_lt (sset_lt xs)
theorem lt_unique : ∀ {xs ys : List Int}, xs.Pairwise (· < ·) → ys.Pairwise (· < ·) → (∀ z, z ∈ xs ↔ z ∈ ys) → xs = ys
  | [], [], _, _, _ => rfl
  | [], y :: ys, _, _, h => absurd ((h y).mpr List.mem_cons_self) (by simp)
  | x :: xs, [], _, _, h => absurd ((h x).mp List.mem_cons_self) (by simp)
  | x :: xs, y :: ys, h1, h2, h => by
    obtain ⟨a1, a2⟩ := List.pairwise_cons.mp h1
    obtain ⟨b1, b2⟩ := List.pairwise_cons.mp h2
    have e : x = y := by
      rcases List.mem_cons.mp ((h x).mp List.mem_cons_self) with e | m
      · exact e
      · rcases List.mem_cons.mp ((h y).mpr List.mem_cons_self) with e | n
        · exact e.symm
        · have := b1 x m
          have := a1 y n
          omega
    subst e
    rw [lt_unique a2 b2 fun z => ?_]
    constructor
    · intro m
      rcases List.mem_cons.mp ((h z).mp (List.mem_cons_of_mem _ m)) with e | n
      · have := a1 z m; omega
      · exact n
    · intro m
      rcases List.mem_cons.mp ((h z).mpr (List.mem_cons_of_mem _ m)) with e | n
      · have := b1 z m; omega
      · exact n
def dSortSet (mu : Bool) (d : D) : M D := fun S => match (seqL S d).bind intsOf with
  | some ns => if ns.length < 4000 then newL mu ((sset ns).map D.int) S else .stuck
  | none => .stuck
section
variable {T : Kit} {X : Cx} {W : WX} {pos p p2 q : Pos} {a : Expr} {fa : Envd → M D}
theorem ve_sortSet {mu : Bool} (hc : X.calm = true) (hg : Gl X "sorted") (hm : X.mg "sorted" = none) (hg2 : Gl X "set") (hm2 : X.mg "set" = none) (ha : VE T X W a fa) (hs : noStar [a] = true) :
    VE T X W (.Call (.Name "sorted" p) [.Call (.Name "set" p2) [a] [] q] [] pos) (fun env => bnd (fa env) (dSortSet mu)) := by
  have s1 : starEach [a] X.env = (false, eval a X.env) :: starEach [] X.env := star_cons hs
  refine (pe_callB (cr_sortU hc) hg hm PyProof.Rows.boot_sorted (pa_cons (pe_callTy (cr_setL hc) hg2 hm2 PyProof.Rows.boot_set (pa_cons ha pa_nil s1) (by decide) (by decide) s1 rfl) pa_nil rfl) (by decide) (by decide) rfl rfl).imp fun σ H Q ⟨G, S, env, hE, hH, pp⟩ => ?_
  refine ⟨G, S, env, hE, hH, (pp.bnd (rel := Rep T)).mono fun G1 S1 d x H1 st1 hd1 r1 p1 => ?_⟩
  unfold dSortSet at p1
  split at p1
  · rename_i ns e
    split at p1
    · rename_i few
      obtain ⟨zs, h1, h2⟩ := Option.bind_eq_some_iff.mp e
      obtain ⟨l, vs, rfl, q1, z1⟩ := seqL_ok hd1 r1 h1
      rw [intsOf_ok z1 h2] at q1
      refine ⟨l, ns, rfl, SqL.of q1, by unfold scanBound; omega, fun p c le hp => ?_⟩
      obtain ⟨b1, b2⟩ := hd1.beside (o := SetO X.w p (fun j => decide (j ∈ ns)) c) hp
      refine ⟨p, _, c, rfl, upd_same, by unfold scanBound; omega, fun ns' p' lt mem hp' => ?_⟩
      have en : ns' = sset ns := lt_unique lt (sset_lt ns) fun z => by rw [mem z, sset_mem, decide_eq_true_eq]
      subst en
      exact newL_ok b1 ints_reps (p1.later b2) p' hp'
    · exact p1.elim
  · exact p1.elim
end
end Ev

set_option Elab.async false
set_option linter.all false
set_option maxRecDepth 100000
set_option maxHeartbeats 4000000
/-! EvJ: from the text to what it does with data (compE, compT, compS), and that this is right. -/
namespace Ev
open PySem PySem.Spec PyProof.Rows L2

def o1 {α γ : Type} (x : Option α) (g : α → Option γ) : Option γ := match x with
  | some a => g a
  | none => none
def o2 {α β γ : Type} (x : Option α) (y : Option β) (g : α → β → Option γ) : Option γ := o1 x fun a => o1 y fun b => g a b
def gd {γ : Type} (b : Bool) (x : Option γ) : Option γ := if b = true then x else none
theorem o1_some {α γ : Type} {x : Option α} {g : α → Option γ} {z : γ} (h : o1 x g = some z) : ∃ a, x = some a ∧ g a = some z := by
  cases x with
  | none => cases h
  | some a => exact ⟨a, rfl, h⟩
theorem o2_some {α β γ : Type} {x : Option α} {y : Option β} {g : α → β → Option γ} {z : γ} (h : o2 x y g = some z) : ∃ a b, x = some a ∧ y = some b ∧ g a b = some z := by
  obtain ⟨a, e, h⟩ := o1_some h
  obtain ⟨b, e2, h⟩ := o1_some h
  exact ⟨a, b, e, e2, h⟩
theorem gd_some {γ : Type} {b : Bool} {x : Option γ} {z : γ} (h : gd b x = some z) : b = true ∧ x = some z := by
  unfold gd at h
  split at h
  · rename_i hb; exact ⟨hb, h⟩
  · cases h

/-! ### forms by name -/
def sC (d : D) : Envd → M D := fun _ => ret d
def s1 {α β : Type} (f : Envd → M α) (g : α → M β) : Envd → M β := fun env => bnd (f env) g
def s2 (fa fb : Envd → M D) (g : D → D → M D) : Envd → M D := fun env => bnd (fa env) fun d => bnd (fb env) fun e => g d e
def newLs (mu : Bool) (ds : List D) : M D := if ds.length ≤ sizeLine then newL mu ds else stk
def newTs (ds : List D) : M D := if ds.length ≤ sizeLine then ret (.tup ds) else stk
def sSl (mu : Bool) (fa : Envd → M D) (fl fh : Envd → M (Option Int)) : Envd → M D := fun env => bnd (fa env) fun d => bnd (fl env) fun l => bnd (fh env) fun h => dSl mu d l h
def sTest (f : Envd → M D) : Envd → M Bool := fun env => bnd (f env) asB

structure CC where
  N : List Str
  sc : Scope
  cellOk : Str → Bool
  fns : List (Str × (List D → M D))
  fnsM : List (Str × (List D → M D))
  kfns : List ((Str × List Str) × (List D → M D))
  cons : List (Str × D)
  excs : List (Str × Nat)
  mus : List (Nat × Nat × Nat)
  kills : List (Nat × List Nat)
  fuel : Nat
def CC.mu (C : CC) (p : Pos) : Bool := C.mus.any fun q => q.1 == p.line && q.2.1 == p.col && q.2.2 == p.endCol
def CC.kill (C : CC) (p : Pos) : List Nat := (C.kills.lookup p.line).getD []
def slotOf (x : Str) : List Str → Option Nat
  | [] => none
  | y :: ys => if x = y then some 0 else (slotOf x ys).map (· + 1)
theorem slotOf_ok {x : Str} : ∀ {N : List Str} {i : Nat}, slotOf x N = some i → N[i]? = some x
  | [], i, h => by cases h
  | y :: ys, i, h => by
    unfold slotOf at h
    split at h
    · rename_i e; cases h; rw [e]; rfl
    · obtain ⟨j, e, rfl⟩ := Option.map_eq_some_iff.mp h
      simpa using slotOf_ok e
def isVis (sc : Scope) (x : Str) : Bool := match sc.names.lookup x with
  | some .local => true
  | some .cell => true
  | some .free => true
  | _ => false
theorem isVis_ok {sc : Scope} {x : Str} (h : isVis sc x = true) : Vis sc x := by
  unfold isVis at h
  unfold Vis
  split at h <;> simp_all
def isGl (sc : Scope) (x : Str) : Bool := match sc.names.lookup x with
  | some .globalImplicit => true
  | _ => false
theorem isGl_ok {sc : Scope} {x : Str} (h : isGl sc x = true) : sc.names.lookup x = some .globalImplicit := by
  unfold isGl at h
  split at h <;> simp_all
def isLocal (sc : Scope) (x : Str) : Bool := match sc.names.lookup x with
  | some .local => true
  | _ => false
theorem isLocal_ok {sc : Scope} {x : Str} (h : isLocal sc x = true) : sc.names.lookup x = some .local := by
  unfold isLocal at h
  split at h <;> simp_all
def isCell (sc : Scope) (x : Str) : Bool := match sc.names.lookup x with
  | some .cell => true
  | _ => false
theorem isCell_ok {sc : Scope} {x : Str} (h : isCell sc x = true) : sc.names.lookup x = some .cell := by
  unfold isCell at h
  split at h <;> simp_all
/-- a name that may be stored to -/
def stOk (C : CC) (x : Str) : Bool := isLocal C.sc x || (isCell C.sc x && C.cellOk x)
def okName (x : Str) : Bool := !(x == ("__debug__" : Str)) && !(x == ("__classdict__" : Str)) && !(x == ("__name__" : Str))
theorem okName_ok {x : Str} (h : okName x = true) : (x == ("__debug__" : Str)) = false ∧ (x == ("__classdict__" : Str)) = false ∧ x ≠ "__name__" := by
  unfold okName at h
  simp only [Bool.and_eq_true, Bool.not_eq_true'] at h
  exact ⟨h.1.1, h.1.2, fun e => by rw [e] at h; simp at h⟩

structure CtxOk (C : CC) (T : Kit) (k : Nat) (X : Cx) (W : WX) : Prop where
  N : X.N = C.N
  sc : X.env.scope = C.sc
  cell : ∀ x, C.cellOk x = true → X.fn x = true
  K : X.K = T.K
  room : Room k X.A
  calm : X.calm = true
  pass : ∀ σ, PassesAt (L2.CX X.prog X.w) X σ (WE W σ)
  nd : C.N.Nodup
  fns : ∀ x f, C.fns.lookup x = some f → FnAt X T k x f
  fnsM : ∀ x f, C.fnsM.lookup x = some f → FnAt X T k x f
  kfns : ∀ x ks f, C.kfns.lookup (x, ks) = some f → FnKAt X T k x ks f
  cons : ∀ x d, C.cons.lookup x = some d → ∃ u v, X.mg x = some u ∧ RelV v u ∧ ∀ G, Rep T G d v
  blt : ∀ x ∈ (["len", "abs", "int", "str", "list", "tuple", "sum", "all", "any", "max", "min", "sorted", "range", "zip", "enumerate", "isinstance", "bool", "set"] : List Str), X.mg x = none

/-! ### expressions -/
def bkOf (x : Str) : Option BK := [BK.len, .abs, .int, .str, .list, .tuple, .sum, .all, .any, .max, .min, .sorted].find? fun k => k.name == x
theorem bkOf_ok {x : Str} {k : BK} (h : bkOf x = some k) : k.name = x := by
  unfold bkOf at h
  have := List.find?_some h
  simpa using this
def tkOf (x : Str) : Option TK := [TK.int, .bool, .str, .list, .tuple].find? fun k => k.nm == x
theorem tkOf_ok {x : Str} {k : TK} (h : tkOf x = some k) : k.nm = x := by
  unfold tkOf at h
  have := List.find?_some h
  simpa using this
def mkOf (x : Str) : Option MK := [MK.append, .extend, .insert, .popAt, .index, .split, .join, .starts].find? fun k => k.name == x
theorem mkOf_ok {x : Str} {k : MK} (h : mkOf x = some k) : k.name = x := by
  unfold mkOf at h
  have := List.find?_some h
  simpa using this
def cmpSem : CmpOp → D → D → M D
  | .Eq => dEq false | .NotEq => dEq true | .Lt => dCmpI fun i j => decide (i < j) | .LtE => dCmpI fun i j => decide (i ≤ j) | .Gt => dCmpI fun i j => decide (j < i) | .GtE => dCmpI fun i j => decide (j ≤ i)
  | .Is => dIsN false | .IsNot => dIsN true | .In => dIn false | .NotIn => dIn true
def isSet : Expr → Bool
  | .Set _ _ _ => true
  | _ => false
def isComp : Expr → Bool
  | .ListComp _ _ _ _ => true
  | .SetComp _ _ _ _ => true
  | .DictComp _ _ _ _ _ => true
  | _ => false
def isTupE : Expr → Bool
  | .Tuple _ _ _ => true
  | _ => false
def compEs (f : Expr → Option (Envd → M D)) : List Expr → Option (Envd → M (List D))
  | [] => some sNil
  | e :: es => o2 (f e) (compEs f es) fun a b => some (sCons a b)
def compEsS (f : Expr → Option (Envd → M D)) : List Expr → Option (Envd → M (List D))
  | [] => some sNil
  | .Starred e _ :: es => o2 (f e) (compEsS f es) fun a b => some (sStar a b)
  | e :: es => o2 (f e) (compEsS f es) fun a b => some (sCons a b)
def compPart (f : Expr → Option (Envd → M D)) : Option Expr → Option (Envd → M (Option Int))
  | none => some (sPart none)
  | some e => o1 (f e) fun a => some (sPart (some a))
def foldV (op : BoolOp) : List (Envd → M D) → Option (Envd → M D)
  | [] => none
  | [f] => some f
  | f :: g :: fs => o1 (foldV op (g :: fs)) fun h => some (match op with | .And => vAnd f h | .Or => vOr f h)
def foldT (op : BoolOp) : List (Envd → M Bool) → Option (Envd → M Bool)
  | [] => none
  | [f] => some f
  | f :: g :: fs => o1 (foldT op (g :: fs)) fun h => some (match op with | .And => sAnd f h | .Or => sOr f h)
def allSome {α : Type} : List (Option α) → Option (List α)
  | [] => some []
  | x :: xs => o2 x (allSome xs) fun a as => some (a :: as)
def compTg (C : CC) : Expr → Option Tg
  | .Name x _ => gd (stOk C x) (o1 (slotOf x C.N) fun i => some (.nm i))
  | .Tuple es _ _ => o1 (allSome (es.map fun e => match e with
      | .Name x _ => gd (stOk C x) (slotOf x C.N)
      | _ => none)) fun is => some (.tp is)
  | _ => none
def ownOf (C : CC) (scope : Scope) : List (Str × Nat) := scope.names.filterMap fun y => match y.2 with
  | .local => (slotOf y.1 C.N).map fun i => (y.1, i)
  | .cell => (slotOf y.1 C.N).map fun i => (y.1, i)
  | _ => none
def CC.blk (C : CC) (scope : Scope) : CC := { C with sc := relS scope C.sc, cellOk := fun x => scope.names.lookup x == some .cell, excs := [] }
def plainT : Expr → Bool
  | .Name _ _ => true
  | .Call _ _ _ _ => true
  | .Subscript _ _ _ => true
  | .Constant _ _ _ => true
  | _ => false
/-- the compilers of the parts -/
structure Sub where
  e : Expr → Option (Envd → M D)
  t : Expr → Option (Envd → M Bool)
def compBin (mu : Bool) (fa fb : Envd → M D) : Operator → Option (Envd → M D)
  | .Add => some (s2 fa fb (dAdd mu))
  | .Sub => some (s2 fa fb dSub)
  | .Mult => some (s2 fa fb (dMul mu))
  | .FloorDiv => some (s2 fa fb dDiv)
  | .Mod => some (s2 fa fb dMod)
  | .Pow => some (s2 fa fb dPow)
  | _ => none
def compName (C : CC) (x : Str) : Option (Envd → M D) := gd (okName x) (if isVis C.sc x = true then o1 (slotOf x C.N) fun i => some (sVar i) else gd (isGl C.sc x) (o1 (C.cons.lookup x) fun d => some (sC d)))
def compIsi (C : CC) (E : Expr → Option (Envd → M D)) (a : Expr) : List Expr → Option (Envd → M D)
  | [.Name t _] => o2 (tkOf t) (E a) fun k fa => gd (isGl C.sc t) (some (s1 fa (dIsi [k])))
  | [.Tuple [.Name t _, .Name u _] _ _] => o2 (tkOf t) (tkOf u) fun k l => o1 (E a) fun fa => gd (isGl C.sc t && isGl C.sc u) (some (s1 fa (dIsi [k, l])))
  | _ => none
/-- sorted(set(b)) -/
def setArg (f : Str) (a : Expr) (as : List Expr) : Option Expr := match a, as with
  | .Call (.Name g _) [b] [] _, [] => if f = ("sorted" : Str) ∧ g = ("set" : Str) ∧ noStar [b] = true then some b else none
  | _, _ => none
theorem setArg_ok {f : Str} {a b : Expr} {as : List Expr} (h : setArg f a as = some b) : f = ("sorted" : Str) ∧ as = [] ∧ noStar [b] = true ∧ ∃ p q, a = .Call (.Name "set" p) [b] [] q := by
  unfold setArg at h
  split at h
  · split at h
    · rename_i c
      obtain ⟨h1, h2, h3⟩ := c
      cases h
      subst h2
      exact ⟨h1, rfl, h3, _, _, rfl⟩
    · cases h
  · cases h
def compCall (C : CC) (E : Expr → Option (Envd → M D)) (f : Str) (a : Expr) (as : List Expr) (p : Pos) : Option (Envd → M D) :=
  gd (okName f && isGl C.sc f && noStar (a :: as)) (if f = ("isinstance" : Str) then compIsi C E a as else match setArg f a as with
    | some b => gd (isGl C.sc "set") (o1 (E b) fun fb => some (s1 fb (dSortSet (C.mu p))))
    | none => match bkOf f with
    | some k => o1 (compEs E (a :: as)) fun g => some (s1 g (k.sem (C.mu p)))
    | none => o2 ((if C.mu p = true then C.fnsM else C.fns).lookup f) (compEs E (a :: as)) fun h g => some (s1 g h))
def sK (n : Nat) (sem : List D → M D) (ds : List D) : M D := if ds.length = n then sem ds else stk
def compKw (E : Expr → Option (Envd → M D)) : List Keyword → Option (Envd → M (List D))
  | [] => some sNil
  | ⟨_, e, _⟩ :: ks => o2 (E e) (compKw E ks) fun a b => some (sCons a b)
def compCallK (C : CC) (E : Expr → Option (Envd → M D)) (f : Str) (k : Keyword) (ks : List Keyword) : Option (Envd → M D) :=
  gd (okName f && isGl C.sc f && kwAll (k :: ks)) (o2 (C.kfns.lookup (f, kwNames (k :: ks))) (compKw E (k :: ks)) fun h g => some (s1 g (sK (kwNames (k :: ks)).length h)))
def compMeth0 (E : Expr → Option (Envd → M D)) (o : Expr) (m : Str) (ap p : Pos) : Option (Envd → M D) :=
  gd (plainO o && ap.endLine == p.line) (if m = ("pop" : Str) then o1 (E o) fun fo => some (sBM chkL fo sNil dPop) else if m = ("bit_length" : Str) then o1 (E o) fun fo => some (s1 fo dBits) else none)
def compMeth (C : CC) (E : Expr → Option (Envd → M D)) (o : Expr) (m : Str) (ap : Pos) (a : Expr) (as : List Expr) (p : Pos) : Option (Envd → M D) :=
  gd (plainO o && ap.endLine == p.line && noStar (a :: as) && decide ((a :: as).length < 20)) (o1 (mkOf m) fun k => o2 (E o) (compEs E (a :: as)) fun fo fa => some (sBM k.chk fo fa (k.sem (C.mu p))))
def compSub (C : CC) (E : Expr → Option (Envd → M D)) (a b : Expr) (p : Pos) : Option (Envd → M D) := match b with
  | .Slice lo hi none _ => o1 (E a) fun fa => o2 (compPart E lo) (compPart E hi) fun fl fh => some (sSl (C.mu p) fa fl fh)
  | .Slice none none (some (.UnaryOp .USub (.Constant (.int 1) _ _) _)) _ => o1 (E a) fun fa => some (s1 fa (dRev (C.mu p)))
  | b => gd (noSlice b) (o2 (E a) (E b) fun fa fb => some (s2 fa fb dIx))
def compIfs (Tt : Expr → Option (Envd → M Bool)) : List Expr → Option (Envd → M Bool)
  | [] => some (fun _ => ret true)
  | [c] => Tt c
  | _ => none
/-- the parts of a comprehension: what is walked, the target, the own slots, the test, the item -/
def compLc (C : CC) (I : Expr → Expr → Option (Envd → M (List D))) (Tb : Expr → Option (Envd → M Bool)) (Eb : Expr → Option (Envd → M D)) (elt tg iter : Expr) (ifs : List Expr) (scope : Scope) (mu : Bool) : Option (Envd → M D) :=
  gd (!isSet iter && blkC C.N C.sc scope (ownOf C scope)) (o2 (I tg iter) (compTg (C.blk scope) tg) fun it t =>
    gd (t.slots.all fun i => ((ownOf C scope).map (·.2)).contains i) (o2 (compIfs Tb ifs) (Eb elt) fun ft fe => some (sComp mu it t ((ownOf C scope).map (·.2)) ft fe)))
mutual
def compE (C : CC) : Nat → Expr → Option (Envd → M D)
  | 0, _ => none
  | n + 1, e => match e with
    | .Constant (.int i) _ _ => some (sC (.int i))
    | .Constant (.bool b) _ _ => some (sC (.bl b))
    | .Constant .none _ _ => some (sC .non)
    | .Constant (.str s) _ _ => some (sC (.str s))
    | .Name x _ => compName C x
    | .BinOp a op b p => o2 (compE C n a) (compE C n b) fun fa fb => compBin (C.mu p) fa fb op
    | .UnaryOp .USub a _ => o1 (compE C n a) fun fa => some (s1 fa dNeg)
    | .UnaryOp .Not a _ => o1 (compE C n a) fun fa => some (vNot fa)
    | .BoolOp op es _ => o1 (allSome (es.map (compE C n))) (foldV op)
    | .IfExp c a b _ => o1 (compT C n c) fun fc => o2 (compE C n a) (compE C n b) fun fa fb => some (sIf fc fa fb)
    | .Compare a [op] [b] _ => gd (!isSet b) (o2 (compE C n a) (compE C n b) fun fa fb => some (s2 fa fb (cmpSem op)))
    | .Compare a [op, op'] [b, c] _ => gd (!isSet c) (o1 (compE C n a) fun fa => o2 (compE C n b) (compE C n c) fun fb fc => some (sChain (cmpSem op) (cmpSem op') fa fb fc))
    | .List es p => o1 (compEsS (compE C n) es) fun f => some (s1 f (newLs (C.mu p)))
    | .Tuple es _ _ => o1 (compEsS (compE C n) es) fun f => some (s1 f newTs)
    | .Subscript a b p => compSub C (compE C n) a b p
    | .Call (.Name f _) (a :: as) [] p => compCall C (compE C n) f a as p
    | .Call (.Name f _) [] (k :: ks) p => compCallK C (compE C n) f k ks
    | .Call (.Attribute o m ap) [] [] p => compMeth0 (compE C n) o m ap p
    | .Call (.Attribute o m ap) (a :: as) [] p => compMeth C (compE C n) o m ap a as p
    | .ListComp elt [⟨tg, iter, ifs, 0⟩] scope p => compLc C (compI C n) (compT (C.blk scope) n) (compE (C.blk scope) n) elt tg iter ifs scope (C.mu p)
    | _ => none
def compT (C : CC) : Nat → Expr → Option (Envd → M Bool)
  | 0, _ => none
  | n + 1, e => match e with
    | .UnaryOp .Not a _ => o1 (compT C n a) fun f => some (sNot f)
    | .BoolOp op es _ => o1 (allSome (es.map (compT C n))) (foldT op)
    | .Compare a [op] [b] _ => gd (!isSet b) (o2 (compE C n a) (compE C n b) fun fa fb => some (sTest (s2 fa fb (cmpSem op))))
    | .Compare a [op, op'] [b, c] _ => gd (!isSet c) (o1 (compE C n a) fun fa => o2 (compE C n b) (compE C n c) fun fb fc => some (sTest (sChain (cmpSem op) (cmpSem op') fa fb fc)))
    | e => gd (plainT e) (o1 (compE C n e) fun f => some (sTest f))
def compI (C : CC) : Nat → Expr → Expr → Option (Envd → M (List D))
  | 0, _, _ => none
  | n + 1, tg, e => match e with
    | .Call (.Name f p') (a :: as) [] p =>
      if f = ("range" : Str) then gd (isGl C.sc f && noStar (a :: as)) (o1 (compEs (compE C n) (a :: as)) fun g => match as with
        | [] => some (s1 g dRange1)
        | [_] => some (s1 g dRange2)
        | [_, _] => some (s1 g dRange3)
        | _ => none)
      else if f = ("zip" : Str) then gd (isGl C.sc f && noStar (a :: as) && isTupE tg) (o1 (compEs (compE C n) (a :: as)) fun g => match as with
        | [_] => some (s1 g dZip)
        | _ => none)
      else if f = ("enumerate" : Str) then gd (isGl C.sc f && noStar (a :: as) && isTupE tg) (o1 (compEs (compE C n) (a :: as)) fun g => match as with
        | [] => some (s1 g dEnum)
        | _ => none)
      else o1 (compE C n (.Call (.Name f p') (a :: as) [] p)) fun g => some (iSeq g)
    | e => o1 (compE C n e) fun g => some (iSeq g)
end
end Ev

set_option Elab.async false
set_option linter.all false
set_option maxRecDepth 100000
set_option maxHeartbeats 4000000
/-! EvK: compE, compT, compI are right. -/
namespace Ev
open PySem PySem.Spec PyProof.Rows L2

inductive All2 {α β : Type} (R : α → β → Prop) : List α → List β → Prop
  | nil : All2 R [] []
  | cons {a : α} {b : β} {as : List α} {bs : List β} : R a b → All2 R as bs → All2 R (a :: as) (b :: bs)

section
variable {C : CC} {T : Kit} {k : Nat} {X : Cx} {W : WX} {pos : Pos}
theorem CtxOk.nodup (c : CtxOk C T k X W) : X.N.Nodup := by rw [c.N]; exact c.nd
theorem CtxOk.units (c : CtxOk C T k X W) : X.A.units + 65 < cLine := by have := c.room.un; omega
theorem CtxOk.gl (c : CtxOk C T k X W) {x : Str} (h : isGl C.sc x = true) : Gl X x := by
  show X.env.scope.names.lookup x = some .globalImplicit
  rw [c.sc]; exact isGl_ok h
theorem CtxOk.blk (c : CtxOk C T k X W) (scope : Scope) (s : Shared) (H : Hp) (D : Addr) (cl : List (Str × Addr)) (fp : List Addr) : CtxOk (C.blk scope) T k (X.blk s H scope (compEnvC scope cl D X.env) fp) WF := by
  refine ⟨c.N, ?_, fun x h => h, c.K, c.room, c.calm, fun σ pins H s e s' I h => ?_, c.nd, fun x f h => ⟨(c.fns x f h).ex⟩, fun x f h => ⟨(c.fnsM x f h).ex⟩, fun x ks f h => ⟨(c.kfns x ks f h).ex⟩, c.cons, c.blt⟩
  · show relS scope X.env.scope = relS scope C.sc
    rw [c.sc]
  · obtain ⟨a, B, H', cls, d, _, _, _, _, _, _, _, w⟩ := h
    exact w.elim
theorem nobeh {op : CmpOp} {b : Expr} (h : (!isSet b) = true) : behindInMarks op b = false := by
  cases b <;> first | rfl | (simp [isSet] at h)
theorem nofold {b : Expr} (h : (!isSet b) = true) {env : Env} : ∀ x, foldedSetIterable b env x = pure x := by
  cases b <;> first | (intro x; rfl) | (simp [isSet] at h)
theorem cmp_ok (c : CtxOk C T k X W) : ∀ op : CmpOp, ∃ r : R2, OpR X (compareOp op) r ∧ Two T (cmpSem op) r
  | .Eq => ⟨_, op_eqD (by have := c.units; omega), two_eq c.K⟩
  | .NotEq => ⟨_, op_neD (by have := c.units; omega), two_ne c.K⟩
  | .Lt => ⟨_, op_lt, two_cmpI _⟩
  | .LtE => ⟨_, op_le, two_cmpI _⟩
  | .Gt => ⟨_, op_gt, two_cmpI _⟩
  | .GtE => ⟨_, op_ge, two_cmpI _⟩
  | .Is => ⟨_, op_isN, two_isN⟩
  | .IsNot => ⟨_, op_notN, two_notN⟩
  | .In => ⟨_, op_inA c.units, two_in c.K⟩
  | .NotIn => ⟨_, op_notInA c.units, two_notIn c.K⟩
theorem compEs_ok {E : Expr → Option (Envd → M D)} (ih : ∀ e f, E e = some f → VE T X W e f) : ∀ {es : List Expr} {g : Envd → M (List D)}, noStar es = true → compEs E es = some g → VA T X W es g
  | [], g, _, h => by cases h; exact va_nil
  | e :: es, g, hs, h => by
    obtain ⟨a, b, h1, h2, h3⟩ := o2_some h
    cases h3
    exact va_cons (ih e a h1) (compEs_ok ih (noStar_tail hs) h2) (star_cons hs)
theorem compEsS_ok (c : CtxOk C T k X W) {E : Expr → Option (Envd → M D)} (ih : ∀ e f, E e = some f → VE T X W e f) : ∀ {es : List Expr} {g : Envd → M (List D)}, compEsS E es = some g → VA T X W es g
  | [], g, h => by cases h; exact va_nil
  | e :: es, g, h => by
    unfold compEsS at h
    split at h
    · rename_i he; cases he
    · rename_i e' p es' he
      cases he
      obtain ⟨a, b, h1, h2, h3⟩ := o2_some h
      cases h3
      exact va_star c.K (ih _ _ h1) (compEsS_ok c ih h2)
    · rename_i e' es' hn he
      cases he
      obtain ⟨a, b, h1, h2, h3⟩ := o2_some h
      cases h3
      refine va_cons (ih _ _ h1) (compEsS_ok c ih h2) ?_
      cases e <;> first | rfl | exact absurd rfl (hn _ _)
theorem compPart_ok {E : Expr → Option (Envd → M D)} (ih : ∀ e f, E e = some f → VE T X W e f) : ∀ {e : Option Expr} {g : Envd → M (Option Int)}, compPart E e = some g → PO X e (tO T W g)
  | none, g, h => by cases h; exact vo_none
  | some e, g, h => by
    obtain ⟨a, h1, h2⟩ := o1_some h
    cases h2
    exact vo_some (ih e a h1)
theorem allSome_ok {α β : Type} {F : α → Option β} : ∀ {xs : List α} {ys : List β}, allSome (xs.map F) = some ys → All2 (fun x y => F x = some y) xs ys
  | [], ys, h => by cases h; exact .nil
  | x :: xs, ys, h => by
    obtain ⟨a, b, h1, h2, h3⟩ := o2_some h
    cases h3
    exact .cons h1 (allSome_ok h2)
theorem foldV_ok {op : BoolOp} : ∀ {es : List Expr} {fs : List (Envd → M D)} {f : Envd → M D}, All2 (fun e g => VE T X W e g) es fs → foldV op fs = some f → VE T X W (.BoolOp op es pos) f
  | [], [], f, _, h => by cases h
  | [e], [g], f, .cons h1 .nil, h => by cases h; exact pe_one h1
  | e :: e2 :: es, g :: g2 :: gs, f, .cons h1 hr, h => by
    obtain ⟨z, h2, h3⟩ := o1_some h
    cases h3
    cases op
    · exact ve_and h1 (foldV_ok hr h2)
    · exact ve_or h1 (foldV_ok hr h2)
theorem foldT_ok {op : BoolOp} : ∀ {es : List Expr} {fs : List (Envd → M Bool)} {f : Envd → M Bool}, All2 (fun e g => VT T X W e g) es fs → foldT op fs = some f → VW T X W (.BoolOp op es pos) f
  | [], [], f, _, h => by cases h
  | [e], [g], f, .cons h1 .nil, h => by
    cases h
    cases op
    · exact vw_and1 h1
    · exact vw_or1 h1
  | e :: e2 :: es, g :: g2 :: gs, f, .cons h1 hr, h => by
    obtain ⟨z, h2, h3⟩ := o1_some h
    cases h3
    cases op
    · exact vw_and h1 (foldT_ok hr h2)
    · exact vw_or h1 (foldT_ok hr h2)
theorem forall2_imp {α β : Type} {R S : α → β → Prop} (h : ∀ a b, R a b → S a b) : ∀ {xs : List α} {ys : List β}, All2 R xs ys → All2 S xs ys
  | _, _, .nil => .nil
  | _, _, .cons a r => .cons (h _ _ a) (forall2_imp h r)
theorem stOk_ok (c : CtxOk C T k X W) {x : Str} (h : stOk C x = true) : L2.Loc X.env.scope x ∧ (X.fn x = true ∨ X.env.scope.names.lookup x = some .local) := by
  unfold stOk at h
  rw [Bool.or_eq_true, Bool.and_eq_true] at h
  unfold L2.Loc
  rw [c.sc]
  rcases h with h | ⟨h, g⟩
  · exact ⟨.inl (isLocal_ok h), .inr (isLocal_ok h)⟩
  · exact ⟨.inr (isCell_ok h), .inl (c.cell x g)⟩
theorem tgNames_ok (c : CtxOk C T k X W) : ∀ {es : List Expr} {is : List Nat}, All2 (fun e i => (match e with
      | .Name x _ => gd (stOk C x) (slotOf x C.N)
      | _ => none) = some i) es is → NamesAt X es is
  | [], [], .nil => .nil
  | e :: es, i :: is, .cons h r => by
    split at h
    · obtain ⟨h1, h2⟩ := gd_some h
      obtain ⟨k1, k2⟩ := stOk_ok c h1
      exact .cons (by rw [c.N]; exact slotOf_ok h2) k1 k2 (tgNames_ok c r)
    · cases h
theorem compTg_ok (c : CtxOk C T k X W) {tg : Expr} {t : Tg} (h : compTg C tg = some t) : VG T X tg t := by
  unfold compTg at h
  split at h
  · obtain ⟨h1, h2⟩ := gd_some h
    obtain ⟨i, h3, h4⟩ := o1_some h2
    cases h4
    obtain ⟨k1, k2⟩ := stOk_ok c h1
    exact vg_name c.nodup (by rw [c.N]; exact slotOf_ok h3) k1 k2
  · obtain ⟨is, h1, h2⟩ := o1_some h
    cases h2
    exact vg_tup c.K c.calm c.nodup (tgNames_ok c (allSome_ok h1))
  · cases h
theorem compBin_ok {mu : Bool} {a b : Expr} {op : Operator} {fa fb f : Envd → M D} (ha : VE T X W a fa) (hb : VE T X W b fb) (h : compBin mu fa fb op = some f) : VE T X W (.BinOp a op b pos) f := by
  unfold compBin at h
  split at h <;> first | (cases h; done) | skip
  · cases h; exact ve_add ha hb
  · cases h; exact ve_sub ha hb
  · cases h; exact ve_mul ha hb
  · cases h; exact ve_div ha hb
  · cases h; exact ve_mod ha hb
  · cases h; exact ve_pow ha hb
theorem compName_ok (c : CtxOk C T k X W) {x : Str} {f : Envd → M D} (h : compName C x = some f) : VE T X W (.Name x pos) f := by
  obtain ⟨h1, h2⟩ := gd_some h
  obtain ⟨n1, n2, n3⟩ := okName_ok h1
  split at h2
  · rename_i hv
    obtain ⟨i, h3, h4⟩ := o1_some h2
    cases h4
    exact ve_var (by rw [c.N]; exact slotOf_ok h3) (by rw [c.sc]; exact isVis_ok hv) n1 n2
  · obtain ⟨hg, h3⟩ := gd_some h2
    obtain ⟨d, h4, h5⟩ := o1_some h3
    cases h5
    obtain ⟨u, v, m, r, q⟩ := c.cons x d h4
    exact ve_glob (c.gl hg) m r q n1
theorem compIsi_ok (c : CtxOk C T k X W) {E : Expr → Option (Envd → M D)} (ih : ∀ e f, E e = some f → VE T X W e f) {a : Expr} {as : List Expr} {f : Envd → M D} {p : Pos} (hg : isGl C.sc "isinstance" = true) (hs : noStar (a :: as) = true) (h : compIsi C E a as = some f) :
    VE T X W (.Call (.Name "isinstance" p) (a :: as) [] pos) f := by
  have ha : noStar [a] = true := by cases a <;> first | rfl | (simp only [noStar] at hs; cases hs)
  unfold compIsi at h
  split at h
  · obtain ⟨kk, fa, h1, h2, h3⟩ := o2_some h
    obtain ⟨h4, h5⟩ := gd_some h3
    cases h5
    have e := tkOf_ok h1
    subst e
    exact ve_isi c.K (c.gl hg) (c.blt _ (by decide +kernel)) (c.gl h4) (c.blt _ (by cases kk <;> decide +kernel)) (ih _ _ h2) ha
  · obtain ⟨kk, l, h1, h2, h3⟩ := o2_some h
    obtain ⟨fa, h7, h4⟩ := o1_some h3
    obtain ⟨h6, h5⟩ := gd_some h4
    cases h5
    rw [Bool.and_eq_true] at h6
    have e := tkOf_ok h1
    have e2 := tkOf_ok h2
    subst e; subst e2
    exact ve_isi2 c.K (c.gl hg) (c.blt _ (by decide +kernel)) (c.gl h6.1) (c.blt _ (by cases kk <;> decide +kernel)) (c.gl h6.2) (c.blt _ (by cases l <;> decide +kernel)) (ih _ _ h7) ha
  · cases h
theorem compCall_ok (c : CtxOk C T k X W) {E : Expr → Option (Envd → M D)} (ih : ∀ e f, E e = some f → VE T X W e f) {fn : Str} {a : Expr} {as : List Expr} {f : Envd → M D} {p : Pos} (h : compCall C E fn a as pos = some f) : VE T X W (.Call (.Name fn p) (a :: as) [] pos) f := by
  obtain ⟨h1, h2⟩ := gd_some h
  rw [Bool.and_eq_true, Bool.and_eq_true] at h1
  obtain ⟨⟨h1, hg⟩, hs⟩ := h1
  obtain ⟨n1, n2, n3⟩ := okName_ok h1
  split at h2
  · rename_i e
    subst e
    exact compIsi_ok c ih hg hs h2
  · split at h2
    · rename_i b hb
      obtain ⟨e1, e2, e3, p', q', e4⟩ := setArg_ok hb
      subst e1; subst e2; subst e4
      obtain ⟨g2, h2⟩ := gd_some h2
      obtain ⟨fb, h3, h4⟩ := o1_some h2
      cases h4
      exact ve_sortSet c.calm (c.gl hg) (c.blt _ (by decide +kernel)) (c.gl g2) (c.blt _ (by decide +kernel)) (ih _ _ h3) e3
    · split at h2
      · rename_i kk hk
        obtain ⟨g, h3, h4⟩ := o1_some h2
        cases h4
        have e := bkOf_ok hk
        subst e
        exact ve_bk c.K c.calm (c.gl hg) (c.blt _ (by cases kk <;> decide +kernel)) (compEs_ok ih hs h3) hs
      · obtain ⟨sem, g, h3, h4, h5⟩ := o2_some h2
        cases h5
        have F : FnAt X T k fn sem := by
          split at h3
          · exact c.fnsM _ _ h3
          · exact c.fns _ _ h3
        exact ve_call F c.room (c.gl hg) c.pass (compEs_ok ih hs h4) n1 hs
theorem compKw_ok {E : Expr → Option (Envd → M D)} (ih : ∀ e f, E e = some f → VE T X W e f) : ∀ {ks : List Keyword} {g : Envd → M (List D)}, compKw E ks = some g → VK' T X W ks g
  | [], g, h => by cases h; exact vk_nil
  | ⟨_, e, _⟩ :: ks, g, h => by
    obtain ⟨a, b, h1, h2, h3⟩ := o2_some h
    cases h3
    exact vk_cons (ih e a h1) (compKw_ok ih h2)
theorem compCallK_ok (c : CtxOk C T k X W) {E : Expr → Option (Envd → M D)} (ih : ∀ e f, E e = some f → VE T X W e f) {fn : Str} {kw : Keyword} {ks : List Keyword} {f : Envd → M D} {p : Pos} (h : compCallK C E fn kw ks = some f) : VE T X W (.Call (.Name fn p) [] (kw :: ks) pos) f := by
  obtain ⟨h1, h2⟩ := gd_some h
  rw [Bool.and_eq_true, Bool.and_eq_true] at h1
  obtain ⟨⟨h1, hg⟩, hs⟩ := h1
  obtain ⟨n1, n2, n3⟩ := okName_ok h1
  obtain ⟨sem, g, h3, h4, h5⟩ := o2_some h2
  cases h5
  exact ve_callK0 (c.kfns _ _ _ h3) c.room (c.gl hg) c.pass (compKw_ok ih h4) n1 hs (List.cons_ne_nil _ _)
theorem compMeth0_ok (c : CtxOk C T k X W) {E : Expr → Option (Envd → M D)} (ih : ∀ e f, E e = some f → VE T X W e f) {o : Expr} {m : Str} {ap : Pos} {f : Envd → M D} (h : compMeth0 E o m ap pos = some f) : VE T X W (.Call (.Attribute o m ap) [] [] pos) f := by
  obtain ⟨h1, h2⟩ := gd_some h
  rw [Bool.and_eq_true] at h1
  split at h2
  · rename_i e
    subst e
    obtain ⟨fo, h3, h4⟩ := o1_some h2
    cases h4
    exact ve_pop c.K (ih _ _ h3) h1.1 h1.2
  · split at h2
    · rename_i e
      subst e
      obtain ⟨fo, h3, h4⟩ := o1_some h2
      cases h4
      exact ve_bits (ih _ _ h3) h1.1 h1.2
    · cases h2
theorem compMeth_ok (c : CtxOk C T k X W) {E : Expr → Option (Envd → M D)} (ih : ∀ e f, E e = some f → VE T X W e f) {o a : Expr} {as : List Expr} {m : Str} {ap : Pos} {f : Envd → M D} (h : compMeth C E o m ap a as pos = some f) :
    VE T X W (.Call (.Attribute o m ap) (a :: as) [] pos) f := by
  obtain ⟨h1, h2⟩ := gd_some h
  simp only [Bool.and_eq_true, decide_eq_true_eq] at h1
  obtain ⟨⟨⟨h1, h1'⟩, hs⟩, hl⟩ := h1
  obtain ⟨kk, hk, h3⟩ := o1_some h2
  obtain ⟨fo, fa, h4, h5, h6⟩ := o2_some h3
  cases h6
  have e := mkOf_ok hk
  subst e
  exact ve_mk c.K c.units (ih _ _ h4) (compEs_ok ih hs h5) h1 hs hl h1'
theorem plainIx_of {b : Expr} (h : noSlice b = true) : PlainIx b := by
  intro o i
  cases b <;> first | rfl | (simp only [noSlice] at h; cases h)
theorem compSub_ok (c : CtxOk C T k X W) {E : Expr → Option (Envd → M D)} (ih : ∀ e f, E e = some f → VE T X W e f) {a b : Expr} {f : Envd → M D} (h : compSub C E a b pos = some f) : VE T X W (.Subscript a b pos) f := by
  unfold compSub at h
  split at h
  · obtain ⟨fa, h1, h2⟩ := o1_some h
    obtain ⟨fl, fh, h3, h4, h5⟩ := o2_some h2
    cases h5
    exact ve_slice c.K (ih _ _ h1) (compPart_ok ih h3) (compPart_ok ih h4)
  · obtain ⟨fa, h1, h2⟩ := o1_some h
    cases h2
    exact ve_rev (ih _ _ h1)
  · obtain ⟨h0, h⟩ := gd_some h
    obtain ⟨fa, fb, h1, h2, h3⟩ := o2_some h
    cases h3
    exact ve_ix c.K (plainIx_of h0) (ih _ _ h1) (ih _ _ h2)
theorem compIfs_ok {Tb : Expr → Option (Envd → M Bool)} (ih : ∀ e f, Tb e = some f → VT T X W e f) : ∀ {ifs : List Expr} {f : Envd → M Bool}, compIfs Tb ifs = some f → VTs T X W ifs f
  | [], f, h => by cases h; exact vts_nil
  | [c], f, h => vts_one (ih c f h)
  | c :: d :: r, f, h => by cases h
theorem compLc_ok (c : CtxOk C T k X W) {I : Expr → Expr → Option (Envd → M (List D))} {Tb : Expr → Option (Envd → M Bool)} {Eb : Expr → Option (Envd → M D)} {elt tg iter : Expr} {ifs : List Expr} {scope : Scope} {mu : Bool}
    (iI : ∀ tg e f, I tg e = some f → VI T X W tg e f)
    (iT : ∀ (s : Shared) (H : Hp) (D : Addr) (cl : List (Str × Addr)) (fp : List Addr) e f, Tb e = some f → VT T (X.blk s H scope (compEnvC scope cl D X.env) fp) WF e f)
    (iE : ∀ (s : Shared) (H : Hp) (D : Addr) (cl : List (Str × Addr)) (fp : List Addr) e f, Eb e = some f → VE T (X.blk s H scope (compEnvC scope cl D X.env) fp) WF e f) {f : Envd → M D}
    (h : compLc C I Tb Eb elt tg iter ifs scope mu = some f) : VE T X W (.ListComp elt [⟨tg, iter, ifs, 0⟩] scope pos) f := by
  obtain ⟨h0, h⟩ := gd_some h
  rw [Bool.and_eq_true] at h0
  obtain ⟨it, t, h1, h2, h3⟩ := o2_some h
  obtain ⟨h4, h5⟩ := gd_some h3
  obtain ⟨ft, fe, h6, h7, h8⟩ := o2_some h5
  cases h8
  refine ve_comp c.calm c.nodup (iI _ _ _ h1) ?_ (fun s H D cl fp => compTg_ok (c.blk scope s H D cl fp) h2) (fun s H D cl fp => compIfs_ok (iT s H D cl fp) h6) (fun s H D cl fp => iE s H D cl fp _ _ h7) (nofold h0.1) (fun i hi => ?_)
  · rw [c.N, c.sc]; exact blkOk_by h0.2
  · have := List.all_eq_true.mp h4 i hi
    simpa using this
theorem isTupE_ok {e : Expr} (h : isTupE e = true) : ∃ es k p, e = .Tuple es k p := by
  cases e <;> first | exact ⟨_, _, _, rfl⟩ | (simp only [isTupE] at h; cases h)
theorem plainT_ok {e : Expr} {env : Env} (h : plainT e = true) : ∀ whole, isTrue e env whole = (do let v ← whole; standAt e.pos; holding [v] (truthy v)) := by
  cases e <;> first | (intro w; rfl) | (simp only [plainT] at h; cases h)
end

theorem comp_ok : ∀ (n : Nat) {C : CC} {T : Kit} {k : Nat} {X : Cx} {W : WX}, CtxOk C T k X W →
    (∀ e f, compE C n e = some f → VE T X W e f) ∧ (∀ e f, compT C n e = some f → VT T X W e f) ∧ (∀ tg e f, compI C n tg e = some f → VI T X W tg e f)
  | 0, C, T, k, X, W, c => ⟨fun e f h => (by unfold compE at h; cases h), fun e f h => (by unfold compT at h; cases h), fun tg e f h => (by unfold compI at h; cases h)⟩
  | n + 1, C, T, k, X, W, c => by
    obtain ⟨iE, iT, iI⟩ := comp_ok n c
    have hE : ∀ e f, compE C (n + 1) e = some f → VE T X W e f := fun e f h => by
      unfold compE at h
      split at h
      · cases h; exact ve_int
      · cases h; exact ve_bl
      · cases h; exact ve_non
      · cases h; exact ve_str
      · exact compName_ok c h
      · obtain ⟨fa, fb, h1, h2, h3⟩ := o2_some h
        exact compBin_ok (iE _ _ h1) (iE _ _ h2) h3
      · obtain ⟨fa, h1, h2⟩ := o1_some h
        cases h2
        exact ve_neg (iE _ _ h1)
      · obtain ⟨fa, h1, h2⟩ := o1_some h
        cases h2
        exact ve_not (iE _ _ h1)
      · obtain ⟨fs, h1, h2⟩ := o1_some h
        exact foldV_ok (forall2_imp (fun a b h => iE a b h) (allSome_ok h1)) h2
      · obtain ⟨fc, h1, h2⟩ := o1_some h
        obtain ⟨fa, fb, h3, h4, h5⟩ := o2_some h2
        cases h5
        exact ve_if (iT _ _ h1) (iE _ _ h3) (iE _ _ h4)
      · rename_i a op b p
        obtain ⟨h0, h⟩ := gd_some h
        obtain ⟨fa, fb, h1, h2, h3⟩ := o2_some h
        cases h3
        obtain ⟨r, k1, k2⟩ := cmp_ok c op
        exact ve_cmp k1 (nobeh h0) k2 (iE _ _ h1) (iE _ _ h2)
      · rename_i a op op' b c' p
        obtain ⟨h0, h⟩ := gd_some h
        obtain ⟨fa, h1, h⟩ := o1_some h
        obtain ⟨fb, fc, h2, h3, h4⟩ := o2_some h
        cases h4
        obtain ⟨r, k1, k2⟩ := cmp_ok c op
        obtain ⟨r', k3, k4⟩ := cmp_ok c op'
        exact ve_chain k1 k3 k2 k4 (nobeh h0) (iE _ _ h1) (iE _ _ h2) (iE _ _ h3)
      · obtain ⟨g, h1, h2⟩ := o1_some h
        cases h2
        exact ve_lst (compEsS_ok c iE h1)
      · obtain ⟨g, h1, h2⟩ := o1_some h
        cases h2
        exact ve_tup (compEsS_ok c iE h1)
      · exact compSub_ok c iE h
      · exact compCall_ok c iE h
      · exact compCallK_ok c iE h
      · exact compMeth0_ok c iE h
      · exact compMeth_ok c iE h
      · rename_i elt tg iter ifs scope p
        exact compLc_ok c iI (fun s H D cl fp => (comp_ok n (c.blk scope s H D cl fp)).2.1) (fun s H D cl fp => (comp_ok n (c.blk scope s H D cl fp)).1) h
      · cases h
    refine ⟨hE, fun e f h => ?_, fun tg e f h => ?_⟩
    · unfold compT at h
      split at h
      · obtain ⟨fa, h1, h2⟩ := o1_some h
        cases h2
        exact vt_not (iT _ _ h1)
      · obtain ⟨fs, h1, h2⟩ := o1_some h
        exact PW.pt (foldT_ok (forall2_imp (fun a b h => iT a b h) (allSome_ok h1)) h2)
      · rename_i a op b p
        obtain ⟨h0, h⟩ := gd_some h
        obtain ⟨fa, fb, h1, h2, h3⟩ := o2_some h
        cases h3
        obtain ⟨r, k1, k2⟩ := cmp_ok c op
        exact vt_cmp k1 (nobeh h0) k2 (iE _ _ h1) (iE _ _ h2)
      · rename_i a op op' b c' p
        obtain ⟨h0, h⟩ := gd_some h
        obtain ⟨fa, h1, h⟩ := o1_some h
        obtain ⟨fb, fc, h2, h3, h4⟩ := o2_some h
        cases h4
        obtain ⟨r, k1, k2⟩ := cmp_ok c op
        obtain ⟨r', k3, k4⟩ := cmp_ok c op'
        exact vt_chain k1 k3 k2 k4 (nobeh h0) (iE _ _ h1) (iE _ _ h2) (iE _ _ h3)
      · obtain ⟨h0, h⟩ := gd_some h
        obtain ⟨fa, h1, h2⟩ := o1_some h
        cases h2
        exact vt_val (iE _ _ h1) (plainT_ok h0)
    · unfold compI at h
      split at h
      · rename_i fn p' a as p
        split at h
        · rename_i e
          subst e
          obtain ⟨h0, h⟩ := gd_some h
          rw [Bool.and_eq_true] at h0
          obtain ⟨g, h1, h2⟩ := o1_some h
          have hv := compEs_ok iE h0.2 h1
          split at h2
          · cases h2; exact vi_range1 (c.gl h0.1) (c.blt _ (by decide +kernel)) hv h0.2
          · cases h2; exact vi_range2 (c.gl h0.1) (c.blt _ (by decide +kernel)) hv h0.2
          · cases h2; exact vi_range3 (c.gl h0.1) (c.blt _ (by decide +kernel)) hv h0.2
          · cases h2
        · split at h
          · rename_i e
            subst e
            obtain ⟨h0, h⟩ := gd_some h
            rw [Bool.and_eq_true, Bool.and_eq_true] at h0
            obtain ⟨g, h1, h2⟩ := o1_some h
            have hv := compEs_ok iE h0.1.2 h1
            split at h2
            · cases h2
              obtain ⟨elts, kk, tp, rfl⟩ := isTupE_ok h0.2
              exact vi_zip c.K (c.gl h0.1.1) (c.blt _ (by decide +kernel)) hv h0.1.2
            · cases h2
          · split at h
            · rename_i e
              subst e
              obtain ⟨h0, h⟩ := gd_some h
              rw [Bool.and_eq_true, Bool.and_eq_true] at h0
              obtain ⟨g, h1, h2⟩ := o1_some h
              have hv := compEs_ok iE h0.1.2 h1
              split at h2
              · cases h2
                obtain ⟨elts, kk, tp, rfl⟩ := isTupE_ok h0.2
                exact vi_enum (c.gl h0.1.1) (c.blt _ (by decide +kernel)) hv h0.1.2
              · cases h2
            · obtain ⟨g, h1, h2⟩ := o1_some h
              cases h2
              exact vi_seq c.K (iE _ _ h1)
      · obtain ⟨g, h1, h2⟩ := o1_some h
        cases h2
        exact vi_seq c.K (iE _ _ h1)
end Ev

set_option Elab.async false
set_option linter.all false
set_option maxRecDepth 100000
set_option maxHeartbeats 4000000
/-! EvL: the statements' compiler, and that it is right. -/
namespace Ev
open PySem PySem.Spec PyProof.Rows L2

/-! ### what a store does with what stands before it -/
def bkS (sc : Scope) : ScopeKind := if sc.kind.isAnnotationScope then ScopeKind.function else sc.kind
def swN (sc : Scope) (ts : List Expr) : List Str := ts.filterMap fun
  | .Name id pos => if sc.names.lookup id == some .local && pos.line == (ts.head?.map (·.pos.line)).getD 0 then some id else none
  | _ => none
def swC (sc : Scope) (ts vs : List Expr) : Option (Option (List Str)) :=
  if (!(ts.length == 2 || ts.length == 3) || vs.length != ts.length || bkS sc != .function) = true then some none
  else if (vs.any fun | .Starred .. => true | _ => false) = true then some none
  else if ((swN sc ts).length != ts.length || (swN sc ts).eraseDups.length != (swN sc ts).length) = true then some none
  else if vs.all (foldedForSure 8) = true then some none
  else if vs.all (constantsAlone 8) = true then none
  else some (some (swN sc ts))
theorem swC_ok {sc : Scope} {env : Env} {ts vs : List Expr} {k1 k2 : Nat} {p1 p2 : Pos} {r : Option (List Str)} (hs : env.scope = sc) (h : swC sc ts vs = some r) : swappedStores [.Tuple ts k1 p1] (.Tuple vs k2 p2) env = pure r := by
  subst hs
  have e : swappedStores [.Tuple ts k1 p1] (.Tuple vs k2 p2) env = (
    if (!(ts.length == 2 || ts.length == 3) || vs.length != ts.length || bkS env.scope != .function) = true then pure none
    else if (vs.any fun | .Starred .. => true | _ => false) = true then pure none
    else if ((swN env.scope ts).length != ts.length || (swN env.scope ts).eraseDups.length != (swN env.scope ts).length) = true then pure none
    else if vs.all (foldedForSure 8) = true then pure none
    else if vs.all (constantsAlone 8) = true then (do unsupported "assign.tuple-of-constant-expressions:order-of-the-stores"; pure (some (swN env.scope ts)))
    else pure (some (swN env.scope ts))) := rfl
  rw [e]
  unfold swC at h
  split at h
  · rename_i c; cases h; rw [if_pos c]
  · rename_i c
    rw [if_neg c]
    split at h
    · rename_i c; cases h; rw [if_pos c]
    · rename_i c
      rw [if_neg c]
      split at h
      · rename_i c; cases h; rw [if_pos c]
      · rename_i c
        rw [if_neg c]
        split at h
        · rename_i c; cases h; rw [if_pos c]
        · rename_i c
          rw [if_neg c]
          split at h
          · cases h
          · rename_i c; cases h; rw [if_neg c]
def swQ (sc : Scope) : List Expr → Expr → Option (Option (List Str))
  | [.Tuple ts _ _], .Tuple vs _ _ => swC sc ts vs
  | _, _ => none
theorem swQ_ok {sc : Scope} {env : Env} {targets : List Expr} {value : Expr} {r : Option (List Str)} (hs : env.scope = sc) (h : swQ sc targets value = some r) : swappedStores targets value env = pure r := by
  unfold swQ at h
  split at h
  · exact swC_ok hs h
  · cases h
theorem sw_name {y : Str} {py : Pos} {v : Expr} {env : Env} : swappedStores [.Name y py] v env = pure none := by cases v <;> rfl
theorem sw_sub {a b : Expr} {py : Pos} {v : Expr} {env : Env} : swappedStores [.Subscript a b py] v env = pure none := by cases v <;> rfl
theorem sw_tup {ts : List Expr} {kt : Nat} {pt : Pos} {v : Expr} {env : Env} (h : isTupE v = false) : swappedStores [.Tuple ts kt pt] v env = pure none := by
  cases v <;> first | rfl | (exact absurd h (by simp [isTupE]))
/-- an own comprehension goes into a name without a step between -/
def swB (sc : Scope) (y : Str) (py : Pos) (value : Expr) : Bool := match value with
  | .ListComp _ _ s p => ((if sc.kind.isAnnotationScope then ScopeKind.function else sc.kind) == .function && sc.names.lookup y == some .local && py.line == p.line) && !(s.names.any fun (n, k) => n == y && (k == .local || k == .cell))
  | _ => false
theorem swB_ok {sc : Scope} {env : Env} {y : Str} {py p : Pos} {el : Expr} {gs : List Comprehension} {s : Scope} {line : Nat} {b : Bool} (hs : env.scope = sc) (h : swB sc y py (.ListComp el gs s p) = b) : swapsWith (.ListComp el gs s p) (some (.Name y py)) line env = pure b := by
  subst hs
  unfold swB at h
  subst h
  rfl
theorem noSw {value : Expr} {t : Option Expr} {line : Nat} {env : Env} (h : isComp value = false) : swapsWith value t line env = pure false := by
  cases value <;> first | rfl | (exact absurd h (by simp [isComp]))
theorem noSw1 {value t : Expr} {line : Nat} {env : Env} (h : isComp value = false) : swapsWithSole [t] value line env = pure false := noSw h

/-! ### statements -/
def sRaise (c : Nat) : MS := fun env S => .exc c [] env S
def isLc : Expr → Bool
  | .ListComp _ [⟨_, _, _, 0⟩] _ _ => true
  | _ => false
def tgNames (C : CC) (es : List Expr) : Option (List Nat) := allSome (es.map fun e => match e with
      | .Name x _ => gd (stOk C x) (slotOf x C.N)
      | _ => none)
def compAsg (C : CC) (n : Nat) (tg v : Expr) (p : Pos) : Option MS := match tg with
  | .Name y py => match v with
    | .ListComp elt [⟨tg', iter, ifs, 0⟩] scope pc =>
      if swB C.sc y py v = true then gd (isLocal C.sc y) (o1 (slotOf y C.N) fun i => o1 (compLc C (compI C n) (compT (C.blk scope) n) (compE (C.blk scope) n) elt tg' iter ifs scope (C.mu pc)) fun f => some (sAsg (.nm i) f))
      else o2 (compTg C tg) (compE C n v) fun t f => some (sAsg t f)
    | v => gd (!isComp v) (o2 (compTg C tg) (compE C n v) fun t f => some (sAsg t f))
  | .Tuple es _ _ => match v with
    | .Tuple vs k2 p2 => gd (noStar vs) (o1 (compEs (compE C n) vs) fun f => match swQ C.sc [tg] v with
      | some none => o1 (tgNames C es) fun is => gd (decide (is.length ≤ sizeLine)) (some (sTup is f))
      | some (some _) => match es, vs with
        | [.Name x _, .Name y _], [_, _] => o2 (slotOf x C.N) (slotOf y C.N) fun i j => gd (isLocal C.sc x && isLocal C.sc y && decide (i ≠ j) && decide (swQ C.sc [tg] v = some (some [x, y]))) (some (sTup [i, j] f))
        | [.Name x _, .Name y _, .Name z _], [_, _, _] => o2 (slotOf x C.N) (slotOf y C.N) fun i j => o1 (slotOf z C.N) fun l => gd (isLocal C.sc x && isLocal C.sc y && isLocal C.sc z && decide (i ≠ j) && decide (i ≠ l) && decide (j ≠ l) && decide (swQ C.sc [tg] v = some (some [x, y, z]))) (some (sTup [i, j, l] f))
        | _, _ => none
      | none => none)
    | v => gd (!isComp v && !isTupE v) (o2 (compTg C tg) (compE C n v) fun t f => some (sAsg t f))
  | .Subscript o i _ => gd (noSlice i && !isComp v && !isTupE tg) (o1 (compE C n o) fun fo => o2 (compE C n i) (compE C n v) fun fi fe => some (sSet fo fi fe))
  | _ => none
mutual
def compS (C : CC) (m : Nat) : Nat → Stmt → Option MS
  | 0, _ => none
  | n + 1, s => match s with
    | .Pass _ => some sPass
    | .Break _ => some sBreak
    | .Continue _ => some sCont
    | .Expr e _ => gd (!isComp e) (o1 (compE C m e) fun f => some (sExpr f))
    | .Return none _ => some sRetN
    | .Return (some e) _ => o1 (compE C m e) fun f => some (sRet f)
    | .If c p q _ => o1 (compT C m c) fun fc => o2 (compSs C m n p) (compSs C m n q) fun f g => some (sIfS fc f g)
    | .Assign [tg] v p => compAsg C m tg v p
    | .For tg it body [] p => gd (!isSet it) (o1 (compTg C tg) fun t => o2 (compI C m tg it) (compSs C m n body) fun fi fb => some (sFor t (C.kill p) fi fb))
    | .While c body [] p => o2 (compT C m c) (compSs C m n body) fun fc fb => some (whileL (C.kill p) fc fb C.fuel)
    | .Raise (some (.Call (.Name x _) [.Constant (.str _) _ _] [] _)) none _ => gd (isGl C.sc x) (o1 (C.excs.lookup x) fun c => some (sRaise c))
    | _ => none
def compSs (C : CC) (m : Nat) : Nat → List Stmt → Option MS
  | 0, _ => none
  | n + 1, ss => match ss with
    | [] => some sPass
    | [s] => compS C m n s
    | s :: r => o2 (compS C m n s) (compSs C m n r) fun f g => some (sSeq f g)
end
structure StOk (C : CC) (T : Kit) (k : Nat) (X : Cx) (W : WX) : Prop where
  cx : CtxOk C T k X W
  own : PassesOwn (model X.prog X.w) X.A X.env X.xe
  exc : ∀ x c, C.excs.lookup x = some c → Gl X x → ∀ m j p p2 p3 pos, PS X (.Raise (some (.Call (.Name x p) [.Constant (.str m) j p2] [] p3)) none pos) (tS T W (sRaise c))
section
variable {C : CC} {T : Kit} {k : Nat} {X : Cx} {W : WX} {pos : Pos}
theorem raise_of {c : Nat} {e : Expr} (hc : X.calm = true) (tk : Takes X W) (h : PMk X e (fun _ H Q => Q (.ref (T.cl c)) none H)) : PS X (.Raise (some e) none pos) (tS T W (sRaise c)) := by
  refine (ps_raise hc tk h).imp fun D' σ H ⟨G, S, env, hE, hH, p⟩ => ?_
  exact p G H σ _ _ .refl hH hE ⟨rfl, .inl ⟨rfl, rfl⟩⟩
theorem assignEach_one {tg : Expr} {env : Env} (h : ∀ t p, tg ≠ .Starred t p) : (assignEach [tg] env).map (·.2) = [assign tg env] := by
  cases tg <;> first | rfl | exact absurd rfl (h _ _)
theorem compAsg_ok (c : CtxOk C T k X W) {n : Nat} {tg v : Expr} {f : MS} (h : compAsg C n tg v pos = some f) : VS T X W (.Assign [tg] v pos) f := by
  obtain ⟨iE, iT, iI⟩ := comp_ok n c
  unfold compAsg at h
  split at h
  · rename_i y py
    split at h
    · rename_i elt tg' iter ifs scope pc
      split at h
      · rename_i hsw
        obtain ⟨hl, h⟩ := gd_some h
        obtain ⟨i, hi, h⟩ := o1_some h
        obtain ⟨f0, hf, h⟩ := o1_some h
        cases h
        obtain ⟨h0, h⟩ := gd_some hf
        rw [Bool.and_eq_true] at h0
        obtain ⟨it, t, h1, h2, h3⟩ := o2_some h
        obtain ⟨h4, h5⟩ := gd_some h3
        obtain ⟨ft, fe, h6, h7, h8⟩ := o2_some h5
        cases h8
        refine vs_asgLc c.calm c.nodup (by rw [c.N]; exact slotOf_ok hi) (by rw [c.sc]; exact isLocal_ok hl) (swB_ok c.sc hsw) (iI _ _ _ h1) (by rw [c.N, c.sc]; exact blkOk_by h0.2) (fun s H D cl fp => compTg_ok (c.blk scope s H D cl fp) h2)
          (fun s H D cl fp => compIfs_ok (comp_ok n (c.blk scope s H D cl fp)).2.1 h6) (fun s H D cl fp => (comp_ok n (c.blk scope s H D cl fp)).1 _ _ h7) (nofold h0.1) (fun i hi => ?_)
        have := List.all_eq_true.mp h4 i hi
        simpa using this
      · rename_i hsw
        obtain ⟨t, f0, h1, h2, h3⟩ := o2_some h
        cases h3
        exact vs_asg (iE _ _ h2) (compTg_ok c h1) (swB_ok (line := pos.line) c.sc (Bool.eq_false_iff.mpr hsw)) sw_name rfl
    · obtain ⟨h0, h⟩ := gd_some h
      obtain ⟨t, f0, h1, h2, h3⟩ := o2_some h
      cases h3
      exact vs_asg (iE _ _ h2) (compTg_ok c h1) (noSw1 (by simpa using h0)) sw_name rfl
  · rename_i es kt pt
    split at h
    · rename_i vs k2 p2
      obtain ⟨hs, h⟩ := gd_some h
      obtain ⟨g, h1, h⟩ := o1_some h
      have hv := compEs_ok iE hs h1
      split at h
      · rename_i hq
        obtain ⟨is, h2, h⟩ := o1_some h
        obtain ⟨h3, h4⟩ := gd_some h
        cases h4
        exact vs_tup c.K c.calm c.nodup (tgNames_ok c (allSome_ok h2)) hv (swQ_ok c.sc hq) (of_decide_eq_true h3)
      · split at h
        · rename_i x px y pyy a b
          obtain ⟨i, j, h2, h3, h4⟩ := o2_some h
          obtain ⟨h5, h6⟩ := gd_some h4
          cases h6
          simp only [Bool.and_eq_true, decide_eq_true_eq] at h5
          obtain ⟨⟨⟨l1, l2⟩, l3⟩, l4⟩ := h5
          exact vs_par2 c.calm c.nodup (by rw [c.N]; exact slotOf_ok h2) (by rw [c.N]; exact slotOf_ok h3) l3 (by rw [c.sc]; exact isLocal_ok l1) (by rw [c.sc]; exact isLocal_ok l2) hv (swQ_ok c.sc l4)
        · rename_i x px y pyy z pz a b cc
          obtain ⟨i, j, h2, h3, h4⟩ := o2_some h
          obtain ⟨l, h7, h4⟩ := o1_some h4
          obtain ⟨h5, h6⟩ := gd_some h4
          cases h6
          simp only [Bool.and_eq_true, decide_eq_true_eq] at h5
          obtain ⟨⟨⟨⟨⟨⟨l1, l2⟩, l3⟩, l4⟩, l5⟩, l6⟩, l7⟩ := h5
          exact vs_par3 c.calm c.nodup (by rw [c.N]; exact slotOf_ok h2) (by rw [c.N]; exact slotOf_ok h3) (by rw [c.N]; exact slotOf_ok h7) l4 l5 l6 (by rw [c.sc]; exact isLocal_ok l1) (by rw [c.sc]; exact isLocal_ok l2) (by rw [c.sc]; exact isLocal_ok l3) hv (swQ_ok c.sc l7)
        · cases h
      · cases h
    · obtain ⟨h0, h⟩ := gd_some h
      rw [Bool.and_eq_true] at h0
      obtain ⟨t, f0, h1, h2, h3⟩ := o2_some h
      cases h3
      exact vs_asg (iE _ _ h2) (compTg_ok c h1) (noSw1 (by simpa using h0.1)) (sw_tup (by simpa using h0.2)) rfl
  · rename_i o i p'
    obtain ⟨h0, h⟩ := gd_some h
    simp only [Bool.and_eq_true] at h0
    obtain ⟨fo, h1, h⟩ := o1_some h
    obtain ⟨fi, fe, h2, h3, h4⟩ := o2_some h
    cases h4
    exact vs_set h0.1.1 (iE _ _ h1) (iE _ _ h2) (iE _ _ h3) (noSw1 (by simpa using h0.1.2)) sw_sub rfl
  · cases h
theorem compS_ok (c : StOk C T k X W) {m : Nat} : ∀ (n : Nat), (∀ s f, compS C m n s = some f → VS T X W s f) ∧ (∀ ss f, compSs C m n ss = some f → VSs T X W ss f)
  | 0 => ⟨fun e f h => (by unfold compS at h; cases h), fun e f h => (by unfold compSs at h; cases h)⟩
  | n + 1 => by
    obtain ⟨iS, iSs⟩ := compS_ok c (m := m) n
    obtain ⟨iE, iT, iI⟩ := comp_ok m c.cx
    refine ⟨fun s f h => ?_, fun ss f h => ?_⟩
    · unfold compS at h
      split at h
      · cases h; exact vs_pass
      · cases h; exact vs_break
      · cases h; exact vs_cont
      · obtain ⟨h0, h⟩ := gd_some h
        obtain ⟨g, h1, h2⟩ := o1_some h
        cases h2
        exact vs_expr (iE _ _ h1) (noSw (by simpa using h0))
      · cases h; exact vs_retN
      · obtain ⟨g, h1, h2⟩ := o1_some h
        cases h2
        exact vs_ret (iE _ _ h1)
      · obtain ⟨fc, h1, h⟩ := o1_some h
        obtain ⟨f1, g1, h2, h3, h4⟩ := o2_some h
        cases h4
        exact vs_if (iT _ _ h1) (iSs _ _ h2) (iSs _ _ h3)
      · exact compAsg_ok c.cx h
      · obtain ⟨h0, h⟩ := gd_some h
        obtain ⟨t, h1, h⟩ := o1_some h
        obtain ⟨fi, fb, h2, h3, h4⟩ := o2_some h
        cases h4
        exact vs_for c.own c.cx.calm (iI _ _ _ h2) (compTg_ok c.cx h1) (iSs _ _ h3) (nofold h0)
      · obtain ⟨fc, fb, h2, h3, h4⟩ := o2_some h
        cases h4
        exact vs_while c.own (iT _ _ h2) (iSs _ _ h3)
      · obtain ⟨h0, h⟩ := gd_some h
        obtain ⟨cc, h1, h2⟩ := o1_some h
        cases h2
        exact c.exc _ _ h1 (c.cx.gl h0) _ _ _ _ _ _
      · cases h
    · unfold compSs at h
      split at h
      · cases h; exact vss_nil
      · exact vss_one (iS _ _ h)
      · obtain ⟨f1, g1, h2, h3, h4⟩ := o2_some h
        cases h4
        exact vss_cons (iS _ _ h2) (iSs _ _ h3)
end
end Ev

set_option Elab.async false
set_option linter.all false
set_option maxRecDepth 100000
set_option maxHeartbeats 4000000
/-! EvM: data that are frozen; a def that sees only the cells it is given. -/
namespace Ev
open PySem PySem.Spec PyProof.Rows L2

/-! ### data without references -/
mutual
def nrD : D → Bool
  | .ref _ => false
  | .lst xs => nrDs xs
  | .tup xs => nrDs xs
  | .dct _ vs => nrDs vs
  | .obj _ fs => nrDs fs
  | .non => true
  | .bl _ => true
  | .int _ => true
  | .str _ => true
  | .scr _ => true
def nrDs : List D → Bool
  | [] => true
  | d :: ds => nrD d && nrDs ds
end
mutual
theorem rep_m {T : Kit} {Hg : Hp} {m m' : List Addr} : ∀ {d : D} {v : V}, nrD d = true → Rep T ⟨Hg, m⟩ d v → Rep T ⟨Hg, m'⟩ d v
  | .non, v, _, h => by simpa only [Rep] using h
  | .bl b, v, _, h => by simpa only [Rep] using h
  | .int i, v, _, h => by simpa only [Rep] using h
  | .str s, v, _, h => by simpa only [Rep] using h
  | .scr xs, v, _, h => by simpa only [Rep] using h
  | .lst ds, v, n, h => by
    simp only [Rep, nrD] at h n ⊢
    obtain ⟨a, vs, e, q, r⟩ := h
    exact ⟨a, vs, e, q, reps_m n r⟩
  | .tup ds, v, n, h => by
    simp only [Rep, nrD] at h n ⊢
    obtain ⟨a, vs, e, q, r⟩ := h
    exact ⟨a, vs, e, q, reps_m n r⟩
  | .dct ks ds, v, n, h => by
    simp only [Rep, nrD] at h n ⊢
    obtain ⟨a, vs, e, q, z, r⟩ := h
    exact ⟨a, vs, e, q, z, reps_m n r⟩
  | .obj c ds, v, n, h => by
    simp only [Rep, nrD] at h n ⊢
    obtain ⟨a, dx, vs, e, q, z, r⟩ := h
    exact ⟨a, dx, vs, e, q, z, reps_m n r⟩
  | .ref k, v, n, h => by simp only [nrD] at n; cases n
theorem reps_m {T : Kit} {Hg : Hp} {m m' : List Addr} : ∀ {ds : List D} {vs : List V}, nrDs ds = true → Reps T ⟨Hg, m⟩ ds vs → Reps T ⟨Hg, m'⟩ ds vs
  | [], vs, _, h => by simpa only [Reps] using h
  | d :: ds, vs, n, h => by
    simp only [nrDs, Bool.and_eq_true] at n
    simp only [Reps] at h ⊢
    obtain ⟨v, r, e, q, z⟩ := h
    exact ⟨v, r, e, rep_m n.1 q, reps_m n.2 z⟩
end
def nrC : Cell → Bool
  | .lst xs => nrDs xs
  | .frz xs => nrDs xs
  | .dct _ xs => nrDs xs
  | .ins _ xs => nrDs xs
  | .fro _ xs => nrDs xs
theorem cellRep_m {T : Kit} {Hg : Hp} {m m' : List Addr} {a : Addr} {H : Hp} {c : Cell} (n : nrC c = true) (h : CellRep T ⟨Hg, m⟩ a H c) : CellRep T ⟨Hg, m'⟩ a H c := by
  cases c <;> simp only [CellRep, nrC] at h n ⊢
  · obtain ⟨z, vs, e, r⟩ := h; exact ⟨z, vs, e, reps_m n r⟩
  · obtain ⟨vs, e, r⟩ := h; exact ⟨vs, e, reps_m n r⟩
  · obtain ⟨z, vs, e, y, r⟩ := h; exact ⟨z, vs, e, y, reps_m n r⟩
  · obtain ⟨z, dx, vs, e, y, r⟩ := h; exact ⟨z, dx, vs, e, y, reps_m n r⟩
  · obtain ⟨dx, vs, e, y, r⟩ := h; exact ⟨dx, vs, e, y, reps_m n r⟩

/-! ### to freeze -/
abbrev Fz (α : Type) := Store → Option (α × Store)
mutual
def mapR (f : Nat → Fz D) : D → Fz D
  | .ref k => f k
  | .lst xs => fun S => o1 (mapRs f xs S) fun r => some (.lst r.1, r.2)
  | .tup xs => fun S => o1 (mapRs f xs S) fun r => some (.tup r.1, r.2)
  | .dct ks xs => fun S => o1 (mapRs f xs S) fun r => some (.dct ks r.1, r.2)
  | .obj c xs => fun S => o1 (mapRs f xs S) fun r => some (.obj c r.1, r.2)
  | .non => fun S => some (.non, S)
  | .bl b => fun S => some (.bl b, S)
  | .int i => fun S => some (.int i, S)
  | .str s => fun S => some (.str s, S)
  | .scr xs => fun S => some (.scr xs, S)
def mapRs (f : Nat → Fz D) : List D → Fz (List D)
  | [] => fun S => some ([], S)
  | d :: ds => fun S => o1 (mapR f d S) fun r => o1 (mapRs f ds r.2) fun q => some (r.1 :: q.1, q.2)
end
mutual
theorem mapR_nr {f : Nat → Fz D} {S : Store} : ∀ {d : D}, nrD d = true → mapR f d S = some (d, S)
  | .non, _ => by simp only [mapR]
  | .bl b, _ => by simp only [mapR]
  | .int i, _ => by simp only [mapR]
  | .str s, _ => by simp only [mapR]
  | .scr xs, _ => by simp only [mapR]
  | .lst ds, n => by simp only [nrD] at n; simp only [mapR, mapRs_nr n, o1]
  | .tup ds, n => by simp only [nrD] at n; simp only [mapR, mapRs_nr n, o1]
  | .dct ks ds, n => by simp only [nrD] at n; simp only [mapR, mapRs_nr n, o1]
  | .obj c ds, n => by simp only [nrD] at n; simp only [mapR, mapRs_nr n, o1]
  | .ref k, n => by simp only [nrD] at n; cases n
theorem mapRs_nr {f : Nat → Fz D} {S : Store} : ∀ {ds : List D}, nrDs ds = true → mapRs f ds S = some (ds, S)
  | [], _ => by simp only [mapRs]
  | d :: ds, n => by
    simp only [nrDs, Bool.and_eq_true] at n
    simp only [mapRs, mapR_nr n.1, mapRs_nr n.2, o1]
end
def fzC (g : List D → Fz (List D)) (k : Nat) : Fz D := fun S => match S[k]? with
  | some (.lst xs) => o1 (g xs S) fun r => match r.2[k]? with
    | some (.lst _) => some (.lst r.1, r.2.set k (.frz r.1))
    | _ => none
  | some (.frz xs) => o1 (g xs S) fun r => some (.lst r.1, r.2)
  | some (.ins c xs) => o1 (g xs S) fun r => match r.2[k]? with
    | some (.ins c' _) => if c' = c then some (.obj c r.1, r.2.set k (.fro c r.1)) else none
    | _ => none
  | some (.fro c xs) => o1 (g xs S) fun r => some (.obj c r.1, r.2)
  | _ => none
def fzN : Nat → Nat → Fz D
  | 0 => fun _ _ => none
  | n + 1 => fzC (mapRs (fzN n))
/-- how deep lists lie in lists, at most -/
abbrev fzD : D → Fz D := mapR (fzN 8)
abbrev fzDs : List D → Fz (List D) := mapRs (fzN 8)
section
variable {T : Kit} {H : Hp}
/-- what freezing leaves -/
structure Fzd (T : Kit) (H : Hp) (G : Gh) (G' : Gh) (S' : Store) : Prop where
  st : Step G H G' H
  m : G'.m = G.m
  hd : Held T G' S' H
theorem Fzd.trans {G G1 G2 : Gh} {S1 S2 : Store} (a : Fzd T H G G1 S1) (b : Fzd T H G1 G2 S2) : Fzd T H G G2 S2 := ⟨a.st.trans b.st, b.m.trans a.m, b.hd⟩
def FzOk (T : Kit) (H : Hp) (f : Nat → Fz D) : Prop := ∀ (k : Nat) (G : Gh) (S : Store) (d' : D) (S' : Store) (v : V), Held T G S H → Rep T G (.ref k) v → f k S = some (d', S') → ∃ G', Fzd T H G G' S' ∧ Rep T G' d' v ∧ nrD d' = true
mutual
theorem mapR_ok {f : Nat → Fz D} (hf : FzOk T H f) : ∀ {d d' : D} {G : Gh} {S S' : Store} {v : V}, Held T G S H → Rep T G d v → mapR f d S = some (d', S') → ∃ G', Fzd T H G G' S' ∧ Rep T G' d' v ∧ nrD d' = true
  | .ref k, d', G, S, S', v, hd, r, e => hf k G S d' S' v hd r (by simpa only [mapR] using e)
  | .non, d', G, S, S', v, hd, r, e => by simp only [mapR] at e; cases e; exact ⟨G, ⟨.refl, rfl, hd⟩, r, rfl⟩
  | .bl _, d', G, S, S', v, hd, r, e => by simp only [mapR] at e; cases e; exact ⟨G, ⟨.refl, rfl, hd⟩, r, rfl⟩
  | .int _, d', G, S, S', v, hd, r, e => by simp only [mapR] at e; cases e; exact ⟨G, ⟨.refl, rfl, hd⟩, r, rfl⟩
  | .str _, d', G, S, S', v, hd, r, e => by simp only [mapR] at e; cases e; exact ⟨G, ⟨.refl, rfl, hd⟩, r, rfl⟩
  | .scr _, d', G, S, S', v, hd, r, e => by simp only [mapR] at e; cases e; exact ⟨G, ⟨.refl, rfl, hd⟩, r, rfl⟩
  | .lst xs, d', G, S, S', v, hd, r, e => by
    simp only [mapR] at e
    obtain ⟨⟨ys, S1⟩, e1, e2⟩ := o1_some e
    cases e2
    simp only [Rep] at r
    obtain ⟨a, vs, rfl, q, z⟩ := r
    obtain ⟨G', h1, h2, h3⟩ := mapRs_ok hf hd z e1
    exact ⟨G', h1, by simp only [Rep]; exact ⟨a, vs, rfl, h1.st.le.H _ _ q, h2⟩, by simpa only [nrD] using h3⟩
  | .tup xs, d', G, S, S', v, hd, r, e => by
    simp only [mapR] at e
    obtain ⟨⟨ys, S1⟩, e1, e2⟩ := o1_some e
    cases e2
    simp only [Rep] at r
    obtain ⟨a, vs, rfl, q, z⟩ := r
    obtain ⟨G', h1, h2, h3⟩ := mapRs_ok hf hd z e1
    exact ⟨G', h1, by simp only [Rep]; exact ⟨a, vs, rfl, sqT_le h1.st.le.H q, h2⟩, by simpa only [nrD] using h3⟩
  | .dct ks xs, d', G, S, S', v, hd, r, e => by
    simp only [mapR] at e
    obtain ⟨⟨ys, S1⟩, e1, e2⟩ := o1_some e
    cases e2
    simp only [Rep] at r
    obtain ⟨a, vs, rfl, q, l, z⟩ := r
    obtain ⟨G', h1, h2, h3⟩ := mapRs_ok hf hd z e1
    exact ⟨G', h1, by simp only [Rep]; exact ⟨a, vs, rfl, h1.st.le.H _ _ q, l, h2⟩, by simpa only [nrD] using h3⟩
  | .obj c xs, d', G, S, S', v, hd, r, e => by
    simp only [mapR] at e
    obtain ⟨⟨ys, S1⟩, e1, e2⟩ := o1_some e
    cases e2
    simp only [Rep] at r
    obtain ⟨a, dx, vs, rfl, q, l, z⟩ := r
    obtain ⟨G', h1, h2, h3⟩ := mapRs_ok hf hd z e1
    exact ⟨G', h1, by simp only [Rep]; exact ⟨a, dx, vs, rfl, h1.st.le.H _ _ q, l, h2⟩, by simpa only [nrD] using h3⟩
theorem mapRs_ok {f : Nat → Fz D} (hf : FzOk T H f) : ∀ {ds ds' : List D} {G : Gh} {S S' : Store} {vs : List V}, Held T G S H → Reps T G ds vs → mapRs f ds S = some (ds', S') → ∃ G', Fzd T H G G' S' ∧ Reps T G' ds' vs ∧ nrDs ds' = true
  | [], ds', G, S, S', vs, hd, r, e => by simp only [mapRs] at e; cases e; exact ⟨G, ⟨.refl, rfl, hd⟩, r, rfl⟩
  | d :: ds, ds', G, S, S', vs, hd, r, e => by
    simp only [mapRs] at e
    obtain ⟨⟨y, S1⟩, e1, e⟩ := o1_some e
    obtain ⟨⟨ys, S2⟩, e2, e3⟩ := o1_some e
    cases e3
    simp only [Reps] at r
    obtain ⟨v, vs', rfl, r1, r2⟩ := r
    obtain ⟨G1, a1, a2, a3⟩ := mapR_ok hf hd r1 e1
    obtain ⟨G2, b1, b2, b3⟩ := mapRs_ok hf a1.hd (r2.le a1.st.le) e2
    exact ⟨G2, a1.trans b1, reps_cons (a2.le b1.st.le) b2, by simp only [nrDs, a3, b3, Bool.and_self]⟩
end
theorem fzN_ok : ∀ n : Nat, FzOk T H (fzN n)
  | 0 => fun k G S d' S' v hd r e => by unfold fzN at e; cases e
  | n + 1 => fun k G S d' S' v hd r e => by
    have ih := fun {ds ds' : List D} {G : Gh} {S S' : Store} {vs : List V} => mapRs_ok (T := T) (H := H) (fzN_ok n) (ds := ds) (ds' := ds') (G := G) (S := S) (S' := S') (vs := vs)
    unfold fzN fzC at e
    simp only [Rep] at r
    obtain ⟨a, rfl, q⟩ := r
    split at e
    · rename_i xs hk
      obtain ⟨⟨ys, S1⟩, e1, e⟩ := o1_some e
      have c := hd.cell k _ a hk q
      simp only [CellRep] at c
      obtain ⟨c0, vs, c1, c2⟩ := c
      obtain ⟨G1, h1, h2, h3⟩ := ih hd c2 e1
      dsimp only at e
      split at e
      · rename_i zs hk1
        cases e
        have q1 : G1.m[k]? = some a := by rw [h1.m]; exact q
        have c' := h1.hd.cell k _ a hk1 q1
        simp only [CellRep] at c'
        obtain ⟨d0, _⟩ := c'
        have l : Le G1 (G1.put a (.lst vs)) := Gh.put_le d0
        obtain ⟨k1, k2⟩ := h1.hd.freeze (c' := .frz ys) q1 d0 c1 (by simp only [CellRep]; exact ⟨vs, upd_same, h2.le l⟩)
        refine ⟨_, h1.trans ⟨k2, rfl, k1⟩, ?_, by simpa only [nrD] using h3⟩
        simp only [Rep]
        exact ⟨a, vs, rfl, upd_same, h2.le l⟩
      · cases e
    · rename_i xs hk
      obtain ⟨⟨ys, S1⟩, e1, e⟩ := o1_some e
      cases e
      have c := hd.cell k _ a hk q
      simp only [CellRep] at c
      obtain ⟨vs, c1, c2⟩ := c
      obtain ⟨G1, h1, h2, h3⟩ := ih hd c2 e1
      refine ⟨G1, h1, ?_, by simpa only [nrD] using h3⟩
      simp only [Rep]
      exact ⟨a, vs, rfl, h1.st.le.H _ _ c1, h2⟩
    · rename_i cc xs hk
      obtain ⟨⟨ys, S1⟩, e1, e⟩ := o1_some e
      have c := hd.cell k _ a hk q
      simp only [CellRep] at c
      obtain ⟨c0, dx, vs, c1, c3, c2⟩ := c
      obtain ⟨G1, h1, h2, h3⟩ := ih hd c2 e1
      dsimp only at e
      split at e
      · rename_i cc' zs hk1
        split at e
        · rename_i ecc
          subst ecc
          cases e
          have q1 : G1.m[k]? = some a := by rw [h1.m]; exact q
          have c' := h1.hd.cell k _ a hk1 q1
          simp only [CellRep] at c'
          obtain ⟨d0, _⟩ := c'
          have l : Le G1 (G1.put a (.ins (T.cl cc') dx ((T.fn cc').zip vs))) := Gh.put_le d0
          obtain ⟨k1, k2⟩ := h1.hd.freeze (c' := .fro cc' ys) q1 d0 c1 (by simp only [CellRep]; exact ⟨dx, vs, upd_same, c3, h2.le l⟩)
          refine ⟨_, h1.trans ⟨k2, rfl, k1⟩, ?_, by simpa only [nrD] using h3⟩
          simp only [Rep]
          exact ⟨a, dx, vs, rfl, upd_same, c3, h2.le l⟩
        · cases e
      · cases e
    · rename_i cc xs hk
      obtain ⟨⟨ys, S1⟩, e1, e⟩ := o1_some e
      cases e
      have c := hd.cell k _ a hk q
      simp only [CellRep] at c
      obtain ⟨dx, vs, c1, c3, c2⟩ := c
      obtain ⟨G1, h1, h2, h3⟩ := ih hd c2 e1
      refine ⟨G1, h1, ?_, by simpa only [nrD] using h3⟩
      simp only [Rep]
      exact ⟨a, dx, vs, rfl, h1.st.le.H _ _ c1, c3, h2⟩
    · cases e
theorem fzD_ok {d d' : D} {G : Gh} {S S' : Store} {v : V} (hd : Held T G S H) (r : Rep T G d v) (e : fzD d S = some (d', S')) : ∃ G', Fzd T H G G' S' ∧ Rep T G' d' v ∧ nrD d' = true := mapR_ok (fzN_ok 8) hd r e
theorem fzDs_ok {ds ds' : List D} {G : Gh} {S S' : Store} {vs : List V} (hd : Held T G S H) (r : Reps T G ds vs) (e : fzDs ds S = some (ds', S')) : ∃ G', Fzd T H G G' S' ∧ Reps T G' ds' vs ∧ nrDs ds' = true := mapRs_ok (fzN_ok 8) hd r e
end

/-- a cell's inside is frozen, not the cell -/
def cfz (k : Nat) : Fz Unit := fun S => match S[k]? with
  | some (.lst xs) => o1 (fzDs xs S) fun r => match r.2[k]? with
    | some (.lst _) => some ((), r.2.set k (.lst r.1))
    | _ => none
  | some (.ins c xs) => o1 (fzDs xs S) fun r => match r.2[k]? with
    | some (.ins c' _) => if c' = c then some ((), r.2.set k (.ins c r.1)) else none
    | _ => none
  | _ => none
theorem cfz_ok {T : Kit} {H : Hp} {k : Nat} {G : Gh} {S S' : Store} (hd : Held T G S H) (e : cfz k S = some ((), S')) : ∃ G', Fzd T H G G' S' ∧ ∃ c, S'[k]? = some c ∧ nrC c = true := by
  have same : ∀ {G1 : Gh} {S1 : Store} {c c' : Cell} {a : Addr}, Held T G1 S1 H → S1[k]? = some c → G1.m[k]? = some a → CellRep T G1 a H c' → Held T G1 (S1.set k c') H := fun {G1 S1 c c' a} h hk hm hc => by
    refine ⟨h.ext, by rw [List.length_set]; exact h.len, h.nd, fun j d b e1 e2 => ?_⟩
    by_cases hj : j = k
    · subst hj
      rw [List.getElem?_set_self (List.getElem?_eq_some_iff.mp hk).1] at e1
      rw [hm] at e2
      cases e1; cases e2
      exact hc
    · rw [List.getElem?_set_ne (Ne.symm hj)] at e1
      exact h.cell j d b e1 e2
  unfold cfz at e
  split at e
  · rename_i xs hk
    obtain ⟨a, q⟩ := hd.inm (List.getElem?_eq_some_iff.mp hk).1
    obtain ⟨⟨ys, S1⟩, e1, e⟩ := o1_some e
    have c := hd.cell k _ a hk q
    simp only [CellRep] at c
    obtain ⟨c0, vs, c1, c2⟩ := c
    obtain ⟨G1, h1, h2, h3⟩ := fzDs_ok hd c2 e1
    dsimp only at e
    split at e
    · rename_i zs hk1
      cases e
      have q1 : G1.m[k]? = some a := by rw [h1.m]; exact q
      have c' := h1.hd.cell k _ a hk1 q1
      simp only [CellRep] at c'
      refine ⟨G1, ⟨h1.st, h1.m, same h1.hd hk1 q1 (by simp only [CellRep]; exact ⟨c'.1, vs, c1, h2⟩)⟩, .lst ys, List.getElem?_set_self (List.getElem?_eq_some_iff.mp hk1).1, by simpa only [nrC] using h3⟩
    · cases e
  · rename_i cc xs hk
    obtain ⟨a, q⟩ := hd.inm (List.getElem?_eq_some_iff.mp hk).1
    obtain ⟨⟨ys, S1⟩, e1, e⟩ := o1_some e
    have c := hd.cell k _ a hk q
    simp only [CellRep] at c
    obtain ⟨c0, dx, vs, c1, c3, c2⟩ := c
    obtain ⟨G1, h1, h2, h3⟩ := fzDs_ok hd c2 e1
    dsimp only at e
    split at e
    · rename_i cc' zs hk1
      split at e
      · rename_i ecc
        subst ecc
        cases e
        have q1 : G1.m[k]? = some a := by rw [h1.m]; exact q
        have c' := h1.hd.cell k _ a hk1 q1
        simp only [CellRep] at c'
        refine ⟨G1, ⟨h1.st, h1.m, same h1.hd hk1 q1 (by simp only [CellRep]; exact ⟨c'.1, dx, vs, c1, c3, h2⟩)⟩, .ins cc' ys, List.getElem?_set_self (List.getElem?_eq_some_iff.mp hk1).1, by simpa only [nrC] using h3⟩
      · cases e
    · cases e
  · cases e
end Ev

set_option Elab.async false
set_option linter.all false
set_option maxRecDepth 100000
set_option maxHeartbeats 4000000
/-! EvN: a def that sees only the cells it is given (callIO). -/
namespace Ev
open PySem PySem.Spec PyProof.Rows L2

def okC : Cell → Bool
  | .lst xs => nrDs xs
  | .ins _ xs => nrDs xs
  | _ => false
theorem okC_nr {c : Cell} (h : okC c = true) : nrC c = true := by
  cases c <;> simp only [okC, nrC] at h ⊢ <;> first | exact h | cases h
/-- the arguments, frozen, but for the cells that are handed in: these are numbered anew -/
def prep : List Bool → List D → List Nat → Store → Option (List D × List Nat × Store)
  | _, [], ks, S => some ([], ks, S)
  | io, d :: ds, ks, S => match io.headD false, d with
    | true, .ref k => if k ∈ ks then none else o1 (cfz k S) fun r => o1 (prep io.tail ds (ks ++ [k]) r.2) fun q => some (.ref ks.length :: q.1, q.2)
    | _, d => o1 (fzD d S) fun r => o1 (prep io.tail ds ks r.2) fun q => some (r.1 :: q.1, q.2)
def subS : List Nat → Store → Option Store
  | [], _ => some []
  | k :: ks, S => o1 S[k]? fun c => gd (okC c) (o1 (subS ks S) fun S' => some (c :: S'))
def cfzAll : Nat → Fz Unit
  | 0 => fun S => some ((), S)
  | n + 1 => fun S => o1 (cfzAll n S) fun r => cfz n r.2
def backW : List Nat → Nat → Store → Store → Option Store
  | [], _, _, S1 => some S1
  | k :: ks, j, S', S1 => o1 S'[j]? fun c => gd (okC c) (backW ks (j + 1) S' (S1.set k c))
def ioEnd (ks : List Nat) (S1 S' : Store) : Option (Store × Store) := o1 (cfzAll ks.length S') fun r => o1 (backW ks 0 r.2 S1) fun S3 => some (S3, r.2)
def orStuck {α β : Type} (x : Option α) (k : α → R β) : R β := match x with
  | some a => k a
  | none => .stuck
def callIO (io : List Bool) (mr : Bool) (sem : List D → M D) : List D → M D := fun ds S =>
  orStuck (prep io ds [] S) fun p => orStuck (subS p.2.1 p.2.2) fun S0 => match sem p.1 S0 with
    | .stuck => .stuck
    | .exc c fs S' => orStuck (fzDs fs S') fun q => orStuck (ioEnd p.2.1 p.2.2 q.2) fun e => .exc c q.1 e.1
    | .ok d S' => match mr, d with
      | true, .ref j => if j < p.2.1.length then .stuck else orStuck (cfz j S') fun q => orStuck (ioEnd p.2.1 p.2.2 q.2) fun e => orStuck e.2[j]? fun c => if okC c = true then .ok (.ref e.1.length) (e.1 ++ [c]) else .stuck
      | _, d => orStuck (fzD d S') fun q => orStuck (ioEnd p.2.1 p.2.2 q.2) fun e => .ok q.1 e.1

def addrs (G : Gh) (ks : List Nat) : List Addr := ks.map fun k => G.m.getD k 0
section
variable {T : Kit} {H : Hp}
theorem addrs_get {G : Gh} {ks : List Nat} {i k : Nat} {a : Addr} (h : ks[i]? = some k) (hm : G.m[k]? = some a) : (addrs G ks)[i]? = some a := by
  unfold addrs
  rw [List.getElem?_map, h]
  simp [List.getD, hm]
theorem prep_ok : ∀ {io : List Bool} {ds as : List D} {ks ks' : List Nat} {G : Gh} {S S1 : Store} {vs : List V}, Held T G S H → Reps T G ds vs → prep io ds ks S = some (as, ks', S1) → ks.Nodup → (∀ k ∈ ks, k < S.length) →
    ∃ G1, Fzd T H G G1 S1 ∧ (∃ t, ks' = ks ++ t) ∧ ks'.Nodup ∧ (∀ k ∈ ks', k < S1.length) ∧ Reps T ⟨G1.H, addrs G1 ks'⟩ as vs
  | io, [], as, ks, ks', G, S, S1, vs, hd, r, e, nd, lt => by
    unfold prep at e
    cases e
    simp only [Reps] at r
    subst r
    exact ⟨G, ⟨.refl, rfl, hd⟩, ⟨[], by simp⟩, nd, lt, reps_nil⟩
  | io, d :: ds, as, ks, ks', G, S, S1, vs, hd, r, e, nd, lt => by
    simp only [Reps] at r
    obtain ⟨v, vs', rfl, r1, r2⟩ := r
    unfold prep at e
    split at e
    · rename_i k hio
      split at e
      · cases e
      · rename_i hk
        obtain ⟨⟨u, Sa⟩, e1, e⟩ := o1_some e
        obtain ⟨⟨bs, kk, Sb⟩, e2, e3⟩ := o1_some e
        cases e3
        simp only [Rep] at r1
        obtain ⟨a, rfl, q⟩ := r1
        obtain ⟨Ga, h1, c, h2, h3⟩ := cfz_ok hd e1
        have lenS : Sa.length = S.length := by rw [← hd.len, ← h1.hd.len, h1.m]
        obtain ⟨Gb, h4, ⟨t, rfl⟩, h5, h6, h7⟩ := prep_ok h1.hd (r2.le h1.st.le) e2 (by
          refine List.nodup_append.mpr ⟨nd, by simp, fun x hx y hy => ?_⟩
          simp at hy
          subst hy
          exact fun z => hk (z ▸ hx)) (fun j hj => by
          rw [List.mem_append, List.mem_singleton] at hj
          rw [lenS]
          rcases hj with hj | rfl
          · exact lt j hj
          · rw [← hd.len]; exact (List.getElem?_eq_some_iff.mp q).1)
        refine ⟨Gb, h1.trans h4, ⟨k :: t, by simp⟩, h5, h6, reps_cons ?_ h7⟩
        simp only [Rep]
        refine ⟨a, rfl, addrs_get (k := k) ?_ ?_⟩
        · rw [List.append_assoc, List.getElem?_append_right (Nat.le_refl _), Nat.sub_self]; rfl
        · rw [h4.m, h1.m]; exact q
    · obtain ⟨⟨d', Sa⟩, e1, e⟩ := o1_some e
      obtain ⟨⟨bs, kk, Sb⟩, e2, e3⟩ := o1_some e
      cases e3
      obtain ⟨Ga, h1, h2, h3⟩ := fzD_ok hd r1 e1
      have lenS : Sa.length = S.length := by rw [← hd.len, ← h1.hd.len, h1.m]
      obtain ⟨Gb, h4, t, h5, h6, h7⟩ := prep_ok h1.hd (r2.le h1.st.le) e2 nd (fun j hj => by rw [lenS]; exact lt j hj)
      exact ⟨Gb, h1.trans h4, t, h5, h6, reps_cons (rep_m (Hg := Gb.H) (m := Gb.m) h3 (h2.le h4.st.le)) h7⟩
theorem subS_get : ∀ {ks : List Nat} {S S0 : Store}, subS ks S = some S0 → S0.length = ks.length ∧ ∀ (i k : Nat), ks[i]? = some k → ∃ c, S[k]? = some c ∧ okC c = true ∧ S0[i]? = some c
  | [], S, S0, h => by cases h; exact ⟨rfl, fun i k e => by simp at e⟩
  | k :: ks, S, S0, h => by
    obtain ⟨c, h1, h⟩ := o1_some h
    obtain ⟨h2, h⟩ := gd_some h
    obtain ⟨S', h3, h4⟩ := o1_some h
    cases h4
    obtain ⟨l, q⟩ := subS_get h3
    refine ⟨by simp [l], fun i j e => ?_⟩
    cases i with
    | zero => simp at e; subst e; exact ⟨c, h1, h2, rfl⟩
    | succ i => simpa using q i j (by simpa using e)
theorem held_sub {G : Gh} {S S0 : Store} {ks : List Nat} (hd : Held T G S H) (nd : ks.Nodup) (h : subS ks S = some S0) : Held T ⟨G.H, addrs G ks⟩ S0 H := by
  obtain ⟨l, q⟩ := subS_get h
  have get : ∀ {i : Nat} {a : Addr}, (addrs G ks)[i]? = some a → ∃ k, ks[i]? = some k ∧ G.m[k]? = some a := fun {i a} e => by
    have hi : i < ks.length := by
      have := (List.getElem?_eq_some_iff.mp e).1
      unfold addrs at this
      simpa using this
    obtain ⟨c, k1, k2, k3⟩ := q i ks[i] (List.getElem?_eq_getElem hi)
    obtain ⟨b, hb⟩ := hd.inm (List.getElem?_eq_some_iff.mp k1).1
    have := addrs_get (List.getElem?_eq_getElem hi) hb
    rw [e] at this
    cases this
    exact ⟨_, List.getElem?_eq_getElem hi, hb⟩
  refine ⟨hd.ext, by rw [l]; unfold addrs; simp, ?_, fun i c a e1 e2 => ?_⟩
  · show List.Pairwise (· ≠ ·) (addrs G ks)
    rw [List.pairwise_iff_getElem]
    intro i j hi hj hij e
    have hb : (addrs G ks)[j]? = some (addrs G ks)[j] := List.getElem?_eq_getElem hj
    have ha : (addrs G ks)[i]? = some (addrs G ks)[j] := by rw [List.getElem?_eq_getElem hi, e]
    obtain ⟨k1, a1, a2⟩ := get ha
    obtain ⟨k2, b1, b2⟩ := get hb
    have := nodup_get hd.nd a2 b2
    subst this
    have := nodup_get nd a1 b1
    omega
  · obtain ⟨k, k1, k2⟩ := get e2
    obtain ⟨c', c1, c2, c3⟩ := q i k k1
    rw [e1] at c3
    cases c3
    exact cellRep_m (m := G.m) (okC_nr c2) (hd.cell k c a c1 k2)
theorem cfzAll_ok : ∀ {n : Nat} {G : Gh} {S S' : Store}, Held T G S H → cfzAll n S = some ((), S') → ∃ G', Fzd T H G G' S'
  | 0, G, S, S', hd, e => by unfold cfzAll at e; cases e; exact ⟨G, .refl, rfl, hd⟩
  | n + 1, G, S, S', hd, e => by
    unfold cfzAll at e
    obtain ⟨⟨u, S1⟩, e1, e⟩ := o1_some e
    obtain ⟨G1, h1⟩ := cfzAll_ok hd e1
    obtain ⟨G2, h2, _⟩ := cfz_ok h1.hd e
    exact ⟨G2, h1.trans h2⟩
theorem backW_get : ∀ {ks : List Nat} {j : Nat} {S' S1 S5 : Store}, backW ks j S' S1 = some S5 → ks.Nodup → S5.length = S1.length ∧ (∀ (k : Nat), k ∉ ks → S5[k]? = S1[k]?) ∧ ∀ (i k : Nat), ks[i]? = some k → k < S1.length → ∃ c, S'[j + i]? = some c ∧ okC c = true ∧ S5[k]? = some c
  | [], j, S', S1, S5, h, _ => by cases h; exact ⟨rfl, fun _ _ => rfl, fun i k e => by simp at e⟩
  | k :: ks, j, S', S1, S5, h, nd => by
    obtain ⟨c, h1, h⟩ := o1_some h
    obtain ⟨h2, h⟩ := gd_some h
    obtain ⟨n1, n2⟩ := List.nodup_cons.mp nd
    obtain ⟨l, q1, q2⟩ := backW_get h n2
    rw [List.length_set] at l
    refine ⟨l, fun k' hk' => ?_, fun i k' e hl => ?_⟩
    · rw [q1 k' (fun z => hk' (List.mem_cons_of_mem _ z)), List.getElem?_set_ne (fun z => hk' (by subst z; exact List.mem_cons_self))]
    · cases i with
      | zero =>
        simp at e
        subst e
        exact ⟨c, h1, h2, by rw [q1 _ n1, List.getElem?_set_self hl]⟩
      | succ i =>
        obtain ⟨c', z1, z2, z3⟩ := q2 i k' (by simpa using e) (by rw [List.length_set]; exact hl)
        exact ⟨c', by rw [show j + (i + 1) = j + 1 + i by omega]; exact z1, z2, z3⟩
/-- what the callee leaves, seen by the caller -/
theorem io_back {G1 G' G2 : Gh} {S1 S0 S4 S5 : Store} {H' : Hp} {ks : List Nat} (hd : Held T G1 S1 H) (nd : ks.Nodup) (lt : ∀ k ∈ ks, k < S1.length) (hs : subS ks S1 = some S0) (st : Step ⟨G1.H, addrs G1 ks⟩ H G' H') (fz : Fzd T H' G' G2 S4) (hb : backW ks 0 S4 S1 = some S5) :
    Held T ⟨G2.H, G1.m⟩ S5 H' ∧ Step G1 H ⟨G2.H, G1.m⟩ H' ∧ ∀ a, a ∈ G1.m → a ∈ G2.m → a ∈ addrs G1 ks := by
  obtain ⟨bl, b1, b2⟩ := backW_get hb nd
  have sub : ∀ a, a ∈ addrs G1 ks → a ∈ G1.m := fun a ha => by
    unfold addrs at ha
    obtain ⟨k, hk, rfl⟩ := List.mem_map.mp ha
    have := lt k hk
    rw [← hd.len] at this
    rw [List.getD_eq_getElem?_getD, List.getElem?_eq_getElem this]
    exact List.getElem_mem _
  have le : Le G1 ⟨G2.H, G1.m⟩ := ⟨fun a o e => fz.st.le.H a o (st.le.H a o e), [], by simp⟩
  have fr : ∀ a o, H a = some o → a ∉ addrs G1 ks → H' a = some o ∧ a ∉ G2.m ∧ (G1.H a = none → G2.H a = none) := fun a o e n => by
    obtain ⟨x1, x2, x3⟩ := st.fr a o e n
    obtain ⟨y1, y2, y3⟩ := fz.st.fr a o x1 x2
    exact ⟨y1, y2, fun z => y3 (x3 z)⟩
  refine ⟨⟨fz.hd.ext, by rw [bl]; exact hd.len, hd.nd, fun k c a e1 e2 => ?_⟩, ⟨le, fun a o e n => ?_⟩, fun a ha hb' => ?_⟩
  · have e2' : G1.m[k]? = some a := e2
    by_cases hk : k ∈ ks
    · obtain ⟨i, hi⟩ := List.getElem?_of_mem hk
      obtain ⟨c', z1, z2, z3⟩ := b2 i k hi (lt k hk)
      rw [e1] at z3
      cases z3
      rw [Nat.zero_add] at z1
      have ha : G2.m[i]? = some a := by
        rw [fz.m]
        exact st.le.mget (addrs_get hi e2')
      exact cellRep_m (m := G2.m) (okC_nr z2) (fz.hd.cell i c a z1 ha)
    · rw [b1 k hk] at e1
      have x := hd.cell k c a e1 e2'
      obtain ⟨o, ho⟩ := x.there hd
      have na : a ∉ addrs G1 ks := fun z => by
        unfold addrs at z
        obtain ⟨k', hk', e⟩ := List.mem_map.mp z
        have := lt k' hk'
        rw [← hd.len] at this
        rw [List.getD_eq_getElem?_getD, List.getElem?_eq_getElem this] at e
        have e3 : G1.m[k']? = some a := by rw [List.getElem?_eq_getElem this]; exact congrArg some e
        exact hk ((nodup_get hd.nd e2' e3) ▸ hk')
      obtain ⟨f1, f2, f3⟩ := fr a o ho na
      exact x.le le f3 fun _ => f1.trans ho.symm
  · obtain ⟨f1, f2, f3⟩ := fr a o e (fun z => n (sub a z))
    exact ⟨f1, n, f3⟩
  · by_cases h : a ∈ addrs G1 ks
    · exact h
    · obtain ⟨k, hk⟩ := List.getElem?_of_mem ha
      have hl : k < S1.length := by rw [← hd.len]; exact (List.getElem?_eq_some_iff.mp hk).1
      obtain ⟨o, ho⟩ := (hd.cell k _ a (List.getElem?_eq_getElem hl) hk).there hd
      exact absurd hb' (fr a o ho h).2.1
theorem orStuck_pst {α β γ : Type} {rel : Gh → α → β → Prop} {G : Gh} {W : XK} {x : Option γ} {k : γ → R α} {Q : Gh → Store → α → β → Hp → Prop} (h : Pst T rel G H W (orStuck x k) Q) : ∃ a, x = some a ∧ Pst T rel G H W (k a) Q := by
  cases x with
  | none => exact h.elim
  | some a => exact ⟨a, rfl, h⟩
theorem excRep_m {Hg : Hp} {m m' : List Addr} {c : Nat} {fs : List D} {cls : Value} {dx : Option Addr} (n : nrDs fs = true) (h : ExcRep T ⟨Hg, m⟩ c fs cls dx) : ExcRep T ⟨Hg, m'⟩ c fs cls dx := by
  obtain ⟨h1, h2⟩ := h
  refine ⟨h1, ?_⟩
  rcases h2 with h2 | ⟨h3, a, vs, h4, h5, h6, h7⟩
  · exact .inl h2
  · exact .inr ⟨h3, a, vs, h4, h5, h6, reps_m n h7⟩
theorem io_ok {io : List Bool} {mr : Bool} {sem : List D → M D} {vs : List V} {Q : VK} {E : XK} (h : spOf T (callIO io mr sem) vs H Q E) : spOf T sem vs H Q E := by
  obtain ⟨G, S, ds, hd, hr, p⟩ := h
  unfold callIO at p
  obtain ⟨⟨as, ks, S1⟩, e1, p⟩ := orStuck_pst p
  obtain ⟨S0, e2, p⟩ := orStuck_pst p
  dsimp only at e2 p
  obtain ⟨G1, h1, -, nd, lt, ra⟩ := prep_ok hd hr e1 List.nodup_nil (fun k hk => by cases hk)
  refine ⟨⟨G1.H, addrs G1 ks⟩, S0, as, held_sub h1.hd nd e2, ra, ?_⟩
  cases e3 : sem as S0 with
  | stuck => rw [e3] at p; exact p.elim
  | exc c fs S' =>
    rw [e3] at p
    obtain ⟨⟨fs', S2⟩, e4, p2⟩ := orStuck_pst p
    obtain ⟨⟨S3, S4⟩, e5, p3⟩ := orStuck_pst p2
    clear p p2
    intro G' H' cls dx st hd' x
    obtain ⟨⟨u, S4'⟩, e6, e7⟩ := o1_some e5
    obtain ⟨S3', e8, e9⟩ := o1_some e7
    cases e9
    dsimp only at e6 e8 p3
    clear e5 e7
    obtain ⟨x1, x2⟩ := x
    rcases x2 with ⟨rfl, rfl⟩ | ⟨hne, a, ws, rfl, k1, k2, k3⟩
    · have e4' : fs' = [] ∧ S2 = S' := by
        simp only [fzDs, mapRs] at e4
        cases e4
        exact ⟨rfl, rfl⟩
      obtain ⟨rfl, rfl⟩ := e4'
      obtain ⟨G3, h3⟩ := cfzAll_ok hd' e6
      obtain ⟨b1, b2, _⟩ := io_back h1.hd nd lt e2 st h3 e8
      exact p3 _ _ _ _ (h1.st.trans b2) b1 ⟨x1, .inl ⟨rfl, rfl⟩⟩
    · obtain ⟨G2, h2, h4, h5⟩ := fzDs_ok hd' k3 e4
      obtain ⟨G3, h3⟩ := cfzAll_ok h2.hd e6
      obtain ⟨b1, b2, _⟩ := io_back h1.hd nd lt e2 st (h2.trans h3) e8
      refine p3 _ _ _ _ (h1.st.trans b2) b1 ⟨x1, .inr ⟨fun z => ?_, a, ws, rfl, (h2.trans h3).st.le.H _ _ k1, k2, reps_m (m := G3.m) h5 (h4.le h3.st.le)⟩⟩
      have l1 := h4.len
      have l2 := k3.len
      rw [z] at l1
      apply hne
      apply List.eq_nil_of_length_eq_zero
      rw [l2, ← l1]; rfl
  | ok d S' =>
    rw [e3] at p
    have gen : Pst T (Rep T) G H E (orStuck (fzD d S') fun q => orStuck (ioEnd ks S1 q.2) fun e => .ok q.1 e.1) (fun _ _ _ v H' => Q v H') → PV T ⟨G1.H, addrs G1 ks⟩ H E (.ok d S') Q := fun p => by
      obtain ⟨⟨d', S2⟩, e4, p⟩ := orStuck_pst p
      obtain ⟨⟨S3, S4⟩, e5, p⟩ := orStuck_pst p
      intro G' H' v st hd' r
      obtain ⟨⟨u, S4'⟩, e6, e7⟩ := o1_some e5
      obtain ⟨S3', e8, e9⟩ := o1_some e7
      cases e9
      obtain ⟨G2, h2, h4, h5⟩ := fzD_ok hd' r e4
      obtain ⟨G3, h3⟩ := cfzAll_ok h2.hd e6
      obtain ⟨b1, b2, _⟩ := io_back h1.hd nd lt e2 st (h2.trans h3) e8
      exact p _ _ _ (h1.st.trans b2) b1 (rep_m (m := G3.m) h5 (h4.le h3.st.le))
    dsimp only at p
    cases mr with
    | false => exact gen p
    | true =>
     cases d with
     | ref j =>
      dsimp only at p
      split at p
      · exact p.elim
      · rename_i hj
        obtain ⟨⟨u, S2⟩, e4, p⟩ := orStuck_pst p
        obtain ⟨⟨S3, S4⟩, e5, p⟩ := orStuck_pst p
        obtain ⟨c, e10, p⟩ := orStuck_pst p
        split at p
        · rename_i hc
          intro G' H' v st hd' r
          obtain ⟨⟨u, S4'⟩, e6, e7⟩ := o1_some e5
          obtain ⟨S3', e8, e9⟩ := o1_some e7
          cases e9
          simp only [Rep] at r
          obtain ⟨a, rfl, q⟩ := r
          obtain ⟨G2, h2, _⟩ := cfz_ok hd' e4
          obtain ⟨G3, h3⟩ := cfzAll_ok h2.hd e6
          have h23 := h2.trans h3
          obtain ⟨b1, b2, b3⟩ := io_back h1.hd nd lt e2 st h23 e8
          have q3 : G3.m[j]? = some a := by rw [h23.m]; exact q
          have na : a ∉ G1.m := fun z => by
            have := b3 a z (List.mem_of_getElem? q3)
            obtain ⟨i, hi⟩ := List.getElem?_of_mem this
            have hi' : G'.m[i]? = some a := st.le.mget hi
            have := nodup_get hd'.nd hi' q
            subst this
            have hl := (List.getElem?_eq_some_iff.mp hi).1
            unfold addrs at hl
            rw [List.length_map] at hl
            exact hj hl
          have cr : CellRep T (Gh.push ⟨G3.H, G1.m⟩ a) a H' c := cellRep_m (m := G3.m) (okC_nr hc) (h23.hd.cell j c a e10 q3)
          have a1 := b1.adoptC na cr
          refine p _ _ _ (h1.st.trans ⟨b2.le.trans Gh.push_le, fun b o e n => ?_⟩) a1 ?_
          · obtain ⟨f1, f2, f3⟩ := b2.fr b o e n
            refine ⟨f1, ?_, f3⟩
            show b ∉ G1.m ++ [a]
            rw [List.mem_append, List.mem_singleton]
            rintro (z | z)
            · exact f2 z
            · subst z
              have nb : b ∉ addrs G1 ks := fun z => n (by
                unfold addrs at z
                obtain ⟨k, hk, e⟩ := List.mem_map.mp z
                have := lt k hk
                rw [← h1.hd.len] at this
                rw [List.getD_eq_getElem?_getD, List.getElem?_eq_getElem this] at e
                have e : G1.m[k] = b := e
                exact e ▸ List.getElem_mem _)
              exact (st.fr b o e nb).2.1 (List.mem_of_getElem? q)
          · simp only [Rep]
            refine ⟨a, rfl, ?_⟩
            show (G1.m ++ [a])[S3.length]? = some a
            have : S3.length = G1.m.length := by have := b1.len; exact this.symm
            rw [this, List.getElem?_append_right (Nat.le_refl _), Nat.sub_self]; rfl
        · exact p.elim
     | non => exact gen p
     | bl _ => exact gen p
     | int _ => exact gen p
     | str _ => exact gen p
     | scr _ => exact gen p
     | lst _ => exact gen p
     | tup _ => exact gen p
     | dct _ _ => exact gen p
     | obj _ _ => exact gen p
end
end Ev

set_option Elab.async false
set_option linter.all false
set_option maxRecDepth 100000
set_option maxHeartbeats 4000000
/-! EvO: from a def's text to what it promises; what the top has left. -/
namespace Ev
open PySem PySem.Spec PyProof.Rows L2

/-- a body's end is the call's -/
def bodyS (n len : Nat) (g : MS) : List D → M D := fun ds S => if ds.length = n then match g (ds.map some ++ List.replicate (len - n) none) S with
    | .nx _ S' => .ok .non S'
    | .rt d S' => .ok d S'
    | .exc c fs _ S' => .exc c fs S'
    | _ => .stuck
  else .stuck
/-- a def under its name, as a context sees it -/
structure FnC (P : Program) (w : World) (K : PySem.W.Frag) (mg : Str → Option Value) (base : Heap) (T : Kit) (k : Nat) (x : Str) (sem : List D → M D) : Prop where
  ex : ∃ f fd ps, mg x = some (.ref f) ∧ PySem.W.keepIn K (.ref f) = true ∧ FnOk P w K mg base (L2.CX P w) k f fd ps (spOf T sem) ∧ Binds K fd ps []
/-- .. called by names alone -/
structure FnKC (P : Program) (w : World) (K : PySem.W.Frag) (mg : Str → Option Value) (base : Heap) (T : Kit) (k : Nat) (x : Str) (ks : List Str) (sem : List D → M D) : Prop where
  ex : ∃ f fd ps perm sem0, mg x = some (.ref f) ∧ PySem.W.keepIn K (.ref f) = true ∧ FnOk P w K mg base (L2.CX P w) k f fd ps (spOf T sem0) ∧ KOnly K fd ps ks perm ∧ sem = fun ds => sem0 (byPerm perm ds)
/-- an exception's class under its name -/
structure ExcC (K : PySem.W.Frag) (mg : Str → Option Value) (T : Kit) (x : Str) (c : Nat) : Prop where
  g : mg x = some (.ref (T.cl c))
  ex : PySem.W.excIn K (T.cl c) He.veBase "ValueError.__new__" = true
  kp : PySem.W.keepIn K (.ref (T.cl c)) = true
  sub : PySem.W.subIn K (.ref (T.cl c)) (.type "BaseException") = some true
  ty : PySem.W.typeIn K (.ref (T.cl c)) = some (.type "type")
  db : (x == ("__debug__" : Str)) = false
abbrev blts : List Str := ["len", "abs", "int", "str", "list", "tuple", "sum", "all", "any", "max", "min", "sorted", "range", "zip", "enumerate", "isinstance", "bool", "set"]
/-- what a def's body finds about it -/
structure Around (P : Program) (w : World) (K : PySem.W.Frag) (mg : Str → Option Value) (base : Heap) (T : Kit) (k : Nat) (fns fnsM : List (Str × (List D → M D))) (kfns : List ((Str × List Str) × (List D → M D))) (cons : List (Str × D)) (excs : List (Str × Nat)) : Prop where
  hK : K = T.K
  fns : ∀ x f, fns.lookup x = some f → FnC P w K mg base T k x f
  fnsM : ∀ x f, fnsM.lookup x = some f → FnC P w K mg base T k x f
  kfns : ∀ x ks f, kfns.lookup (x, ks) = some f → FnKC P w K mg base T k x ks f
  cons : ∀ x d, cons.lookup x = some d → ∃ u v, mg x = some u ∧ RelV v u ∧ ∀ G, Rep T G d v
  excs : ∀ x c, excs.lookup x = some c → ExcC K mg T x c
  blt : ∀ x ∈ blts, mg x = none
section
variable {P : Program} {w : World} {K : PySem.W.Frag} {mg : Str → Option Value} {base : Heap} {T : Kit} {k : Nat}
theorem FnC.mono {j k : Nat} {x : Str} {sem : List D → M D} (F : FnC P w K mg base T j x sem) (h : j ≤ k) : FnC P w K mg base T k x sem := by
  obtain ⟨f, fd, ps, h1, h2, h3, h4⟩ := F.ex
  exact ⟨f, fd, ps, h1, h2, h3.mono h, h4⟩
theorem FnC.io {x : Str} {sem : List D → M D} (F : FnC P w K mg base T k x sem) (io : List Bool) (mr : Bool) : FnC P w K mg base T k x (callIO io mr sem) := by
  obtain ⟨f, fd, ps, h1, h2, h3, h4⟩ := F.ex
  exact ⟨f, fd, ps, h1, h2, h3.imp fun _ _ _ _ q => io_ok q, h4⟩
/-- a weaker promise -/
def LeM {α : Type} (a b : R α) : Prop := a = .stuck ∨ a = b
theorem spOf_le {s s' : List D → M D} (h : ∀ ds S, LeM (s' ds S) (s ds S)) {vs : List V} {H : Hp} {Q : VK} {E : XK} (q : spOf T s' vs H Q E) : spOf T s vs H Q E := by
  obtain ⟨G, S, ds, hd, hr, p⟩ := q
  rcases h ds S with e | e
  · rw [e] at p; exact p.elim
  · rw [e] at p; exact ⟨G, S, ds, hd, hr, p⟩
theorem FnC.le {x : Str} {s s' : List D → M D} (F : FnC P w K mg base T k x s) (h : ∀ ds S, LeM (s' ds S) (s ds S)) : FnC P w K mg base T k x s' := by
  obtain ⟨f, fd, ps, h1, h2, h3, h4⟩ := F.ex
  exact ⟨f, fd, ps, h1, h2, h3.imp fun _ _ _ _ q => spOf_le h q, h4⟩
theorem start_rep {G : Gh} {ds : List D} {vs : List V} {N : List Str} (r : Reps T G ds vs) : EnvRep T G (ds.map some ++ List.replicate (N.length - ds.length) none) (L2.start N vs) := by
  have hl := r.len
  refine ⟨by unfold L2.start; simp [hl], fun i d e => ?_⟩
  have hi : i < ds.length := by
    by_cases h : i < ds.length
    · exact h
    · rw [List.getElem?_append_right (by simpa using h), List.getElem?_replicate] at e
      split at e <;> cases e
  rw [List.getElem?_append_left (by simpa using hi), List.getElem?_map] at e
  cases e2 : ds[i]? with
  | none => rw [e2] at e; cases e
  | some d' =>
    rw [e2] at e
    cases e
    obtain ⟨v, h1, h2⟩ := reps_get r e2
    refine ⟨v, ?_, h2⟩
    unfold L2.start
    rw [List.getElem?_append_left (by simpa [← hl] using hi), List.getElem?_map, h1]; rfl
/-- THE RULE for a def -/
theorem fn_data {x qual : Str} {st : Stmt} {f : Addr} {fd : FuncData} {N ps : List Str} {m n : Nat} {g : MS} {C : CC} (F : FunD K x qual (defArgs st) (defBody st) (defScope st) [] [] f fd) (Sc : FnScope N ps (defScope st)) (A : Around P w K mg base T k C.fns C.fnsM C.kfns C.cons C.excs)
    (hN : C.N = N) (hs : C.sc = defScope st) (hg : compSs C m n (defBody st) = some g) : FnOk P w K mg base (L2.CX P w) (k + 1) f fd ps (spOf T (bodyS ps.length N.length g)) := by
  refine F.ok Sc (fun vs H Q E h => ?_) (fun cdv Ar outer s H vs Q E hr h => ?_)
  · obtain ⟨G, S, ds, hd, r, p⟩ := h
    unfold bodyS at p
    split at p
    · rename_i hl
      rw [← r.len]; exact hl
    · exact p.elim
  · have tk : Takes (cxOf (L2.CX P w) P w K mg base N qual (defScope st) f cdv Ar outer s H E) (fun cls d _ H => E cls d H) := takes_of rfl rfl rfl rfl
    have cx : CtxOk C T k (cxOf (L2.CX P w) P w K mg base N qual (defScope st) f cdv Ar outer s H E) (fun cls d _ H => E cls d H) :=
      ⟨hN.symm, hs.symm, fun _ _ => rfl, A.hK, hr, rfl, fun σ => passAt tk σ, hN ▸ Sc.nd, fun x f h => ⟨(A.fns x f h).ex⟩, fun x f h => ⟨(A.fnsM x f h).ex⟩, fun x ks f h => ⟨(A.kfns x ks f h).ex⟩, A.cons, A.blt⟩
    have so : StOk C T k (cxOf (L2.CX P w) P w K mg base N qual (defScope st) f cdv Ar outer s H E) (fun cls d _ H => E cls d H) :=
      ⟨cx, passes_of rfl, fun x c h hg m j p p2 p3 pos => raise_of rfl tk (pmk_own PySem.F.excBase_ValueError (A.excs x c h).ex (A.excs x c h).g (A.excs x c h).kp (raises_own (A.excs x c h).sub (A.excs x c h).ty) hg (A.excs x c h).db)⟩
    refine ⟨_, (compS_ok so n).2 _ _ hg, ?_⟩
    obtain ⟨G, S, ds, hd, r, p⟩ := h
    unfold bodyS at p
    split at p
    · rename_i hl
      refine ⟨G, S, _, start_rep r, hd, ?_⟩
      rw [← hl] at p
      cases e : g (ds.map some ++ List.replicate (N.length - ds.length) none) S with
      | nx env S' =>
        rw [e] at p
        exact fun G' H' σ' st hd' hE => p G' H' .non st hd' (by simp only [Rep])
      | rt d S' =>
        rw [e] at p
        exact fun G' H' v st hd' rv => p G' H' v st hd' rv
      | exc c fs env S' =>
        rw [e] at p
        exact fun G' H' σ' cls dx st hd' hE x => p G' H' cls dx st hd' x
      | bk env S' => rw [e] at p; exact p.elim
      | ct env S' => rw [e] at p; exact p.elim
      | stuck => rw [e] at p; exact p.elim
    · exact p.elim
/-- .. under its name -/
theorem fnC_of {x qual : Str} {st : Stmt} {f : Addr} {fd : FuncData} {N ps : List Str} {m n : Nat} {g : MS} {C : CC} (hm : mg x = some (.ref f)) (F : FunD K x qual (defArgs st) (defBody st) (defScope st) [] [] f fd) (Sc : FnScope N ps (defScope st)) (A : Around P w K mg base T k C.fns C.fnsM C.kfns C.cons C.excs)
    (hb : ∀ (kV doc pm : Value) (an : Option Addr) (cdv ct : Value) (us : List Value), us.length = ps.length → bindArgs (PySem.W.fnOf x qual (defArgs st) (defBody st) (defScope st) .none kV doc pm an cdv ct) ⟨us, []⟩ = pure (ps.zip us))
    (hN : C.N = N) (hs : C.sc = defScope st) (hg : compSs C m n (defBody st) = some g) : FnC P w K mg base T (k + 1) x (bodyS ps.length N.length g) :=
  ⟨f, fd, ps, hm, F.kp, fn_data F Sc A hN hs hg, F.bindsN hb⟩
end
end Ev

set_option Elab.async false
set_option linter.all false
set_option maxRecDepth 100000
set_option maxHeartbeats 4000000
/-! EvP: what the printed texts lean on: lookups, defs by names alone, defs that call themselves, a law's end. -/
namespace Ev
open PySem PySem.Spec PyProof.Rows L2

theorem lk_nil {α β : Type} [BEq α] {Pr : α → β → Prop} : ∀ (x : α) (g : β), ([] : List (α × β)).lookup x = some g → Pr x g := fun _ _ h => by cases h
theorem lk_cons {α β : Type} [BEq α] [LawfulBEq α] {Pr : α → β → Prop} {a : α} {b : β} {l : List (α × β)} (h : Pr a b) (r : ∀ x g, l.lookup x = some g → Pr x g) : ∀ (x : α) (g : β), ((a, b) :: l).lookup x = some g → Pr x g := fun x g e => by
  rw [List.lookup_cons] at e
  cases q : x == a with
  | true =>
    rw [q] at e
    cases e
    rw [eq_of_beq q]
    exact h
  | false =>
    rw [q] at e
    exact r x g e
theorem lk2_nil {α β γ : Type} [BEq α] [BEq β] {Pr : α → β → γ → Prop} : ∀ (x : α) (y : β) (g : γ), ([] : List ((α × β) × γ)).lookup (x, y) = some g → Pr x y g := fun _ _ _ h => by cases h
theorem lk2_cons {α β γ : Type} [BEq α] [LawfulBEq α] [BEq β] [LawfulBEq β] {Pr : α → β → γ → Prop} {a : α} {b : β} {c : γ} {l : List ((α × β) × γ)} (h : Pr a b c) (r : ∀ x y g, l.lookup (x, y) = some g → Pr x y g) :
    ∀ (x : α) (y : β) (g : γ), (((a, b), c) :: l).lookup (x, y) = some g → Pr x y g := fun x y g e => by
  rw [List.lookup_cons] at e
  cases q : (x, y) == (a, b) with
  | true =>
    rw [q] at e
    cases e
    have := eq_of_beq q
    cases this
    exact h
  | false =>
    rw [q] at e
    exact r x y g e
section
variable {P : Program} {w : World} {K : PySem.W.Frag} {mg : Str → Option Value} {base : Heap} {T : Kit} {k : Nat}
theorem FnKC.mono {j k : Nat} {x : Str} {ks : List Str} {sem : List D → M D} (F : FnKC P w K mg base T j x ks sem) (h : j ≤ k) : FnKC P w K mg base T k x ks sem := by
  obtain ⟨f, fd, ps, perm, s0, h1, h2, h3, h4, h5⟩ := F.ex
  exact ⟨f, fd, ps, perm, s0, h1, h2, h3.mono h, h4, h5⟩
/-- .. of a def that is called by names alone -/
theorem fnKC_of {x qual : Str} {st : Stmt} {f : Addr} {fd : FuncData} {N ps ks : List Str} {perm : List Nat} {m n : Nat} {g : MS} {C : CC} (hm : mg x = some (.ref f)) (F : FunD K x qual (defArgs st) (defBody st) (defScope st) [] [] f fd) (Sc : FnScope N ps (defScope st))
    (A : Around P w K mg base T k C.fns C.fnsM C.kfns C.cons C.excs) (io : List Bool) (mr : Bool)
    (hb : ∀ (kV doc pm : Value) (an : Option Addr) (cdv ct : Value) (ws : List Value), ws.length = ks.length → bindArgs (PySem.W.fnOf x qual (defArgs st) (defBody st) (defScope st) .none kV doc pm an cdv ct) ⟨[], ks.zip ws⟩ = pure (ps.zip (byPerm perm ws)))
    (hN : C.N = N) (hs : C.sc = defScope st) (hg : compSs C m n (defBody st) = some g) : FnKC P w K mg base T (k + 1) x ks (fun ds => callIO io mr (bodyS ps.length N.length g) (byPerm perm ds)) := by
  have F1 := fn_data (P := P) (w := w) (mg := mg) (base := base) F Sc A hN hs hg
  refine ⟨f, fd, ps, perm, callIO io mr (bodyS ps.length N.length g), hm, F.kp, F1.imp fun _ _ _ _ q => io_ok q, ⟨fun s ws _ hl => ?_⟩, rfl⟩
  obtain ⟨oc, od, dV, kV, doc, pm, an, cdv, ct, osl, rfl, lk, hcd, hD, hK⟩ := F.ex
  rcases hD with ⟨_, rfl⟩ | ⟨e, _⟩
  · exact .of_eq (hb kV doc pm an cdv ct ws hl)
  · exact absurd rfl e
/-- a def of which nothing is promised -/
theorem fnC_stuck {x qual : Str} {st : Stmt} {f : Addr} {fd : FuncData} {ps : List Str} (hm : mg x = some (.ref f)) (F : FunD K x qual (defArgs st) (defBody st) (defScope st) [] [] f fd)
    (hb : ∀ (kV doc pm : Value) (an : Option Addr) (cdv ct : Value) (us : List Value), us.length = ps.length → bindArgs (PySem.W.fnOf x qual (defArgs st) (defBody st) (defScope st) .none kV doc pm an cdv ct) ⟨us, []⟩ = pure (ps.zip us)) :
    FnC P w K mg base T k x (fun _ _ => .stuck) :=
  ⟨f, fd, ps, hm, F.kp, ⟨fun vs H Q E h => (by obtain ⟨G, S, ds, _, _, p⟩ := h; exact p.elim), fun A outer s H args us vs Q E _ _ _ _ h => (by obtain ⟨G, S, ds, _, _, p⟩ := h; exact p.elim)⟩, F.bindsN hb⟩
end
/-- a law by its sem -/
theorem law_by {l : PySem.W.OpenLaw} {n k : Nat} {q : Program} {loose : List Str} {XP : (Str → Option Value) → Heap → Prop} {YP : World → Heap → Prop} {d : DefRec} (hn : l.most = some n) (hn2 : n ≤ sizeLine) (hdf : d.params.defaults = []) (hr : Room k callerA)
    (F : ∀ (w : World) (mg : Str → Option Value) (fa : Addr) (h : Heap), YP w h → h.Ns mainGlobals mg → mg d.name = some (.ref fa) → ∃ (K : PySem.W.Frag) (T : Kit) (fd : FuncData) (x : Str) (sem : List D → M D), T.K = K ∧ x = "script" ∧
      K.In h ∧ (∀ (s : Shared) (u : Value), BindsTo s fd ⟨[u], []⟩ [("script", u)]) ∧ (∀ ns : List Int, ns.length ≤ n → ∃ S, sem [.scr ns] [] = .ok (.bl true) S) ∧
      ∀ base : Heap, K.In base → base.Ns mainGlobals mg → FnOk l.prog w K mg base (L2.CX l.prog w) k fa fd ["script"] (spOf T sem)) :
    PySem.W.WalkO q loose XP YP l.row.toRowW d [] (fun f vs => PySem.call f vs) := by
  refine Att.attach_call hn hdf fun w s₀ s₁ mg mb fa o pm cd doc a vs ns G Y ho hd hcd hmg hobj hints hlen hg => ?_
  obtain ⟨K, T, fd, x, sem, hK, _, KX, hb, hv, hF⟩ := F w mg fa _ Y G.T.g hmg
  refine law_call KX G.T.g G.T.b G.T.builtins G.T.nolimit hg hobj hints (Nat.le_trans hlen hn2) hr hF hb (fun H _ hS => ?_) fun H e s' h => ?_
  · obtain ⟨S, e⟩ := hv ns hlen
    refine ⟨⟨H, []⟩, [], [.scr ns], ⟨fun _ _ h => h, rfl, List.nodup_nil, fun k c a h => by simp at h⟩, reps_cons ?_ reps_nil, ?_⟩
    · simp only [Rep]
      exact ⟨a, rfl, by rw [hK]; exact hS⟩
    · rw [e]
      intro G' H' v _ _ r
      simpa only [Rep] using r
  · obtain ⟨_, _, _, _, _, _, _, _, _, _, _, _, z⟩ := h
    exact z.elim
end Ev

set_option Elab.async false
set_option linter.all false
set_option maxRecDepth 100000
set_option maxHeartbeats 4000000
/-! EvQ: to evaluate sems: equations for simp, loops, comprehensions, calls. -/
namespace Ev
open PySem PyProof.Rows L2

/-! ### results, one behind another -/
def rb {α β : Type} (r : R α) (k : α → Store → R β) : R β := match r with
  | .ok a S => k a S
  | .exc c fs S => .exc c fs S
  | .stuck => .stuck
@[simp] theorem rb_ok {α β : Type} {a : α} {S : Store} {k : α → Store → R β} : rb (.ok a S) k = k a S := (rfl)
@[simp] theorem rb_exc {α β : Type} {c : Nat} {fs : List D} {S : Store} {k : α → Store → R β} : rb (.exc c fs S) k = .exc c fs S := (rfl)
@[simp] theorem rb_stuck {α β : Type} {k : α → Store → R β} : rb .stuck k = .stuck := (rfl)
theorem rb_if {α β : Type} {c : Prop} [Decidable c] {a b : R α} {k : α → Store → R β} : rb (if c then a else b) k = if c then rb a k else rb b k := by split <;> rfl
@[simp] theorem bnd_ap {α β : Type} {m : M α} {f : α → M β} {S : Store} : bnd m f S = rb (m S) f := (rfl)
@[simp] theorem ret_ap {α : Type} {a : α} {S : Store} : ret a S = .ok a S := (rfl)
@[simp] theorem stk_ap {α : Type} {S : Store} : (stk : M α) S = .stuck := (rfl)
@[simp] theorem eB_ok {α : Type} {a : α} {S : Store} {env : Envd} {k : α → Store → RS} : eB (.ok a S) env k = k a S := (rfl)
@[simp] theorem eB_exc {α : Type} {c : Nat} {fs : List D} {S : Store} {env : Envd} {k : α → Store → RS} : eB (.exc c fs S) env k = .exc c fs env S := (rfl)
@[simp] theorem eB_stuck {α : Type} {env : Envd} {k : α → Store → RS} : eB .stuck env k = .stuck := (rfl)
def rs (r : RS) (g : MS) : RS := match r with
  | .nx env S => g env S
  | r => r
@[simp] theorem rs_nx {env : Envd} {S : Store} {g : MS} : rs (.nx env S) g = g env S := (rfl)
@[simp] theorem rs_rt {d : D} {S : Store} {g : MS} : rs (.rt d S) g = .rt d S := (rfl)
@[simp] theorem rs_bk {env : Envd} {S : Store} {g : MS} : rs (.bk env S) g = .bk env S := (rfl)
@[simp] theorem rs_ct {env : Envd} {S : Store} {g : MS} : rs (.ct env S) g = .ct env S := (rfl)
@[simp] theorem rs_exc {c : Nat} {fs : List D} {env : Envd} {S : Store} {g : MS} : rs (.exc c fs env S) g = .exc c fs env S := (rfl)
@[simp] theorem rs_stuck {g : MS} : rs .stuck g = .stuck := (rfl)
section
variable {env : Envd} {S : Store} {f g : MS} {fa fb : Envd → M D} {d e : D}
@[simp] theorem sSeq_ap : sSeq f g env S = rs (f env S) g := by unfold sSeq rs; cases f env S <;> rfl
@[simp] theorem sPass_ap : sPass env S = .nx env S := (rfl)
@[simp] theorem sBreak_ap : sBreak env S = .bk env S := (rfl)
@[simp] theorem sCont_ap : sCont env S = .ct env S := (rfl)
@[simp] theorem sExpr_ap : sExpr fa env S = eB (fa env S) env fun _ S' => .nx env S' := (rfl)
@[simp] theorem sRet_ap : sRet fa env S = eB (fa env S) env fun d S' => .rt d S' := (rfl)
@[simp] theorem sRetN_ap : sRetN env S = .rt .non S := (rfl)
@[simp] theorem sRaise_ap {c : Nat} : sRaise c env S = .exc c [] env S := (rfl)
@[simp] theorem sIfS_ap {c : Envd → M Bool} : sIfS c f g env S = eB (c env S) env fun b S' => if b = true then f env S' else g env S' := (rfl)
@[simp] theorem sAsg_nm {i : Nat} : sAsg (.nm i) fa env S = eB (fa env S) env fun d S' => .nx (env.set i (some d)) S' := (rfl)
@[simp] theorem sAsg_tp {is : List Nat} : sAsg (.tp is) fa env S = eB (fa env S) env fun d S' => eB ((Tg.tp is).bind d env S') env fun env' S'' => .nx env' S'' := (rfl)
@[simp] theorem sTup_ap {is : List Nat} {fl : Envd → M (List D)} : sTup is fl env S = eB (fl env S) env fun ds S' => if ds.length = is.length then .nx (setAll is ds env) S' else .stuck := (rfl)
@[simp] theorem sSet_ap {fo fi fe : Envd → M D} : sSet fo fi fe env S = eB (fe env S) env fun e S1 => eB (fo env S1) env fun d S2 => eB (fi env S2) env fun i S3 => eB (dSet d i e S3) env fun _ S4 => .nx env S4 := (rfl)
@[simp] theorem sFor_ap {t : Tg} {kill : List Nat} {it : Envd → M (List D)} : sFor t kill it f env S = eB (it env S) env fun items S1 => forL t kill f items env S1 := (rfl)
@[simp] theorem sC_ap : sC d env S = .ok d S := (rfl)
@[simp] theorem s1_ap {α β : Type} {h : Envd → M α} {k : α → M β} : s1 h k env S = rb (h env S) k := (rfl)
@[simp] theorem s2_ap {k : D → D → M D} : s2 fa fb k env S = rb (fa env S) fun d S1 => rb (fb env S1) fun e S2 => k d e S2 := (rfl)
def vr : Option (Option D) → M D
  | some (some d) => ret d
  | _ => stk
@[simp] theorem sVar_ap {i : Nat} : sVar i env S = vr env[i]? S := by
  unfold sVar vr
  cases env[i]? with
  | none => rfl
  | some o => cases o <;> rfl
@[simp] theorem vr_some : vr (some (some d)) S = .ok d S := (rfl)
@[simp] theorem sNil_ap : sNil env S = .ok [] S := (rfl)
@[simp] theorem sCons_ap {fl : Envd → M (List D)} : sCons fa fl env S = rb (fa env S) fun d S1 => rb (fl env S1) fun ds S2 => .ok (d :: ds) S2 := (rfl)
@[simp] theorem sTest_ap : sTest fa env S = rb (fa env S) asB := (rfl)
@[simp] theorem asB_ap {b : Bool} : asB (.bl b) S = .ok b S := (rfl)
@[simp] theorem sAnd_ap {a b : Envd → M Bool} : sAnd a b env S = rb (a env S) fun c S1 => if c = true then b env S1 else .ok false S1 := by
  unfold sAnd; simp only [bnd_ap]; congr; funext c S1; split <;> rfl
@[simp] theorem sOr_ap {a b : Envd → M Bool} : sOr a b env S = rb (a env S) fun c S1 => if c = true then .ok true S1 else b env S1 := by
  unfold sOr; simp only [bnd_ap]; congr; funext c S1; split <;> rfl
@[simp] theorem sNot_ap {a : Envd → M Bool} : sNot a env S = rb (a env S) fun c S1 => .ok (!c) S1 := (rfl)
@[simp] theorem vAnd_ap : vAnd fa fb env S = rb (fa env S) fun x S1 => rb (asB x S1) fun c S2 => if c = true then fb env S2 else .ok (.bl false) S2 := by
  unfold vAnd; simp only [bnd_ap]; congr; funext x S1; congr; funext c S2; split <;> rfl
@[simp] theorem vOr_ap : vOr fa fb env S = rb (fa env S) fun x S1 => rb (asB x S1) fun c S2 => if c = true then .ok (.bl true) S2 else fb env S2 := by
  unfold vOr; simp only [bnd_ap]; congr; funext x S1; congr; funext c S2; split <;> rfl
@[simp] theorem vNot_ap : vNot fa env S = rb (fa env S) fun x S1 => rb (asB x S1) fun c S2 => .ok (.bl (!c)) S2 := (rfl)
@[simp] theorem sIf_ap {α : Type} {c : Envd → M Bool} {h k : Envd → M α} : sIf c h k env S = rb (c env S) fun b S1 => if b = true then h env S1 else k env S1 := by
  unfold sIf; simp only [bnd_ap]; congr; funext b S1; split <;> rfl
@[simp] theorem sChain_ap {k k' : D → D → M D} {fc : Envd → M D} : sChain k k' fa fb fc env S = rb (fa env S) fun x S1 => rb (fb env S1) fun y S2 => rb (k x y S2) fun z S3 => rb (asB z S3) fun c S4 => if c = true then rb (fc env S4) (fun w => k' y w) else .ok (.bl false) S4 := by
  unfold sChain; simp only [bnd_ap]; congr; funext x S1; congr; funext y S2; congr; funext z S3; congr; funext c S4; split <;> rfl
@[simp] theorem sPart_none : sPart none env S = .ok none S := (rfl)
@[simp] theorem sPart_some : sPart (some fa) env S = rb (fa env S) asI := (rfl)
@[simp] theorem asI_int {i : Int} : asI (.int i) S = .ok (some i) S := (rfl)
@[simp] theorem sSl_ap {mu : Bool} {fl fh : Envd → M (Option Int)} : sSl mu fa fl fh env S = rb (fa env S) fun d S1 => rb (fl env S1) fun l S2 => rb (fh env S2) fun h S3 => dSl mu d l h S3 := (rfl)
@[simp] theorem sBM_ap {chk : D → M Unit} {fl : Envd → M (List D)} {k : D → List D → M D} : sBM chk fa fl k env S = rb (fa env S) fun d S1 => rb (chk d S1) fun _ S2 => rb (fl env S2) fun ds S3 => k d ds S3 := (rfl)
def wk (d : D) : M (List D) := fun S => match d with
  | .tup xs => .ok xs S
  | .str z => .ok (chars z) S
  | d => shz d S
@[simp] theorem iSeq_ap : iSeq fa env S = rb (fa env S) wk := (rfl)
def wkc (k : Nat) : Option Cell → M (List D)
  | some (.lst xs) => fun S => .ok xs (S.set k (.frz xs))
  | some (.frz xs) => fun S => .ok xs S
  | _ => stk
@[simp] theorem wk_tup {xs : List D} : wk (.tup xs) S = .ok xs S := (rfl)
@[simp] theorem wk_lst {xs : List D} : wk (.lst xs) S = .ok xs S := (rfl)
@[simp] theorem wk_str {z : Str} : wk (.str z) S = .ok (chars z) S := (rfl)
@[simp] theorem wk_ref {k : Nat} : wk (.ref k) S = wkc k S[k]? S := by
  unfold wk shz
  dsimp only
  unfold wkc
  cases S[k]? with
  | none => rfl
  | some c => cases c <;> rfl
@[simp] theorem wkc_lst {k : Nat} {xs : List D} : wkc k (some (.lst xs)) S = .ok xs (S.set k (.frz xs)) := (rfl)
@[simp] theorem wkc_frz {k : Nat} {xs : List D} : wkc k (some (.frz xs)) S = .ok xs S := (rfl)
def cl : Option Cell → Option (List D)
  | some (.lst xs) => some xs
  | some (.frz xs) => some xs
  | _ => none
@[simp] theorem seqL_ref {k : Nat} : seqL S (.ref k) = cl S[k]? := by
  simp only [seqL]
  unfold cl
  cases S[k]? with
  | none => rfl
  | some c => cases c <;> rfl
@[simp] theorem cl_lst {xs : List D} : cl (some (.lst xs)) = some xs := (rfl)
@[simp] theorem cl_frz {xs : List D} : cl (some (.frz xs)) = some xs := (rfl)
def ato : Option D → M D
  | some d => ret d
  | none => stk
@[simp] theorem ato_some : ato (some d) S = .ok d S := (rfl)
def ixo : Option (List D) → Int → M D
  | some xs, i => ato (L2.atI xs i)
  | none, _ => stk
@[simp] theorem ixo_some {xs : List D} {i : Int} : ixo (some xs) i S = ato (L2.atI xs i) S := (rfl)
@[simp] theorem dIx_tup {xs : List D} {i : Int} : dIx (.tup xs) (.int i) S = ato (L2.atI xs i) S := by
  unfold dIx ato
  dsimp only
  cases L2.atI xs i <;> rfl
@[simp] theorem dIx_lst {xs : List D} {i : Int} : dIx (.lst xs) (.int i) S = ato (L2.atI xs i) S := by
  unfold dIx ato
  simp only [seqL]
  cases L2.atI xs i <;> rfl
@[simp] theorem dIx_ref {k : Nat} {i : Int} : dIx (.ref k) (.int i) S = ixo (cl S[k]?) i S := by
  unfold dIx
  simp only [seqL_ref]
  cases cl S[k]? with
  | none => rfl
  | some xs =>
    simp only [ixo_some]
    unfold ato
    cases L2.atI xs i <;> rfl
def cko : Option (List D) → M Unit
  | some _ => ret ()
  | none => stk
@[simp] theorem cko_some {xs : List D} : cko (some xs) S = .ok () S := (rfl)
@[simp] theorem chkL_ap : chkL d S = cko (seqL S d) S := by
  unfold chkL cko
  cases seqL S d <;> rfl
@[simp] theorem chkS_str {z : Str} : chkS (.str z) S = .ok () S := (rfl)
@[simp] theorem mkchk_append : MK.chk .append = chkL := (rfl)
@[simp] theorem mkchk_extend : MK.chk .extend = chkL := (rfl)
@[simp] theorem mkchk_insert : MK.chk .insert = chkL := (rfl)
@[simp] theorem mkchk_popAt : MK.chk .popAt = chkL := (rfl)
@[simp] theorem mkchk_index : MK.chk .index = chkL := (rfl)
@[simp] theorem mkchk_split : MK.chk .split = chkS := (rfl)
@[simp] theorem mkchk_join : MK.chk .join = chkS := (rfl)
@[simp] theorem mkchk_starts : MK.chk .starts = chkS := (rfl)
def apc (k : Nat) (e : D) : Option Cell → M D
  | some (.lst xs) => fun S => if xs.length < sizeLine then .ok .non (S.set k (.lst (xs ++ [e]))) else .stuck
  | _ => stk
@[simp] theorem mk_append {mu : Bool} {k : Nat} : MK.sem mu .append (.ref k) [e] S = apc k e S[k]? S := by
  show dAppend (.ref k) [e] S = _
  unfold dAppend apc
  dsimp only
  cases S[k]? with
  | none => rfl
  | some c => cases c <;> rfl
theorem apc_ok {k : Nat} {xs : List D} (h : xs.length < sizeLine) : apc k e (some (.lst xs)) S = .ok .non (S.set k (.lst (xs ++ [e]))) := by unfold apc; simp [h]
def stc (k : Nat) (i : Int) (e : D) : Option Cell → M Unit
  | some (.lst xs) => fun S => match L2.ixN xs.length i with
    | some n => .ok () (S.set k (.lst (xs.set n e)))
    | none => .stuck
  | _ => stk
@[simp] theorem dSet_ref {k : Nat} {i : Int} : dSet (.ref k) (.int i) e S = stc k i e S[k]? S := by
  unfold dSet stc
  dsimp only
  cases S[k]? with
  | none => rfl
  | some c => cases c <;> rfl
theorem stc_ok {k n : Nat} {i : Int} {xs : List D} (h : L2.ixN xs.length i = some n) : stc k i e (some (.lst xs)) S = .ok () (S.set k (.lst (xs.set n e))) := by unfold stc; simp [h]
@[simp] theorem bk_len {mu : Bool} : BK.sem mu .len = dLen := (rfl)
@[simp] theorem bk_abs {mu : Bool} : BK.sem mu .abs = dAbs := (rfl)
@[simp] theorem bk_int {mu : Bool} : BK.sem mu .int = dInt := (rfl)
@[simp] theorem bk_str {mu : Bool} : BK.sem mu .str = dStr := (rfl)
@[simp] theorem bk_list {mu : Bool} : BK.sem mu .list = dList mu := (rfl)
@[simp] theorem bk_tuple {mu : Bool} : BK.sem mu .tuple = dTuple := (rfl)
@[simp] theorem bk_sum {mu : Bool} : BK.sem mu .sum = dSum := (rfl)
@[simp] theorem bk_all {mu : Bool} : BK.sem mu .all = dAll false := (rfl)
@[simp] theorem bk_any {mu : Bool} : BK.sem mu .any = dAll true := (rfl)
@[simp] theorem bk_max {mu : Bool} : BK.sem mu .max = dMax := (rfl)
@[simp] theorem bk_min {mu : Bool} : BK.sem mu .min = dMin := (rfl)
@[simp] theorem bk_sorted {mu : Bool} : BK.sem mu .sorted = dSorted mu := (rfl)
def lno : Option (List D) → M D
  | some xs => ret (.int xs.length)
  | none => stk
@[simp] theorem lno_some {xs : List D} : lno (some xs) S = .ok (.int xs.length) S := (rfl)
@[simp] theorem dLen_ref {k : Nat} : dLen [.ref k] S = lno (cl S[k]?) S := by
  unfold dLen
  simp only [seqL_ref]
  cases cl S[k]? <;> rfl
end

/-! ### operators -/
section
variable {S : Store} {mu : Bool} {i j : Int}
@[simp] theorem dAdd_int : dAdd mu (.int i) (.int j) S = .ok (.int (i + j)) S := (rfl)
@[simp] theorem dSub_int : dSub (.int i) (.int j) S = .ok (.int (i - j)) S := (rfl)
theorem dMul_int (h : i.natAbs.log2 + j.natAbs.log2 < 1000000) : dMul mu (.int i) (.int j) S = .ok (.int (i * j)) S := by unfold dMul; simp [h]
theorem dDiv_int (h : 0 < j) (h2 : j.natAbs.log2 < 9000) : dDiv (.int i) (.int j) S = .ok (.int (i / j)) S := by unfold dDiv; simp [h, h2]
theorem dMod_int (h : 0 < j) : dMod (.int i) (.int j) S = .ok (.int (i % j)) S := by unfold dMod; simp [h]
theorem dPow_int (h : 0 ≤ j) (h2 : (Builtin.Int.intBits i : Int) * j ≤ 2 ^ 27) : dPow (.int i) (.int j) S = .ok (.int (i ^ j.toNat)) S := by show (if 0 ≤ j ∧ (Builtin.Int.intBits i : Int) * j ≤ 2 ^ 27 then ret (D.int (i ^ j.toNat)) else stk) S = _; rw [if_pos ⟨h, h2⟩]; rfl
@[simp] theorem dNeg_int : dNeg (.int i) S = .ok (.int (-i)) S := (rfl)
@[simp] theorem dLt_int : cmpSem .Lt (.int i) (.int j) S = .ok (.bl (decide (i < j))) S := (rfl)
@[simp] theorem dLe_int : cmpSem .LtE (.int i) (.int j) S = .ok (.bl (decide (i ≤ j))) S := (rfl)
@[simp] theorem dGt_int : cmpSem .Gt (.int i) (.int j) S = .ok (.bl (decide (j < i))) S := (rfl)
@[simp] theorem dGe_int : cmpSem .GtE (.int i) (.int j) S = .ok (.bl (decide (j ≤ i))) S := (rfl)
@[simp] theorem dIsN_non {neg : Bool} : dIsN neg .non .non S = .ok (.bl (!neg)) S := (rfl)
@[simp] theorem dIsN_int {neg : Bool} : dIsN neg (.int i) .non S = .ok (.bl neg) S := (rfl)
@[simp] theorem dIsN_lst {neg : Bool} {xs : List D} : dIsN neg (.lst xs) .non S = .ok (.bl neg) S := (rfl)
@[simp] theorem dIsN_tup {neg : Bool} {xs : List D} : dIsN neg (.tup xs) .non S = .ok (.bl neg) S := (rfl)
theorem shaped_int : SeqAt.shaped (.int i) = true := rfl
@[simp] theorem dEq_int {neg : Bool} : dEq neg (.int i) (.int j) S = .ok (.bl (if neg = true then !decide (i = j) else decide (i = j))) S := by
  unfold dEq
  simp only [toP_non, toP_bl, toP_int, toP_str, toP_scr, toP_dct, toP_obj, toP_l0, toP_t0, toP_r0, toP_lst, toP_tup, toP_ref]
  rw [if_pos ⟨rfl, rfl⟩]
  have : PyData.eqv (.int i) (.int j) = decide (i = j) := by unfold PyData.eqv; rfl
  rw [this]
@[simp] theorem dEq_bl {neg a b : Bool} : dEq neg (.bl a) (.bl b) S = .ok (.bl (if neg = true then !(a == b) else a == b)) S := by
  unfold dEq
  simp only [toP_non, toP_bl, toP_int, toP_str, toP_scr, toP_dct, toP_obj, toP_l0, toP_t0, toP_r0, toP_lst, toP_tup, toP_ref]
  rw [if_pos ⟨rfl, rfl⟩]
  rfl
@[simp] theorem seqL_lst {xs : List D} : seqL S (.lst xs) = some xs := (rfl)
@[simp] theorem dLen_lst {xs : List D} : dLen [.lst xs] S = .ok (.int xs.length) S := (rfl)
@[simp] theorem dLen_tup {xs : List D} : dLen [.tup xs] S = .ok (.int xs.length) S := (rfl)
@[simp] theorem dInt_int : dInt [.int i] S = .ok (.int i) S := (rfl)
@[simp] theorem dInt_bl {b : Bool} : dInt [.bl b] S = .ok (.int (if b then 1 else 0)) S := (rfl)
@[simp] theorem dAbs_int : dAbs [.int i] S = .ok (.int (i.natAbs : Int)) S := (rfl)
@[simp] theorem dBits_int : dBits (.int i) S = .ok (.int (Builtin.Int.intBits i)) S := (rfl)
@[simp] theorem dMax_two : dMax [.int i, .int j] S = .ok (.int (max i j)) S := (rfl)
@[simp] theorem dMin_two : dMin [.int i, .int j] S = .ok (.int (min i j)) S := (rfl)
@[simp] theorem intsOf_map {xs : List Int} : intsOf (xs.map D.int) = some xs := by
  induction xs with
  | nil => rfl
  | cons x xs ih => simp [intsOf, ih]
@[simp] theorem blsOf_map {xs : List Bool} : blsOf (xs.map D.bl) = some xs := by
  induction xs with
  | nil => rfl
  | cons x xs ih => simp [blsOf, ih]
@[simp] theorem strsOf_map {xs : List Str} : strsOf (xs.map D.str) = some xs := by
  induction xs with
  | nil => rfl
  | cons x xs ih => simp [strsOf, ih]
@[simp] theorem dSum_ints {xs : List Int} : dSum [.lst (xs.map D.int)] S = .ok (.int xs.sum) S := by unfold dSum; simp
@[simp] theorem dAll_bls {any : Bool} {xs : List Bool} : dAll any [.lst (xs.map D.bl)] S = .ok (.bl (if any then xs.any id else xs.all id)) S := by unfold dAll; simp
theorem dMax_ints {xs : List Int} (h : xs ≠ []) : dMax [.lst (xs.map D.int)] S = .ok (.int (lmax xs)) S := by
  cases xs with
  | nil => exact absurd rfl h
  | cons x xs => unfold dMax; simp [intsOf]
theorem dMin_ints {xs : List Int} (h : xs ≠ []) : dMin [.lst (xs.map D.int)] S = .ok (.int (lmin xs)) S := by
  cases xs with
  | nil => exact absurd rfl h
  | cons x xs => unfold dMin; simp [intsOf]
@[simp] theorem newL_f {xs : List D} : newL false xs S = .ok (.lst xs) S := (rfl)
@[simp] theorem newL_t {xs : List D} : newL true xs S = .ok (.ref S.length) (S ++ [.lst xs]) := (rfl)
theorem newLs_ap {xs : List D} (h : xs.length ≤ sizeLine) : newLs mu xs S = newL mu xs S := by unfold newLs; rw [if_pos h]
theorem newTs_ap {xs : List D} (h : xs.length ≤ sizeLine) : newTs xs S = .ok (.tup xs) S := by unfold newTs; rw [if_pos h]; rfl
end
theorem sizeL : sizeLine = 16777216 := by exact sizeLine_eq

/-! ### loops -/
/-- what a turn of a loop leaves -/
def Turn (kill : List Nat) (Out : RS → Prop) (Nx : Envd → Store → Prop) (r : RS) : Prop := match r with
  | .nx e2 S2 => Nx (wipeD e2 kill) S2
  | .ct e2 S2 => Nx (wipeD e2 kill) S2
  | .bk e2 S2 => Out (.nx (wipeD e2 kill) S2)
  | r => Out r
theorem forL_gen {kill : List Nat} {body : MS} {t : Tg} (Out : RS → Prop) : ∀ {items : List D} {env : Envd} {S : Store} (Iv : Nat → Envd → Store → Prop), Iv 0 (wipeD env kill) S →
    (∀ (i : Nat) (d : D) (e : Envd) (S : Store), items[i]? = some d → Iv i e S → ∃ e1, t.bind d e S = .ok e1 S ∧ Turn kill Out (Iv (i + 1)) (body e1 S)) →
    (∀ e S, Iv items.length e S → Out (.nx e S)) → Out (forL t kill body items env S)
  | [], env, S, Iv, h0, hs, he => he _ _ h0
  | d :: ds, env, S, Iv, h0, hs, he => by
    obtain ⟨e1, b1, b2⟩ := hs 0 d _ _ rfl h0
    unfold forL
    rw [b1, eB_ok]
    have step : ∀ e2 S2, Iv 1 (wipeD e2 kill) S2 → Out (forL t kill body ds e2 S2) := fun e2 S2 h1 =>
      forL_gen Out (fun i => Iv (i + 1)) h1 (fun i d' e S hi h => hs (i + 1) d' e S (by simpa using hi) h) fun e S h => he e S h
    cases h : body e1 S with
    | nx e2 S2 => rw [h] at b2; exact step e2 S2 b2
    | ct e2 S2 => rw [h] at b2; exact step e2 S2 b2
    | bk e2 S2 => rw [h] at b2; exact b2
    | rt d' S2 => rw [h] at b2; exact b2
    | exc c fs e2 S2 => rw [h] at b2; exact b2
    | stuck => rw [h] at b2; exact b2
/-- a loop that runs to its end -/
theorem forL_run {kill : List Nat} {body : MS} {t : Tg} {items : List D} {env : Envd} {S : Store} (E : Nat → Envd) (St : Nat → Store) (h0 : wipeD env kill = E 0) (hS : S = St 0)
    (hs : ∀ (i : Nat) (d : D), items[i]? = some d → ∃ e1, t.bind d (E i) (St i) = .ok e1 (St i) ∧ ∃ e2, body e1 (St i) = .nx e2 (St (i + 1)) ∧ wipeD e2 kill = E (i + 1)) : forL t kill body items env S = .nx (E items.length) (St items.length) := by
  refine forL_gen (fun r => r = .nx (E items.length) (St items.length)) (fun i e S => e = E i ∧ S = St i) ⟨h0, hS⟩ (fun i d e S hi ⟨a, b⟩ => ?_) fun e S ⟨a, b⟩ => by rw [a, b]
  subst a; subst b
  obtain ⟨e1, b1, e2, b2, b3⟩ := hs i d hi
  refine ⟨e1, b1, ?_⟩
  rw [b2]
  exact ⟨b3, rfl⟩
theorem whileL_gen {kill : List Nat} {c : Envd → M Bool} {body : MS} (Out : RS → Prop) (Iv : Nat → Envd → Store → Prop) : ∀ {n m : Nat} {env : Envd} {S : Store}, m < n → Iv m (wipeD env kill) S →
    (∀ (m : Nat) (e : Envd) (S : Store), Iv m e S → ∃ b S1, c e S = .ok b S1 ∧ if b = true then Turn kill Out (fun e2 S2 => ∃ m', m' < m ∧ Iv m' e2 S2) (body e S1) else Out (.nx e S1)) → Out (whileL kill c body n env S)
  | 0, m, env, S, hm, _, _ => absurd hm (Nat.not_lt_zero _)
  | n + 1, m, env, S, hm, h0, hs => by
    obtain ⟨b, S1, b1, b2⟩ := hs m _ _ h0
    unfold whileL
    rw [b1, eB_ok]
    cases b with
    | false => simpa using b2
    | true =>
      simp only [if_true] at b2 ⊢
      cases h : body (wipeD env kill) S1 with
      | nx e2 S2 => rw [h] at b2; obtain ⟨m', l, q⟩ := b2; exact whileL_gen Out Iv (by omega) q hs
      | ct e2 S2 => rw [h] at b2; obtain ⟨m', l, q⟩ := b2; exact whileL_gen Out Iv (by omega) q hs
      | bk e2 S2 => rw [h] at b2; exact b2
      | rt d' S2 => rw [h] at b2; exact b2
      | exc c fs e2 S2 => rw [h] at b2; exact b2
      | stuck => rw [h] at b2; exact b2
/-! ### comprehensions -/
theorem compL_gen {t : Tg} {test : Envd → M Bool} {elt : Envd → M D} {env : Envd} (Rl : Nat → D → Prop) : ∀ {items : List D} {S : Store} (Iv : Nat → Store → Prop), Iv 0 S →
    (∀ (i : Nat) (d : D) (S : Store), items[i]? = some d → Iv i S → ∃ e1, t.bind d env S = .ok e1 S ∧ test e1 S = .ok true S ∧ ∃ y S2, elt e1 S = .ok y S2 ∧ Rl i y ∧ Iv (i + 1) S2) →
    ∃ ys S', compL t test elt env items S = .ok ys S' ∧ ys.length = items.length ∧ (∀ i y, ys[i]? = some y → Rl i y) ∧ Iv items.length S'
  | [], S, Iv, h0, hs => ⟨[], S, rfl, rfl, fun i y h => by simp at h, h0⟩
  | d :: ds, S, Iv, h0, hs => by
    obtain ⟨e1, b1, b2, y, S2, b3, b4, b5⟩ := hs 0 d S rfl h0
    obtain ⟨ys, S3, c1, c2, c3, c4⟩ := compL_gen (t := t) (test := test) (elt := elt) (env := env) (fun i => Rl (i + 1)) (items := ds) (fun i => Iv (i + 1)) b5 (fun i d' S hi h => hs (i + 1) d' S (by simpa using hi) h)
    refine ⟨y :: ys, S3, ?_, by simp [c2], fun i z h => ?_, c4⟩
    · unfold compL
      simp [b1, nx, b2, b3, c1]
    · cases i with
      | zero => simp at h; subst h; exact b4
      | succ i => exact c3 i z (by simpa using h)
/-- .. that change nothing -/
theorem compL_map {t : Tg} {test : Envd → M Bool} {elt : Envd → M D} {env : Envd} {S : Store} {f : D → D} : ∀ {items : List D},
    (∀ d ∈ items, ∃ e1, t.bind d env S = .ok e1 S ∧ test e1 S = .ok true S ∧ elt e1 S = .ok (f d) S) → compL t test elt env items S = .ok (items.map f) S
  | [], _ => rfl
  | d :: ds, h => by
    obtain ⟨e1, b1, b2, b3⟩ := h d List.mem_cons_self
    have ih := compL_map (t := t) (test := test) (elt := elt) (env := env) (S := S) (f := f) (items := ds) fun d' hd => h d' (List.mem_cons_of_mem _ hd)
    unfold compL
    simp [b1, nx, b2, b3, ih]
theorem compL_filter {t : Tg} {test : Envd → M Bool} {elt : Envd → M D} {env : Envd} {S : Store} {f : D → D} {p : D → Bool} : ∀ {items : List D},
    (∀ d ∈ items, ∃ e1, t.bind d env S = .ok e1 S ∧ test e1 S = .ok (p d) S ∧ (p d = true → elt e1 S = .ok (f d) S)) → compL t test elt env items S = .ok ((items.filter p).map f) S
  | [], _ => rfl
  | d :: ds, h => by
    obtain ⟨e1, b1, b2, b3⟩ := h d List.mem_cons_self
    have ih := compL_filter (t := t) (test := test) (elt := elt) (env := env) (S := S) (f := f) (p := p) (items := ds) fun d' hd => h d' (List.mem_cons_of_mem _ hd)
    unfold compL
    cases hp : p d with
    | true => simp [b1, nx, b2, hp, b3 hp, ih]
    | false => simp [b1, nx, b2, hp, ih]
/-- the same, by the items' own type -/
theorem compL_mapOf {α : Type} {t : Tg} {test : Envd → M Bool} {elt : Envd → M D} {env : Envd} {S : Store} {c : α → D} {f : α → D} {xs : List α}
    (h : ∀ x ∈ xs, ∃ e1, t.bind (c x) env S = .ok e1 S ∧ test e1 S = .ok true S ∧ elt e1 S = .ok (f x) S) : compL t test elt env (xs.map c) S = .ok (xs.map f) S := by
  induction xs with
  | nil => rfl
  | cons x xs ih =>
    obtain ⟨e1, b1, b2, b3⟩ := h x List.mem_cons_self
    rw [List.map_cons, List.map_cons]
    unfold compL
    simp [b1, nx, b2, b3, ih fun y hy => h y (List.mem_cons_of_mem _ hy)]
theorem compL_filtOf {α : Type} {t : Tg} {test : Envd → M Bool} {elt : Envd → M D} {env : Envd} {S : Store} {c : α → D} {f : α → D} {p : α → Bool} {xs : List α}
    (h : ∀ x ∈ xs, ∃ e1, t.bind (c x) env S = .ok e1 S ∧ test e1 S = .ok (p x) S ∧ (p x = true → elt e1 S = .ok (f x) S)) : compL t test elt env (xs.map c) S = .ok ((xs.filter p).map f) S := by
  induction xs with
  | nil => rfl
  | cons x xs ih =>
    obtain ⟨e1, b1, b2, b3⟩ := h x List.mem_cons_self
    have ih := ih fun y hy => h y (List.mem_cons_of_mem _ hy)
    rw [List.map_cons]
    unfold compL
    cases hp : p x with
    | true => simp [b1, nx, b2, hp, b3 hp, ih]
    | false => simp [b1, nx, b2, hp, ih]
theorem sComp_of {mu : Bool} {it : Envd → M (List D)} {t : Tg} {own : List Nat} {test : Envd → M Bool} {elt : Envd → M D} {env : Envd} {S S1 S2 : Store} {items ys : List D} (h1 : it env S = .ok items S1) (hz : items.length ≤ sizeLine)
    (h2 : compL t test elt (wipeD env own) items S1 = .ok ys S2) : sComp mu it t own test elt env S = newL mu ys S2 := by
  unfold sComp
  simp [h1, hz, nx, h2]
@[simp] theorem bind_nm {i : Nat} {d : D} {env : Envd} {S : Store} : (Tg.nm i).bind d env S = .ok (env.set i (some d)) S := (rfl)
@[simp] theorem bind_tp2 {i j : Nat} {a b : D} {env : Envd} {S : Store} : (Tg.tp [i, j]).bind (.tup [a, b]) env S = .ok (setAll [i, j] [a, b] env) S := (rfl)
@[simp] theorem bind_tp3 {i j k : Nat} {a b c : D} {env : Envd} {S : Store} : (Tg.tp [i, j, k]).bind (.tup [a, b, c]) env S = .ok (setAll [i, j, k] [a, b, c] env) S := (rfl)
@[simp] theorem bind_tp4 {i j k l : Nat} {a b c d : D} {env : Envd} {S : Store} : (Tg.tp [i, j, k, l]).bind (.tup [a, b, c, d]) env S = .ok (setAll [i, j, k, l] [a, b, c, d] env) S := (rfl)
@[simp] theorem setAll_nil {env : Envd} : setAll [] [] env = env := (rfl)
@[simp] theorem setAll_cons {i : Nat} {is : List Nat} {d : D} {ds : List D} {env : Envd} : setAll (i :: is) (d :: ds) env = setAll is ds (env.set i (some d)) := (rfl)
@[simp] theorem wipeD_nil {env : Envd} : wipeD env [] = env := (rfl)
@[simp] theorem wipeD_cons {env : Envd} {v : Nat} {vs : List Nat} : wipeD env (v :: vs) = (wipeD env vs).set v none := (rfl)

/-! ### calls -/
theorem prep_nr {ds : List D} {ks : List Nat} {S : Store} (h : nrDs ds = true) : prep [] ds ks S = some (ds, ks, S) := by
  induction ds with
  | nil => rfl
  | cons d ds ih =>
    simp only [nrDs, Bool.and_eq_true] at h
    have e : mapR (fzN 8) d S = some (d, S) := mapR_nr h.1
    unfold prep
    simp only [List.headD_nil, fzD, e, o1, List.tail_nil, ih h.2]
/-- a def that is handed plain data, and hands plain data back -/
theorem io_pure {n len : Nat} {g : MS} {ds : List D} {d d' : D} {S S' S'' : Store} (h : nrDs ds = true) (hl : ds.length = n) (hg : g (ds.map some ++ List.replicate (len - n) none) [] = .rt d S') (hf : fzD d S' = some (d', S'')) : callIO [] false (bodyS n len g) ds S = .ok d' S := by
  unfold callIO
  rw [prep_nr h]
  simp only [orStuck, subS]
  unfold bodyS
  rw [if_pos hl]
  simp only [hg, hf, ioEnd, cfzAll, List.length_nil, o1, backW]
theorem io_exc {n len : Nat} {g : MS} {ds : List D} {c : Nat} {env : Envd} {S S' : Store} (h : nrDs ds = true) (hl : ds.length = n) (hg : g (ds.map some ++ List.replicate (len - n) none) [] = .exc c [] env S') : callIO [] false (bodyS n len g) ds S = .exc c [] S := by
  unfold callIO
  rw [prep_nr h]
  simp only [orStuck, subS]
  unfold bodyS
  rw [if_pos hl]
  simp only [hg, fzDs, mapRs, ioEnd, cfzAll, List.length_nil, o1, backW]
theorem io_none {n len : Nat} {g : MS} {ds : List D} {env : Envd} {S S' : Store} (h : nrDs ds = true) (hl : ds.length = n) (hg : g (ds.map some ++ List.replicate (len - n) none) [] = .nx env S') : callIO [] false (bodyS n len g) ds S = .ok .non S := by
  unfold callIO
  rw [prep_nr h]
  simp only [orStuck, subS]
  unfold bodyS
  rw [if_pos hl]
  simp only [hg, fzD, mapR, ioEnd, cfzAll, List.length_nil, o1, backW]
theorem fz_nr {d : D} {S : Store} (h : nrD d = true) : fzD d S = some (d, S) := mapR_nr h
theorem fz_ref {k : Nat} {xs : List D} {S : Store} (h : S[k]? = some (.lst xs)) (n : nrDs xs = true) : fzD (.ref k) S = some (.lst xs, S.set k (.frz xs)) := by
  show fzN 8 k S = _
  unfold fzN fzC
  simp only [h, mapRs_nr n, o1]
@[simp] theorem nrDs_nil : nrDs [] = true := (rfl)
@[simp] theorem nrDs_cons {d : D} {ds : List D} : nrDs (d :: ds) = (nrD d && nrDs ds) := (rfl)
@[simp] theorem nrD_non : nrD .non = true := (rfl)
@[simp] theorem nrD_bl {b : Bool} : nrD (.bl b) = true := (rfl)
@[simp] theorem nrD_int {b : Int} : nrD (.int b) = true := (rfl)
@[simp] theorem nrD_str {b : Str} : nrD (.str b) = true := (rfl)
@[simp] theorem nrD_scr {b : List Int} : nrD (.scr b) = true := (rfl)
@[simp] theorem nrD_lst {b : List D} : nrD (.lst b) = nrDs b := (rfl)
@[simp] theorem nrD_tup {b : List D} : nrD (.tup b) = nrDs b := (rfl)
@[simp] theorem nrD_obj {c : Nat} {b : List D} : nrD (.obj c b) = nrDs b := (rfl)
@[simp] theorem nrDs_app {xs ys : List D} : nrDs (xs ++ ys) = (nrDs xs && nrDs ys) := by
  induction xs with
  | nil => simp
  | cons x xs ih => simp [ih, Bool.and_assoc]
@[simp] theorem nr_ints {xs : List Int} : nrDs (xs.map D.int) = true := by
  induction xs with
  | nil => rfl
  | cons x xs ih => simp [nrDs, nrD, ih]
theorem nr_all {xs : List D} (h : ∀ d ∈ xs, nrD d = true) : nrDs xs = true := by
  induction xs with
  | nil => rfl
  | cons x xs ih => simp [nrDs, h x List.mem_cons_self, ih fun d hd => h d (List.mem_cons_of_mem _ hd)]
end Ev

set_option Elab.async false
set_option linter.all false
set_option maxRecDepth 100000
set_option maxHeartbeats 1000000
/-! EvR: == of plain data. -/
namespace Ev
open PySem L2

mutual
def toPd : D → PyData
  | .bl b => .bool b
  | .int i => .int i
  | .str x => .str x
  | .lst xs => .list (toPds xs)
  | .tup xs => .tuple (toPds xs)
  | _ => .none
def toPds : List D → List PyData
  | [] => []
  | d :: ds => toPd d :: toPds ds
end
mutual
/-- plain, at most n deep -/
def plD : Nat → D → Bool
  | _, .non => true
  | _, .bl _ => true
  | _, .int _ => true
  | _, .str x => PyData.strOk x
  | n + 1, .lst xs => plDs n xs
  | n + 1, .tup xs => plDs n xs
  | _, _ => false
def plDs : Nat → List D → Bool
  | _, [] => true
  | n, d :: ds => plD n d && plDs n ds
end
mutual
theorem toP_pl {S : Store} : ∀ {n m : Nat} {d : D}, plD n d = true → n ≤ m → toP S m d = some (toPd d)
  | n, m, .non, h, l => by simp only [toP_non, toP_bl, toP_int, toP_str, toP_scr, toP_dct, toP_obj, toP_l0, toP_t0, toP_r0, toP_lst, toP_tup, toP_ref, toPd]
  | n, m, .bl b, h, l => by simp only [toP_non, toP_bl, toP_int, toP_str, toP_scr, toP_dct, toP_obj, toP_l0, toP_t0, toP_r0, toP_lst, toP_tup, toP_ref, toPd]
  | n, m, .int b, h, l => by simp only [toP_non, toP_bl, toP_int, toP_str, toP_scr, toP_dct, toP_obj, toP_l0, toP_t0, toP_r0, toP_lst, toP_tup, toP_ref, toPd]
  | n, m, .str b, h, l => by simp only [toP_non, toP_bl, toP_int, toP_str, toP_scr, toP_dct, toP_obj, toP_l0, toP_t0, toP_r0, toP_lst, toP_tup, toP_ref, toPd]
  | n + 1, m + 1, .lst xs, h, l => by
    simp only [plD] at h
    simp only [toP_non, toP_bl, toP_int, toP_str, toP_scr, toP_dct, toP_obj, toP_l0, toP_t0, toP_r0, toP_lst, toP_tup, toP_ref, toPd, toPs_pl h (by omega : n ≤ m), Option.map_some]
  | n + 1, m + 1, .tup xs, h, l => by
    simp only [plD] at h
    simp only [toP_non, toP_bl, toP_int, toP_str, toP_scr, toP_dct, toP_obj, toP_l0, toP_t0, toP_r0, toP_lst, toP_tup, toP_ref, toPd, toPs_pl h (by omega : n ≤ m), Option.map_some]
  | n + 1, 0, d, h, l => by omega
  | 0, m, .lst xs, h, l => by simp only [plD] at h; cases h
  | 0, m, .tup xs, h, l => by simp only [plD] at h; cases h
  | 0, m, .scr xs, h, l => by simp only [plD] at h; cases h
  | 0, m, .dct ks xs, h, l => by simp only [plD] at h; cases h
  | 0, m, .obj c xs, h, l => by simp only [plD] at h; cases h
  | 0, m, .ref k, h, l => by simp only [plD] at h; cases h
  | n + 1, m + 1, .scr xs, h, l => by simp only [plD] at h; cases h
  | n + 1, m + 1, .dct ks xs, h, l => by simp only [plD] at h; cases h
  | n + 1, m + 1, .obj c xs, h, l => by simp only [plD] at h; cases h
  | n + 1, m + 1, .ref k, h, l => by simp only [plD] at h; cases h
theorem toPs_pl {S : Store} : ∀ {n m : Nat} {ds : List D}, plDs n ds = true → n ≤ m → toPs S m ds = some (toPds ds)
  | n, m, [], h, l => by simp only [toPs_nil, toPs_cons, toPds]
  | n, m, d :: ds, h, l => by
    simp only [plDs, Bool.and_eq_true] at h
    simp only [toPs_nil, toPs_cons, toPds, toP_pl h.1 l, toPs_pl h.2 l]
end
mutual
theorem lay_pl : ∀ {n : Nat} {d : D}, plD n d = true → (toPd d).canLay0 = true ∧ (toPd d).depth ≤ n
  | n, .non, h => by simp [toPd, PyData.canLay0, PyData.depth]
  | n, .bl b, h => by simp [toPd, PyData.canLay0, PyData.depth]
  | n, .int b, h => by simp [toPd, PyData.canLay0, PyData.depth]
  | n, .str b, h => by
    simp only [plD] at h
    simp [toPd, PyData.canLay0, PyData.depth, h]
  | n + 1, .lst xs, h => by
    simp only [plD] at h
    obtain ⟨h1, h2⟩ := lays_pl h
    simp only [toPd, PyData.canLay0, PyData.depth]
    exact ⟨h1, by omega⟩
  | n + 1, .tup xs, h => by
    simp only [plD] at h
    obtain ⟨h1, h2⟩ := lays_pl h
    simp only [toPd, PyData.canLay0, PyData.depth]
    exact ⟨h1, by omega⟩
  | 0, .lst xs, h => by simp only [plD] at h; cases h
  | 0, .tup xs, h => by simp only [plD] at h; cases h
  | n, .scr xs, h => by cases n <;> (simp only [plD] at h; cases h)
  | n, .dct ks xs, h => by cases n <;> (simp only [plD] at h; cases h)
  | n, .obj c xs, h => by cases n <;> (simp only [plD] at h; cases h)
  | n, .ref k, h => by cases n <;> (simp only [plD] at h; cases h)
theorem lays_pl : ∀ {n : Nat} {ds : List D}, plDs n ds = true → PyData.canLayAll0 (toPds ds) = true ∧ PyData.depthAll (toPds ds) ≤ n
  | n, [], h => by simp [toPds, PyData.canLayAll0, PyData.depthAll]
  | n, d :: ds, h => by
    simp only [plDs, Bool.and_eq_true] at h
    obtain ⟨a1, a2⟩ := lay_pl h.1
    obtain ⟨b1, b2⟩ := lays_pl h.2
    simp only [toPds, PyData.canLayAll0, PyData.depthAll, a1, b1, Bool.and_self]
    exact ⟨trivial, by omega⟩
end
theorem shaped_pl {n : Nat} {d : D} (h : plD n d = true) (l : n ≤ 60) : SeqAt.shaped (toPd d) = true := by
  obtain ⟨h1, h2⟩ := lay_pl h
  unfold SeqAt.shaped
  rw [h1, decide_eq_true (by omega)]; rfl
/-- == -/
def eqvD (d e : D) : Bool := PyData.eqv (toPd d) (toPd e)
theorem dEq_pl {n : Nat} {d e : D} {neg : Bool} {S : Store} (h1 : plD n d = true) (h2 : plD n e = true) (l : n ≤ 12) : dEq neg d e S = .ok (.bl (if neg = true then !eqvD d e else eqvD d e)) S := by
  unfold dEq
  simp only [toP_pl h1 l, toP_pl h2 l]
  rw [if_pos ⟨shaped_pl h1 (by omega), shaped_pl h2 (by omega)⟩]
  rfl
theorem dEq_refl {k : Nat} {xs : List D} {e : D} {neg : Bool} {S : Store} (h : cl S[k]? = some xs) : dEq neg (.ref k) e S = dEq neg (.lst xs) e S := by
  unfold dEq
  have : toP S 12 (.ref k) = toP S 12 (.lst xs) := by simp only [toP_non, toP_bl, toP_int, toP_str, toP_scr, toP_dct, toP_obj, toP_l0, toP_t0, toP_r0, toP_lst, toP_tup, toP_ref, seqL_ref, h]
  rw [this]
theorem dEq_refr {k : Nat} {xs : List D} {e : D} {neg : Bool} {S : Store} (h : cl S[k]? = some xs) : dEq neg e (.ref k) S = dEq neg e (.lst xs) S := by
  unfold dEq
  have : toP S 12 (.ref k) = toP S 12 (.lst xs) := by simp only [toP_non, toP_bl, toP_int, toP_str, toP_scr, toP_dct, toP_obj, toP_l0, toP_t0, toP_r0, toP_lst, toP_tup, toP_ref, seqL_ref, h]
  rw [this]
mutual
theorem eqvD_same : ∀ {n : Nat} {d : D}, plD n d = true → eqvD d d = true
  | n, .non, h => rfl
  | n, .bl b, h => by show (b == b) = true; simp
  | n, .int b, h => by show (b == b) = true; simp
  | n, .str b, h => by show (b == b) = true; simp
  | n + 1, .lst xs, h => by simp only [plD] at h; exact eqvDs_same h
  | n + 1, .tup xs, h => by simp only [plD] at h; exact eqvDs_same h
  | 0, .lst xs, h => by simp only [plD] at h; cases h
  | 0, .tup xs, h => by simp only [plD] at h; cases h
  | n, .scr xs, h => by cases n <;> (simp only [plD] at h; cases h)
  | n, .dct ks xs, h => by cases n <;> (simp only [plD] at h; cases h)
  | n, .obj c xs, h => by cases n <;> (simp only [plD] at h; cases h)
  | n, .ref k, h => by cases n <;> (simp only [plD] at h; cases h)
theorem eqvDs_same : ∀ {n : Nat} {ds : List D}, plDs n ds = true → PyData.eqvAll (toPds ds) (toPds ds) = true
  | n, [], h => by simp only [toPds, PyData.eqvAll]
  | n, d :: ds, h => by
    simp only [plDs, Bool.and_eq_true] at h
    have := eqvD_same h.1
    unfold eqvD at this
    simp only [toPds, PyData.eqvAll, this, eqvDs_same h.2, Bool.and_self]
end
@[simp] theorem eqvD_int {i j : Int} : eqvD (.int i) (.int j) = decide (i = j) := by
  show (i == j) = _
  by_cases h : i = j <;> simp [h]
@[simp] theorem eqvD_str {i j : Str} : eqvD (.str i) (.str j) = decide (i = j) := by
  show (i == j) = _
  by_cases h : i = j <;> simp [h]
@[simp] theorem eqvD_bl {i j : Bool} : eqvD (.bl i) (.bl j) = (i == j) := rfl
@[simp] theorem eqvD_non : eqvD .non .non = true := rfl
@[simp] theorem eqvD_ni {i : Int} : eqvD .non (.int i) = false := rfl
@[simp] theorem eqvD_in {i : Int} : eqvD (.int i) .non = false := rfl
theorem eqvAll_cons {d e : D} {ds es : List D} : PyData.eqvAll (toPds (d :: ds)) (toPds (e :: es)) = (eqvD d e && PyData.eqvAll (toPds ds) (toPds es)) := by simp only [toPds, PyData.eqvAll, eqvD]
theorem eqvD_lst {ds es : List D} : eqvD (.lst ds) (.lst es) = PyData.eqvAll (toPds ds) (toPds es) := rfl
theorem eqvD_tup {ds es : List D} : eqvD (.tup ds) (.tup es) = PyData.eqvAll (toPds ds) (toPds es) := rfl
theorem eqvAll_map {α : Type} [DecidableEq α] {c : α → D} (h : ∀ a b, eqvD (c a) (c b) = decide (a = b)) : ∀ {xs ys : List α}, PyData.eqvAll (toPds (xs.map c)) (toPds (ys.map c)) = decide (xs = ys)
  | [], [] => rfl
  | [], y :: ys => rfl
  | x :: xs, [] => rfl
  | x :: xs, y :: ys => by
    rw [List.map_cons, List.map_cons, eqvAll_cons, h, eqvAll_map h]
    by_cases e : x = y <;> by_cases f : xs = ys <;> simp [e, f]
/-- lists by their items -/
theorem eqvD_map {α : Type} [DecidableEq α] {c : α → D} (h : ∀ a b, eqvD (c a) (c b) = decide (a = b)) {xs ys : List α} : eqvD (.lst (xs.map c)) (.lst (ys.map c)) = decide (xs = ys) := eqvAll_map h
@[simp] theorem eqvD_ints {xs ys : List Int} : eqvD (.lst (xs.map D.int)) (.lst (ys.map D.int)) = decide (xs = ys) := eqvD_map fun _ _ => eqvD_int
theorem plDs_all {n : Nat} {ds : List D} (h : ∀ d ∈ ds, plD n d = true) : plDs n ds = true := by
  induction ds with
  | nil => simp only [plDs]
  | cons d ds ih => simp only [plDs, h d List.mem_cons_self, ih fun e he => h e (List.mem_cons_of_mem _ he), Bool.and_self]
theorem plDs_mem {n : Nat} {ds : List D} (h : plDs n ds = true) : ∀ d ∈ ds, plD n d = true := by
  induction ds with
  | nil => intro d hd; cases hd
  | cons e ds ih =>
    simp only [plDs, Bool.and_eq_true] at h
    intro d hd
    rcases List.mem_cons.mp hd with rfl | hd
    · exact h.1
    · exact ih h.2 d hd
theorem plD_int {n : Nat} {i : Int} : plD n (.int i) = true := by cases n <;> simp only [plD]
theorem plD_bl {n : Nat} {i : Bool} : plD n (.bl i) = true := by cases n <;> simp only [plD]
theorem plD_non {n : Nat} : plD n .non = true := by cases n <;> simp only [plD]
theorem plD_ints {n : Nat} {xs : List Int} : plD (n + 1) (.lst (xs.map D.int)) = true := by
  simp only [plD]
  exact plDs_all fun d hd => by
    obtain ⟨i, _, rfl⟩ := List.mem_map.mp hd
    exact plD_int
@[simp] theorem dEq_ints {xs ys : List Int} {neg : Bool} {S : Store} : dEq neg (.lst (xs.map D.int)) (.lst (ys.map D.int)) S = .ok (.bl (if neg = true then !decide (xs = ys) else decide (xs = ys))) S := by
  rw [dEq_pl (n := 1) plD_ints plD_ints (by decide), eqvD_ints]
@[simp] theorem dEq_ints_nil {xs : List Int} {neg : Bool} {S : Store} : dEq neg (.lst (xs.map D.int)) (.lst []) S = .ok (.bl (if neg = true then !decide (xs = []) else decide (xs = []))) S := dEq_ints (ys := [])
mutual
theorem plD_nr : ∀ {n : Nat} {d : D}, plD n d = true → nrD d = true
  | n, .non, h => rfl
  | n, .bl b, h => rfl
  | n, .int b, h => rfl
  | n, .str b, h => rfl
  | n + 1, .lst xs, h => by simp only [plD] at h; exact plDs_nr h
  | n + 1, .tup xs, h => by simp only [plD] at h; exact plDs_nr h
  | 0, .lst xs, h => by simp only [plD] at h; cases h
  | 0, .tup xs, h => by simp only [plD] at h; cases h
  | n, .scr xs, h => rfl
  | n, .dct ks xs, h => by cases n <;> (simp only [plD] at h; cases h)
  | n, .obj c xs, h => by cases n <;> (simp only [plD] at h; cases h)
  | n, .ref k, h => by cases n <;> (simp only [plD] at h; cases h)
theorem plDs_nr : ∀ {n : Nat} {ds : List D}, plDs n ds = true → nrDs ds = true
  | n, [], h => rfl
  | n, d :: ds, h => by
    simp only [plDs, Bool.and_eq_true] at h
    simp only [nrDs_cons, plD_nr h.1, plDs_nr h.2, Bool.and_self]
end
/-! isinstance -/
def isio (ks : List TK) : Option String → M D
  | some t => ret (.bl (ks.any fun k => isB t k.name))
  | none => stk
@[simp] theorem dIsi_ap {ks : List TK} {d : D} {S : Store} : dIsi ks d S = isio ks (tyD S d) S := by
  unfold dIsi isio
  cases tyD S d <;> rfl
@[simp] theorem isio_some {ks : List TK} {t : String} {S : Store} : isio ks (some t) S = .ok (.bl (ks.any fun k => isB t k.name)) S := (rfl)
@[simp] theorem tyD_non {S : Store} : tyD S .non = some "NoneType" := (rfl)
@[simp] theorem tyD_bl {S : Store} {b : Bool} : tyD S (.bl b) = some "bool" := (rfl)
@[simp] theorem tyD_int {S : Store} {b : Int} : tyD S (.int b) = some "int" := (rfl)
@[simp] theorem tyD_str {S : Store} {b : Str} : tyD S (.str b) = some "str" := (rfl)
@[simp] theorem tyD_scr {S : Store} {b : List Int} : tyD S (.scr b) = some "list" := (rfl)
@[simp] theorem tyD_lst {S : Store} {b : List D} : tyD S (.lst b) = some "list" := (rfl)
@[simp] theorem tyD_tup {S : Store} {b : List D} : tyD S (.tup b) = some "tuple" := (rfl)
@[simp] theorem dAll_rep {n : Nat} {S : Store} : dAll false [.lst (List.replicate n (.bl true))] S = .ok (.bl true) S := by
  have : List.replicate n (D.bl true) = (List.replicate n true).map D.bl := by simp
  rw [this, dAll_bls]
  simp
end Ev

set_option Elab.async false
set_option linter.all false
set_option maxRecDepth 100000
set_option maxHeartbeats 4000000
/-! PgA: what the defs of the laws' texts do, by data. -/
namespace Pg
open PySem Ev
def fuel : Nat := 1000000
/-! law_bag (script, stir, cell) -/
def b_law_bag : MS :=
    sSeq (sAsg (.nm 1) (sC (.int 141)))
    (sSeq (sFor (.nm 2) [2] (iSeq (sSl false (sVar 0) (sPart none) (sPart (some (sC (.int 63))))))
      (sAsg (.nm 1) (s2 (s1 (sCons (s2 (s2 (s2 (sVar 1) (sC (.int 48271)) (dMul false)) (s2 (s1 (sCons (sVar 2) sNil) (BK.sem false .int)) (sC (.int 2147483629)) dMod) (dAdd false)) (sC (.int 1)) (dAdd false)) sNil) (BK.sem false .int)) (sC (.int 2147483647)) dMod)))
    (sRet (s1 (sCons (sComp false (iSeq (sSl false (sVar 0) (sPart none) (sPart (some (sC (.int 63)))))) (.nm 2) [2] (fun _ => ret true) (s2 (s1 (sCons (s1 (sCons (sVar 2) sNil) (BK.sem false .abs)) sNil) (BK.sem false .int)) (s2 (s2 (sC (.int 10)) (sC (.int 60)) dPow) (sC (.int 10)) dPow) dMod)) (sCons (sC (.int 0)) (sCons (sC (.int 0)) (sCons (sVar 1) (sCons (sC (.int 0)) sNil))))) (newLs true))))
def sem_law_bag : List D → M D := callIO [] false (bodyS 1 3 b_law_bag)
def semM_law_bag : List D → M D := callIO [] true (bodyS 1 3 b_law_bag)
/-! law_alike (found, due, k) -/
def b_law_alike (self : List D → M D) : MS :=
    sSeq (sIfS (sTest (s1 (sVar 1) (dIsi [.list, .tuple])))
      (sSeq (sIfS (sOr (sNot (sTest (s1 (sVar 0) (dIsi [.list, .tuple])))) (sTest (s2 (s1 (sVar 0) (dIsi [.list])) (s1 (sVar 1) (dIsi [.list])) (dEq true))))
          (sRet (sC (.bl false)))
          (sPass))
        (sSeq (sIfS (sTest (s2 (s1 (sCons (sVar 0) sNil) (BK.sem false .len)) (s1 (sCons (sVar 1) sNil) (BK.sem false .len)) (dEq true)))
          (sRet (sC (.bl false)))
          (sPass))
        (sRet (s1 (sCons (sComp false (s1 (sCons (s1 (sCons (sVar 1) sNil) (BK.sem false .len)) sNil) dRange1) (.nm 2) [2] (fun _ => ret true) (s1 (sCons (s2 (sVar 0) (sVar 2) dIx) (sCons (s2 (sVar 1) (sVar 2) dIx) sNil)) self)) sNil) (BK.sem false .all)))))
      (sPass))
    (sSeq (sIfS (sOr (sTest (s2 (s1 (sVar 0) (dIsi [.bool])) (s1 (sVar 1) (dIsi [.bool])) (dEq true))) (sTest (s2 (s1 (sVar 0) (dIsi [.int])) (s1 (sVar 1) (dIsi [.int])) (dEq true))))
      (sRet (sC (.bl false)))
      (sPass))
    (sRet (vAnd (s2 (s1 (sVar 0) (dIsi [.str])) (s1 (sVar 1) (dIsi [.str])) (dEq false)) (s2 (sVar 0) (sVar 1) (dEq false)))))
def sem0_law_alike : Nat → List D → M D
  | 0 => fun _ _ => .stuck
  | n + 1 => callIO [] false (bodyS 2 3 (b_law_alike (sem0_law_alike n)))
def sem_law_alike : List D → M D := sem0_law_alike 6
/-! law_stirred (bag, wide, found, k, mixed) -/
def b_law_stirred : MS :=
    sSeq (sAsg (.nm 2) (sC (.int 0)))
    (sSeq (sFor (.nm 3) [3, 4] (s1 (sCons (s2 (sC (.int 1)) (s2 (s1 (sVar 1) dBits) (sC (.int 27)) dDiv) (dAdd false)) sNil) dRange1)
      (sSeq (sSet (sVar 0) (sC (.int 4)) (s2 (s2 (sVar 0) (sC (.int 4)) dIx) (sC (.int 1)) (dAdd false)))
        (sSeq (sAsg (.nm 4) (s2 (s2 (s2 (s2 (s2 (sVar 0) (sC (.int 3)) dIx) (sC (.int 3)) dPow) (s2 (sC (.int 69621)) (s2 (sVar 0) (sC (.int 3)) dIx) (dMul false)) (dAdd false)) (s2 (sC (.int 1031)) (s2 (sVar 0) (sC (.int 4)) dIx) (dMul false)) (dAdd false)) (sC (.int 1)) (dAdd false)))
        (sSeq (sSet (sVar 0) (sC (.int 3)) (s2 (s1 (sCons (sVar 4) sNil) (BK.sem false .int)) (sC (.int 2147483647)) dMod))
        (sAsg (.nm 2) (s2 (s2 (sVar 2) (sC (.int 134217728)) (dMul false)) (s2 (s2 (sVar 0) (sC (.int 3)) dIx) (sC (.int 16)) dDiv) (dAdd false)))))))
    (sRet (s2 (s1 (sCons (sVar 2) sNil) (BK.sem false .int)) (sVar 1) dMod)))
def sem_law_stirred : List D → M D := callIO [true] false (bodyS 2 5 b_law_stirred)
def semM_law_stirred : List D → M D := callIO [true] true (bodyS 2 5 b_law_stirred)
/-! law_draw (bag, wide, found) -/
def b_law_draw : MS :=
    sSeq (sIfS (sAnd (sTest (s2 (s2 (sVar 0) (sC (.int 2)) dIx) (sC (.int 0)) (dEq false))) (sTest (s2 (s2 (sVar 0) (sC (.int 1)) dIx) (s1 (sCons (s2 (sVar 0) (sC (.int 0)) dIx) sNil) (BK.sem false .len)) (cmpSem .Lt))))
      (sSeq (sSet (sVar 0) (sC (.int 2)) (s2 (s2 (sVar 0) (sC (.int 0)) dIx) (s2 (sVar 0) (sC (.int 1)) dIx) dIx))
        (sSet (sVar 0) (sC (.int 1)) (s2 (s2 (sVar 0) (sC (.int 1)) dIx) (sC (.int 1)) (dAdd false))))
      (sIfS (sTest (s2 (s2 (sVar 0) (sC (.int 2)) dIx) (sC (.int 0)) (dEq false)))
        (sRet (s1 (sCons (sVar 0) (sCons (sVar 1) sNil)) Pg.sem_law_stirred))
        (sPass)))
    (sSeq (sAsg (.nm 2) (s2 (s1 (sCons (s2 (sVar 0) (sC (.int 2)) dIx) sNil) (BK.sem false .int)) (sVar 1) dMod))
    (sSeq (sSet (sVar 0) (sC (.int 2)) (s2 (s2 (sVar 0) (sC (.int 2)) dIx) (sVar 1) dDiv))
    (sRet (sVar 2))))
def sem_law_draw : List D → M D := callIO [true] false (bodyS 2 3 b_law_draw)
def semM_law_draw : List D → M D := callIO [true] true (bodyS 2 3 b_law_draw)
/-! law_needs (bag, most, far, k) -/
def b_law_needs : MS :=
    sRet (sComp false (s1 (sCons (s2 (sC (.int 1)) (s1 (sCons (sVar 0) (sCons (sVar 1) sNil)) Pg.sem_law_draw) (dAdd false)) sNil) dRange1) (.nm 3) [3] (fun _ => ret true) (s1 (sCons (sVar 0) (sCons (s2 (s1 (sCons (sC (.int 2)) (sCons (sVar 2) (sCons (s2 (sC (.int 1)) (s2 (sVar 2) (sC (.int 5)) dDiv) (dAdd false)) sNil))) (newLs false)) (s1 (sCons (sVar 0) (sCons (sC (.int 3)) sNil)) Pg.sem_law_draw) dIx) sNil)) Pg.sem_law_draw))
def sem_law_needs : List D → M D := callIO [true] false (bodyS 3 4 b_law_needs)
def semM_law_needs : List D → M D := callIO [true] true (bodyS 3 4 b_law_needs)
/-! is_integer (thing) -/
def b_is_integer : MS :=
    sRet (vAnd (s1 (sVar 0) (dIsi [.int])) (vNot (s1 (sVar 0) (dIsi [.bool]))))
def sem_is_integer : List D → M D := callIO [] false (bodyS 1 1 b_is_integer)
def semM_is_integer : List D → M D := callIO [] true (bodyS 1 1 b_is_integer)
/-! are_needs (thing, size) -/
def b_are_needs : MS :=
    sSeq (sIfS (sOr (sNot (sTest (s1 (sVar 0) (dIsi [.list])))) (sNot (sTest (sChain (cmpSem .LtE) (cmpSem .LtE) (sC (.int 1)) (s1 (sCons (sVar 0) sNil) (BK.sem false .len)) (sC (.int 200))))))
      (sRet (sC (.bl false)))
      (sPass))
    (sRet (s1 (sCons (sComp false (iSeq (sVar 0)) (.nm 1) [1] (fun _ => ret true) (vAnd (s1 (sCons (sVar 1) sNil) Pg.sem_is_integer) (s2 (sVar 1) (sC (.int 0)) (cmpSem .GtE)))) sNil) (BK.sem false .all)))
def sem_are_needs : List D → M D := callIO [] false (bodyS 1 2 b_are_needs)
def semM_are_needs : List D → M D := callIO [] true (bodyS 1 2 b_are_needs)
/-! need_needs (thing) -/
def b_need_needs : MS :=
    sIfS (sNot (sTest (s1 (sCons (sVar 0) sNil) Pg.sem_are_needs)))
    (sRaise 7)
    (sPass)
def sem_need_needs : List D → M D := callIO [] false (bodyS 1 1 b_need_needs)
def semM_need_needs : List D → M D := callIO [] true (bodyS 1 1 b_need_needs)
/-! add_all (numbers, found, number) -/
def b_add_all : MS :=
    sSeq (sAsg (.nm 1) (s1 (sCons (sC (.int 0)) sNil) (newLs true)))
    (sSeq (sFor (.nm 2) [2] (iSeq (sVar 0))
      (sExpr (sBM (MK.chk .append) (sVar 1) (sCons (s2 (s2 (sVar 1) (s1 (sC (.int 1)) dNeg) dIx) (sVar 2) (dAdd false)) sNil) (MK.sem false .append))))
    (sRet (sVar 1)))
def sem_add_all : List D → M D := callIO [] false (bodyS 1 3 b_add_all)
def semM_add_all : List D → M D := callIO [] true (bodyS 1 3 b_add_all)
/-! greatest_sums (needs, sums, found, many, last) -/
def b_greatest_sums : MS :=
    sSeq (sAsg (.nm 1) (s1 (sCons (sVar 0) sNil) Pg.sem_add_all))
    (sSeq (sAsg (.nm 2) (s1 sNil (newLs true)))
    (sSeq (sFor (.nm 3) [3] (s1 (sCons (sC (.int 1)) (sCons (s2 (s1 (sCons (sVar 0) sNil) (BK.sem false .len)) (sC (.int 1)) (dAdd false)) sNil)) dRange2)
      (sExpr (sBM (MK.chk .append) (sVar 2) (sCons (s1 (sCons (sComp false (s1 (sCons (sVar 3) (sCons (s1 (sCons (sVar 1) sNil) (BK.sem false .len)) sNil)) dRange2) (.nm 4) [4] (fun _ => ret true) (s2 (s2 (sVar 1) (sVar 4) dIx) (s2 (sVar 1) (s2 (sVar 4) (sVar 3) dSub) dIx) dSub)) sNil) (BK.sem false .max)) sNil) (MK.sem false .append))))
    (sRet (sVar 2))))
def sem_greatest_sums : List D → M D := callIO [] false (bodyS 1 5 b_greatest_sums)
def semM_greatest_sums : List D → M D := callIO [] true (bodyS 1 5 b_greatest_sums)
/-! whole_corners (greatest, found, line, index, top, bottom, later, over, under) -/
def b_whole_corners : MS :=
    sSeq (sAsg (.nm 1) (s1 (sCons (sC (.int 0)) sNil) (newLs true)))
    (sSeq (sAsg (.nm 2) (sBM (MK.chk .index) (sVar 0) (sCons (s2 (sVar 0) (s1 (sC (.int 1)) dNeg) dIx) sNil) (MK.sem false .index)))
    (sSeq (whileL [3, 4, 5, 6, 7, 8] (sTest (s2 (sVar 2) (sC (.int 0)) (cmpSem .Gt)))
      (sSeq (sTup [4, 5, 6] (sCons (sC .non) (sCons (sC .non) (sCons (sC .non) sNil))))
        (sSeq (sFor (.nm 3) [3, 7, 8] (s1 (sCons (sVar 2) sNil) dRange1)
          (sSeq (sTup [7, 8] (sCons (s2 (s2 (sVar 0) (sVar 2) dIx) (s2 (sVar 0) (sVar 3) dIx) dSub) (sCons (s2 (sVar 2) (sVar 3) dSub) sNil)))
            (sIfS (sOr (sTest (s2 (sVar 4) (sC .non) (dIsN false))) (sTest (s2 (s2 (sVar 7) (sVar 5) (dMul false)) (s2 (sVar 4) (sVar 8) (dMul false)) (cmpSem .Lt))))
            (sTup [4, 5, 6] (sCons (sVar 7) (sCons (sVar 8) (sCons (sVar 3) sNil))))
            (sPass))))
        (sSeq (sExpr (sBM (MK.chk .extend) (sVar 1) (sCons (s1 (sCons (s2 (sVar 4) (sVar 5) dDiv) (sCons (s1 (s2 (s1 (sVar 4) dNeg) (sVar 5) dDiv) dNeg) sNil)) (newLs false)) sNil) (MK.sem false .extend)))
        (sAsg (.nm 2) (sVar 6))))) Pg.fuel)
    (sRet (s1 (sVar 1) (dSortSet false)))))
def sem_whole_corners : List D → M D := callIO [] false (bodyS 1 9 b_whole_corners)
def semM_whole_corners : List D → M D := callIO [] true (bodyS 1 9 b_whole_corners)
/-! buffer_for (greatest, rate, index, value) -/
def b_buffer_for : MS :=
    sRet (s1 (sCons (sComp false (s1 (sCons (sVar 0) sNil) dEnum) (.tp [2, 3]) [2, 3] (fun _ => ret true) (s2 (sVar 3) (s2 (sVar 1) (sVar 2) (dMul false)) dSub)) sNil) (BK.sem false .max))
def sem_buffer_for : List D → M D := callIO [] false (bodyS 2 4 b_buffer_for)
def semM_buffer_for : List D → M D := callIO [] true (bodyS 2 4 b_buffer_for)
/-! buffer_pieces (needs, greatest, corners, values, found, index, fall, rate, low, high) -/
def b_buffer_pieces : MS :=
    sSeq (sExpr (s1 (sCons (sVar 0) sNil) Pg.sem_need_needs))
    (sSeq (sAsg (.nm 1) (s1 (sCons (sVar 0) sNil) Pg.sem_greatest_sums))
    (sSeq (sAsg (.nm 2) (s1 (sCons (sVar 1) sNil) Pg.sem_whole_corners))
    (sSeq (sAsg (.nm 3) (sComp false (iSeq (sVar 2)) (.nm 7) [7] (fun _ => ret true) (s1 (sCons (sVar 1) (sCons (sVar 7) sNil)) Pg.sem_buffer_for)))
    (sSeq (sAsg (.nm 4) (s1 sNil (newLs true)))
    (sSeq (sFor (.nm 5) [5, 6, 8, 9] (s1 (sCons (sC (.int 1)) (sCons (s1 (sCons (sVar 2) sNil) (BK.sem false .len)) sNil)) dRange2)
      (sSeq (sTup [8, 9] (sCons (s2 (sVar 2) (s2 (sVar 5) (sC (.int 1)) dSub) dIx) (sCons (s2 (sVar 2) (sVar 5) dIx) sNil)))
        (sSeq (sAsg (.nm 6) (s2 (s2 (s2 (sVar 3) (s2 (sVar 5) (sC (.int 1)) dSub) dIx) (s2 (sVar 3) (sVar 5) dIx) dSub) (s2 (sVar 9) (sVar 8) dSub) dDiv))
        (sIfS (sAnd (sTest (s2 (sVar 4) (s1 sNil (newLs false)) (dEq true))) (sTest (s2 (s2 (s2 (sVar 4) (s1 (sC (.int 1)) dNeg) dIx) (sC (.int 3)) dIx) (sVar 6) (dEq false))))
        (sSet (sVar 4) (s1 (sC (.int 1)) dNeg) (s1 (sCons (s2 (s2 (sVar 4) (s1 (sC (.int 1)) dNeg) dIx) (sC (.int 0)) dIx) (sCons (sVar 9) (sCons (s2 (s2 (sVar 4) (s1 (sC (.int 1)) dNeg) dIx) (sC (.int 2)) dIx) (sCons (sVar 6) sNil)))) newTs))
        (sExpr (sBM (MK.chk .append) (sVar 4) (sCons (s1 (sCons (sVar 8) (sCons (sVar 9) (sCons (s2 (sVar 3) (s2 (sVar 5) (sC (.int 1)) dSub) dIx) (sCons (sVar 6) sNil)))) newTs) sNil) (MK.sem false .append)))))))
    (sSeq (sIfS (sAnd (sTest (s2 (sVar 4) (s1 sNil (newLs false)) (dEq true))) (sTest (s2 (s2 (s2 (sVar 4) (s1 (sC (.int 1)) dNeg) dIx) (sC (.int 3)) dIx) (sC (.int 0)) (dEq false))))
      (sRet (s1 (sStar (sSl false (sVar 4) (sPart none) (sPart (some (s1 (sC (.int 1)) dNeg)))) (sCons (s1 (sCons (s2 (s2 (sVar 4) (s1 (sC (.int 1)) dNeg) dIx) (sC (.int 0)) dIx) (sCons (sC .non) (sCons (s2 (s2 (sVar 4) (s1 (sC (.int 1)) dNeg) dIx) (sC (.int 2)) dIx) (sCons (sC (.int 0)) sNil)))) newTs) sNil)) (newLs true)))
      (sPass))
    (sRet (s1 (sStar (sVar 4) (sCons (s1 (sCons (s2 (sVar 2) (s1 (sC (.int 1)) dNeg) dIx) (sCons (sC .non) (sCons (s2 (sVar 3) (s1 (sC (.int 1)) dNeg) dIx) (sCons (sC (.int 0)) sNil)))) newTs) sNil)) (newLs true)))))))))
def sem_buffer_pieces : List D → M D := callIO [] false (bodyS 1 10 b_buffer_pieces)
def semM_buffer_pieces : List D → M D := callIO [] true (bodyS 1 10 b_buffer_pieces)
/-! law_shape_right (pieces, ends, falls, one) -/
def b_law_shape_right : MS :=
    sSeq (sAsg (.nm 1) (sComp false (iSeq (sVar 0)) (.nm 3) [3] (fun _ => ret true) (s2 (sVar 3) (sC (.int 1)) dIx)))
    (sSeq (sIfS (sOr (sTest (s2 (s2 (s2 (sVar 0) (sC (.int 0)) dIx) (sC (.int 0)) dIx) (sC (.int 0)) (dEq true))) (sOr (sTest (s2 (sComp false (iSeq (sSl false (sVar 0) (sPart (some (sC (.int 1)))) (sPart none))) (.nm 3) [3] (fun _ => ret true) (s2 (sVar 3) (sC (.int 0)) dIx)) (sSl false (sVar 1) (sPart none) (sPart (some (s1 (sC (.int 1)) dNeg)))) (dEq true))) (sOr (sTest (s2 (s2 (sVar 1) (s1 (sC (.int 1)) dNeg) dIx) (sC .non) (dIsN true))) (sTest (s2 (s2 (s2 (sVar 0) (s1 (sC (.int 1)) dNeg) dIx) (sC (.int 3)) dIx) (sC (.int 0)) (dEq true))))))
      (sRet (sC (.bl false)))
      (sPass))
    (sSeq (sAsg (.nm 2) (sComp false (iSeq (sVar 0)) (.nm 3) [3] (fun _ => ret true) (s2 (sVar 3) (sC (.int 3)) dIx)))
    (sSeq (sIfS (sOr (sTest (s2 (sVar 2) (s1 (s1 (sVar 2) (dSortSet false)) (dRev false)) (dEq true))) (sTest (s2 (sComp false (iSeq (sSl false (sVar 0) (sPart none) (sPart (some (s1 (sC (.int 1)) dNeg))))) (.nm 3) [3] (sTest (s2 (s2 (sVar 3) (sC (.int 0)) dIx) (s2 (sVar 3) (sC (.int 1)) dIx) (cmpSem .GtE))) (sVar 3)) (s1 sNil (newLs false)) (dEq true))))
      (sRet (sC (.bl false)))
      (sPass))
    (sRet (s2 (sComp false (iSeq (sVar 0)) (.nm 3) [3] (sOr (sNot (sTest (s1 (sVar 3) (dIsi [.tuple])))) (sTest (s2 (s1 (sCons (sVar 3) sNil) (BK.sem false .len)) (sC (.int 4)) (dEq true)))) (sVar 3)) (s1 sNil (newLs false)) (dEq false))))))
def sem_law_shape_right : List D → M D := callIO [] false (bodyS 1 4 b_law_shape_right)
def semM_law_shape_right : List D → M D := callIO [] true (bodyS 1 4 b_law_shape_right)
/-! need_sizes (numbers, number) -/
def b_need_sizes : MS :=
    sIfS (sTest (s2 (sComp false (iSeq (sVar 0)) (.nm 1) [1] (sTest (s2 (sVar 1) (sC (.int 0)) (cmpSem .Lt))) (sVar 1)) (s1 sNil (newLs false)) (dEq true)))
    (sRaise 5)
    (sPass)
def sem_need_sizes : List D → M D := callIO [] false (bodyS 1 2 b_need_sizes)
def semM_need_sizes : List D → M D := callIO [] true (bodyS 1 2 b_need_sizes)
/-! least_buffer (needs, rate) -/
def b_least_buffer : MS :=
    sSeq (sExpr (s1 (sCons (sVar 0) sNil) Pg.sem_need_needs))
    (sSeq (sExpr (s1 (sCons (s1 (sCons (sVar 1) sNil) (newLs false)) sNil) Pg.sem_need_sizes))
    (sRet (s1 (sCons (s1 (sCons (sVar 0) sNil) Pg.sem_greatest_sums) (sCons (sVar 1) sNil)) Pg.sem_buffer_for)))
def sem_least_buffer : List D → M D := callIO [] false (bodyS 2 2 b_least_buffer)
def semM_least_buffer : List D → M D := callIO [] true (bodyS 2 2 b_least_buffer)
/-! law_buffer (sizes, pace, size, found, here) -/
def b_law_buffer : MS :=
    sSeq (sTup [3, 4] (sCons (sC (.int 0)) (sCons (sC (.int 0)) sNil)))
    (sSeq (sFor (.nm 2) [2] (iSeq (sVar 0))
      (sSeq (sAsg (.nm 4) (s2 (sVar 2) (s1 (sCons (sC (.int 0)) (sCons (s2 (sVar 4) (sVar 1) dSub) sNil)) (BK.sem false .max)) (dAdd false)))
        (sAsg (.nm 3) (s1 (sCons (sVar 3) (sCons (sVar 4) sNil)) (BK.sem false .max)))))
    (sRet (sVar 3)))
def sem_law_buffer : List D → M D := callIO [] false (bodyS 2 5 b_law_buffer)
def semM_law_buffer : List D → M D := callIO [] true (bodyS 2 5 b_law_buffer)
/-! law_by_pieces (pieces, pace, found, low, high, value, fall) -/
def b_law_by_pieces : MS :=
    sSeq (sAsg (.nm 2) (s1 sNil (newLs true)))
    (sSeq (sFor (.tp [3, 4, 5, 6]) [3, 4, 5, 6] (iSeq (sVar 0))
      (sIfS (sAnd (sTest (s2 (sVar 3) (sVar 1) (cmpSem .LtE))) (sOr (sTest (s2 (sVar 4) (sC .non) (dIsN false))) (sTest (s2 (sVar 1) (sVar 4) (cmpSem .LtE)))))
        (sExpr (sBM (MK.chk .append) (sVar 2) (sCons (s2 (sVar 5) (s2 (sVar 6) (s2 (sVar 1) (sVar 3) dSub) (dMul false)) dSub) sNil) (MK.sem false .append)))
        (sPass)))
    (sRet (sVar 2)))
def sem_law_by_pieces : List D → M D := callIO [] false (bodyS 2 7 b_law_by_pieces)
def semM_law_by_pieces : List D → M D := callIO [] true (bodyS 2 7 b_law_by_pieces)
/-! law_great_right (bag, far, sizes, pieces, told, low, high, value, fall, pace, due, one) -/
def b_law_great_right : MS :=
    sSeq (sAsg (.nm 1) (s2 (s1 (sCons (s2 (sC (.int 10)) (sC (.int 6)) dPow) (sCons (s2 (sC (.int 10)) (sC (.int 26)) dPow) sNil)) (newLs false)) (s1 (sCons (sVar 0) (sCons (sC (.int 2)) sNil)) Pg.sem_law_draw) dIx))
    (sSeq (sAsg (.nm 2) (s1 (sCons (sVar 0) (sCons (s2 (s1 (sCons (sC (.int 40)) (sCons (sC (.int 200)) (sCons (sC (.int 40)) sNil))) (newLs false)) (s1 (sCons (sVar 0) (sCons (sC (.int 3)) sNil)) Pg.sem_law_draw) dIx) (sCons (sVar 1) sNil))) Pg.sem_law_needs))
    (sSeq (sAsg (.nm 3) (s1 (sCons (sVar 2) sNil) (sK 1 (fun ds => Pg.sem_buffer_pieces (byPerm [0] ds)))))
    (sSeq (sIfS (sOr (sNot (sTest (s1 (sCons (sVar 3) sNil) Pg.sem_law_shape_right))) (sTest (s2 (s1 (sCons (sVar 2) (sCons (sC (.int 0)) sNil)) Pg.sem_least_buffer) (s1 (sCons (sVar 2) sNil) (BK.sem false .sum)) (dEq true))))
      (sRet (sC (.bl false)))
      (sPass))
    (sSeq (sAsg (.nm 4) (s1 (sCons (sVar 2) sNil) Pg.semM_buffer_pieces))
    (sSeq (sExpr (sBM (MK.chk .append) (sVar 4) (sCons (sC .non) sNil) (MK.sem false .append)))
    (sSeq (sIfS (sTest (s2 (s1 (sCons (sVar 2) sNil) Pg.sem_buffer_pieces) (sVar 3) (dEq true)))
      (sRet (sC (.bl false)))
      (sPass))
    (sSeq (sFor (.tp [5, 6, 7, 8]) [4, 5, 6, 7, 8, 9, 10] (iSeq (s2 (sSl false (sVar 3) (sPart none) (sPart (some (sC (.int 2))))) (sSl false (sVar 3) (sPart (some (s1 (sC (.int 2)) dNeg))) (sPart none)) (dAdd false)))
      (sFor (.nm 9) [4, 9, 10] (iSeq (s2 (s1 (sCons (sVar 5) (sCons (s2 (sVar 5) (sC (.int 1)) (dAdd false)) (sCons (s2 (sVar 5) (s1 (sCons (sVar 0) (sCons (sVar 1) sNil)) Pg.sem_law_draw) (dAdd false)) sNil))) (newLs false)) (s2 (s1 (sCons (sVar 6) sNil) (newLs false)) (s1 (sCons (s2 (sVar 6) (sC .non) (dIsN true)) sNil) (BK.sem false .int)) (dMul false)) (dAdd false)))
        (sSeq (sAsg (.nm 10) (s1 (sCons (sVar 2) (sCons (sVar 9) sNil)) Pg.sem_law_buffer))
          (sSeq (sAsg (.nm 4) (s1 (sCons (sVar 3) (sCons (sVar 9) sNil)) Pg.semM_law_by_pieces))
          (sIfS (sOr (sTest (s2 (s1 (sCons (sVar 9) (sCons (sVar 2) sNil)) (sK 2 (fun ds => Pg.sem_least_buffer (byPerm [1, 0] ds)))) (sVar 10) (dEq true))) (sOr (sTest (s2 (sComp false (iSeq (sVar 4)) (.nm 11) [11] (sTest (s2 (sVar 11) (sVar 10) (dEq true))) (sVar 11)) (s1 sNil (newLs false)) (dEq true))) (sTest (s2 (sVar 4) (s1 sNil (newLs false)) (dEq false)))))
          (sRet (sC (.bl false)))
          (sPass))))))
    (sRet (sC (.bl true))))))))))
def sem_law_great_right : List D → M D := callIO [true] false (bodyS 1 12 b_law_great_right)
def semM_law_great_right : List D → M D := callIO [true] true (bodyS 1 12 b_law_great_right)
/-! law_small_right (bag, sizes, pace, values, falls, pieces, top, due, one, two) -/
def b_law_small_right : MS :=
    sSeq (sAsg (.nm 1) (s1 (sCons (sVar 0) (sCons (sC (.int 12)) (sCons (sC (.int 6)) sNil))) Pg.sem_law_needs))
    (sSeq (sTup [5, 6] (sCons (s1 (sCons (sVar 1) sNil) Pg.sem_buffer_pieces) (sCons (s2 (sC (.int 2)) (s1 (sCons (sVar 1) sNil) (BK.sem false .sum)) (dAdd false)) sNil)))
    (sSeq (sIfS (sNot (sTest (s1 (sCons (sVar 5) sNil) Pg.sem_law_shape_right)))
      (sRet (sC (.bl false)))
      (sPass))
    (sSeq (sFor (.nm 2) [2, 7] (s1 (sCons (sVar 6) sNil) dRange1)
      (sSeq (sAsg (.nm 7) (s1 (sCons (sVar 1) (sCons (sVar 2) sNil)) Pg.sem_law_buffer))
        (sSeq (sIfS (sNot (sTest (s1 (sCons (s1 (sCons (sVar 1) (sCons (sVar 2) sNil)) Pg.sem_least_buffer) (sCons (sVar 7) sNil)) Pg.sem_law_alike)))
          (sRet (sC (.bl false)))
          (sPass))
        (sIfS (sOr (sTest (s2 (sComp false (iSeq (s1 (sCons (sVar 5) (sCons (sVar 2) sNil)) Pg.sem_law_by_pieces)) (.nm 8) [8] (sTest (s2 (sVar 8) (sVar 7) (dEq true))) (sVar 8)) (s1 sNil (newLs false)) (dEq true))) (sTest (s2 (s1 (sCons (sVar 5) (sCons (sVar 2) sNil)) Pg.sem_law_by_pieces) (s1 sNil (newLs false)) (dEq false))))
        (sRet (sC (.bl false)))
        (sPass)))))
    (sSeq (sAsg (.nm 3) (sComp false (s1 (sCons (s2 (sVar 6) (sC (.int 1)) (dAdd false)) sNil) dRange1) (.nm 2) [2] (fun _ => ret true) (s1 (sCons (sVar 1) (sCons (sVar 2) sNil)) Pg.sem_law_buffer)))
    (sSeq (sAsg (.nm 4) (sComp false (s1 (sCons (sVar 3) (sCons (sSl false (sVar 3) (sPart (some (sC (.int 1)))) (sPart none)) sNil)) dZip) (.tp [8, 9]) [8, 9] (fun _ => ret true) (s2 (sVar 8) (sVar 9) dSub)))
    (sRet (s2 (sComp false (iSeq (sVar 5)) (.nm 8) [8] (fun _ => ret true) (s2 (sVar 8) (sC (.int 3)) dIx)) (s1 (s1 (s2 (sVar 4) (s1 (sCons (sC (.int 0)) sNil) (newLs false)) (dAdd false)) (dSortSet false)) (dRev false)) (dEq false))))))))
def sem_law_small_right : List D → M D := callIO [true] false (bodyS 1 10 b_law_small_right)
def semM_law_small_right : List D → M D := callIO [true] true (bodyS 1 10 b_law_small_right)
/-! law (script, bag, turn, told) -/
def b_law : MS :=
    sSeq (sAsg (.nm 1) (s1 (sCons (sVar 0) sNil) Pg.semM_law_bag))
    (sSeq (sFor (.nm 2) [2] (s1 (sCons (sC (.int 3)) sNil) dRange1)
      (sIfS (sNot (sTest (s1 (sCons (sVar 1) sNil) Pg.sem_law_small_right)))
        (sRet (sC (.bl false)))
        (sPass)))
    (sSeq (sIfS (sNot (sTest (s1 (sCons (sVar 1) sNil) Pg.sem_law_great_right)))
      (sRet (sC (.bl false)))
      (sPass))
    (sSeq (sAsg (.nm 3) (s1 (sCons (s1 (sCons (s1 (sCons (sC (.int 2)) (sCons (sC (.int 0)) (sCons (sC (.int 7)) (sCons (sC (.int 1)) sNil)))) (newLs false)) sNil) Pg.sem_buffer_pieces) (sCons (s1 (sCons (s1 (sCons (sC (.int 0)) (sCons (sC (.int 0)) sNil)) (newLs false)) sNil) Pg.sem_buffer_pieces) (sCons (s1 (sCons (s1 (sCons (sC (.int 2)) (sCons (sC (.int 0)) (sCons (sC (.int 7)) (sCons (sC (.int 1)) sNil)))) (newLs false)) (sCons (sC (.int 0)) sNil)) Pg.sem_least_buffer) sNil))) (newLs true)))
    (sSeq (sExpr (sBM (MK.chk .append) (sVar 3) (sCons (s1 (sCons (s1 (sCons (sC (.int 5)) sNil) (newLs false)) (sCons (s2 (sC (.int 10)) (sC (.int 29)) dPow) sNil)) Pg.sem_least_buffer) sNil) (MK.sem false .append)))
    (sRet (s1 (sCons (sVar 3) (sCons (s1 (sCons (s1 (sCons (s1 (sCons (sC (.int 0)) (sCons (sC (.int 1)) (sCons (sC (.int 10)) (sCons (sC (.int 3)) sNil)))) newTs) (sCons (s1 (sCons (sC (.int 1)) (sCons (sC .non) (sCons (sC (.int 7)) (sCons (sC (.int 0)) sNil)))) newTs) sNil)) (newLs false)) (sCons (s1 (sCons (s1 (sCons (sC (.int 0)) (sCons (sC .non) (sCons (sC (.int 0)) (sCons (sC (.int 0)) sNil)))) newTs) sNil) (newLs false)) (sCons (sC (.int 10)) (sCons (sC (.int 5)) sNil)))) (newLs false)) sNil)) Pg.sem_law_alike))))))
def sem_law : List D → M D := callIO [] false (bodyS 1 4 b_law)
def semM_law : List D → M D := callIO [] true (bodyS 1 4 b_law)
end Pg

set_option Elab.async false
set_option linter.all false
set_option maxRecDepth 100000
set_option maxHeartbeats 1000000
/-! PgB: the bag of the laws, and what is drawn out of it. -/
namespace Pg
open PySem PyProof.Rows L2 Ev

/-! ### small things -/
@[simp] theorem atI_lit {α : Type} {xs : List α} {n : Nat} : L2.atI xs (no_index (OfNat.ofNat n) : Int) = xs[(OfNat.ofNat n : Nat)]? := by
  unfold L2.atI L2.ixN
  have e : ((OfNat.ofNat n : Int)) = ((n : Nat) : Int) := rfl
  rw [e, if_pos (Int.natCast_nonneg n)]
  show _ = xs[n]?
  by_cases h : n < xs.length
  · rw [if_pos (by omega)]; simp
  · rw [if_neg (by omega), List.getElem?_eq_none (by omega)]; rfl
theorem atI_n {α : Type} {xs : List α} {n : Nat} : L2.atI xs (n : Int) = xs[n]? := by
  by_cases h : n < xs.length
  · rw [List.getElem?_eq_getElem h]; exact L2.atI_nat (List.getElem?_eq_getElem h)
  · rw [List.getElem?_eq_none (by omega)]
    unfold L2.atI L2.ixN
    rw [if_pos (by omega), if_neg (by omega)]; rfl
theorem lg_le {n k : Nat} (h : n < 2 ^ k) : n.log2 ≤ k := by
  by_cases h0 : n = 0
  · subst h0; simp
  · exact Nat.le_of_lt ((Nat.log2_lt h0).mpr h)
theorem lg_int {i : Int} {k : Nat} (h0 : 0 ≤ i) (h : i < 2 ^ k) : i.natAbs.log2 ≤ k := lg_le (by
  have : (i.natAbs : Int) < ((2 ^ k : Nat) : Int) := by
    rw [Int.natAbs_of_nonneg h0]
    exact_mod_cast h
  exact_mod_cast this)
theorem bits_le {i : Int} {k : Nat} (h0 : 0 ≤ i) (h : i < 2 ^ k) : Builtin.Int.intBits i ≤ k := PyProof.Rows.intBits_le (by
  have : (i.natAbs : Int) < ((2 ^ k : Nat) : Int) := by
    rw [Int.natAbs_of_nonneg h0]
    exact_mod_cast h
  exact_mod_cast this)
/-- a def that makes a new list -/
theorem io_new {n len : Nat} {g : MS} {ds : List D} {j : Nat} {ys : List D} {S S' : Store} (h : nrDs ds = true) (hl : ds.length = n) (hg : g (ds.map some ++ List.replicate (len - n) none) [] = .rt (.ref j) S') (hj : S'[j]? = some (.lst ys)) (hy : nrDs ys = true) :
    callIO [] true (bodyS n len g) ds S = .ok (.ref S.length) (S ++ [.lst ys]) := by
  have hlt : j < S'.length := (List.getElem?_eq_some_iff.mp hj).1
  unfold callIO
  rw [prep_nr h]
  simp only [orStuck, subS]
  unfold bodyS
  rw [if_pos hl]
  simp only [hg, ioEnd, cfzAll, List.length_nil, o1, backW, Nat.not_lt_zero, if_false]
  have hc : cfz j S' = some ((), S'.set j (.lst ys)) := by
    unfold cfz
    simp only [hj, fzDs, mapRs_nr hy, o1]
  simp only [hc, List.getElem?_set_self hlt, okC, hy, if_true]
theorem cfz_lst {k : Nat} {xs : List D} {S : Store} (h : S[k]? = some (.lst xs)) (n : nrDs xs = true) : cfz k S = some ((), S) := by
  have hlt := (List.getElem?_eq_some_iff.mp h).1
  unfold cfz
  simp only [h, fzDs, mapRs_nr n, o1]
  congr
  rw [← (List.getElem?_eq_some_iff.mp h).2]
  exact List.set_getElem_self hlt
/-- a def that is handed one cell, and plain data -/
theorem io_cell {n len k : Nat} {g : MS} {ds : List D} {d d' : D} {xs ys : List D} {S S' S'' : Store} (hk : S[k]? = some (.lst xs)) (hx : nrDs xs = true) (h : nrDs ds = true) (hl : (D.ref 0 :: ds).length = n)
    (hg : g ((D.ref 0 :: ds).map some ++ List.replicate (len - n) none) [.lst xs] = .rt d S') (hf : fzD d S' = some (d', S'')) (h0 : S''[0]? = some (.lst ys)) (hy : nrDs ys = true) :
    callIO [true] false (bodyS n len g) (.ref k :: ds) S = .ok d' (S.set k (.lst ys)) := by
  unfold callIO
  have hp : prep [true] (.ref k :: ds) [] S = some (.ref 0 :: ds, [k], S) := by
    unfold prep
    simp only [List.headD_cons, List.not_mem_nil, if_false, cfz_lst hk hx, o1, List.tail_cons, List.nil_append, List.length_nil]
    rw [prep_nr h]
  rw [hp]
  have hsub : subS [k] S = some [.lst xs] := by
    unfold subS
    simp only [hk, o1, okC, hx, gd, if_true, subS]
  simp only [orStuck, hsub]
  unfold bodyS
  rw [if_pos hl]
  simp only [hg, hf]
  have he : ioEnd [k] S S'' = some (S.set k (.lst ys), S'') := by
    unfold ioEnd
    have c1 : cfzAll [k].length S'' = some ((), S'') := by
      show cfzAll 1 S'' = _
      unfold cfzAll cfzAll
      simp only [o1, cfz_lst h0 hy]
    simp only [c1, o1]
    unfold backW
    simp only [h0, o1, okC, hy, gd, if_true, backW]
  rw [he]

/-! ### the bag -/
structure Bag where
  xs : List Int
  i : Nat
  cur : Int
  stir : Int
  n : Int
abbrev Bag.items (b : Bag) : List D := [.lst (b.xs.map D.int), .int b.i, .int b.cur, .int b.stir, .int b.n]
abbrev Bag.cell (b : Bag) : Cell := .lst b.items
/-- m: not more than m turns were stirred -/
structure Bag.Ok (b : Bag) (m : Int) : Prop where
  xs0 : ∀ x ∈ b.xs, 0 ≤ x
  i : b.i ≤ b.xs.length
  cur : 0 ≤ b.cur
  s0 : 0 ≤ b.stir
  s1 : b.stir < 2147483647
  n0 : 0 ≤ b.n
  n1 : b.n ≤ m
theorem Bag.Ok.mono {b : Bag} {m m' : Int} (h : b.Ok m) (l : m ≤ m') : b.Ok m' := ⟨h.xs0, h.i, h.cur, h.s0, h.s1, h.n0, Int.le_trans h.n1 l⟩
/-- more than any law stirs -/
def Most : Int := 1000000000000
/-- a number that may be asked for -/
structure Wide (w : Int) : Prop where
  pos : 0 < w
  few : w < 2 ^ 2000
theorem Wide.lg {w : Int} (h : Wide w) : w.natAbs.log2 ≤ 2000 := lg_int (Int.le_of_lt h.pos) h.few
theorem bag_nr (b : Bag) : nrDs b.items = true := by simp
@[simp] theorem ixN_lit {n i : Nat} : L2.ixN n (no_index (OfNat.ofNat i) : Int) = if (OfNat.ofNat i : Nat) < n then some (OfNat.ofNat i) else none := by
  unfold L2.ixN
  have e : ((OfNat.ofNat i : Int)) = ((i : Nat) : Int) := rfl
  rw [e, if_pos (by omega)]
  show _ = if i < n then some i else none
  by_cases h : i < n
  · rw [if_pos (by omega), if_pos h]; simp
  · rw [if_neg (by omega), if_neg h]
/-! stirred -/
abbrev sbody : MS := (sSeq (sSet (sVar 0) (sC (.int 4)) (s2 (s2 (sVar 0) (sC (.int 4)) dIx) (sC (.int 1)) (dAdd false)))
        (sSeq (sAsg (.nm 4) (s2 (s2 (s2 (s2 (s2 (sVar 0) (sC (.int 3)) dIx) (sC (.int 3)) dPow) (s2 (sC (.int 69621)) (s2 (sVar 0) (sC (.int 3)) dIx) (dMul false)) (dAdd false)) (s2 (sC (.int 1031)) (s2 (sVar 0) (sC (.int 4)) dIx) (dMul false)) (dAdd false)) (sC (.int 1)) (dAdd false)))
        (sSeq (sSet (sVar 0) (sC (.int 3)) (s2 (s1 (sCons (sVar 4) sNil) (BK.sem false .int)) (sC (.int 2147483647)) dMod))
        (sAsg (.nm 2) (s2 (s2 (sVar 2) (sC (.int 134217728)) (dMul false)) (s2 (s2 (sVar 0) (sC (.int 3)) dIx) (sC (.int 16)) dDiv) (dAdd false))))))
theorem stir_turn {b : Bag} {m : Int} (ok : b.Ok m) (hm : m ≤ Most) {w f k : Int} {j : Nat} (f0 : 0 ≤ f) (f1 : f < 2 ^ (27 * j)) (hj : j ≤ 100) (z : Option D) :
    ∃ (b' : Bag) (f' : Int) (e : Option D), sbody [some (.ref 0), some (.int w), some (.int f), some (.int k), z] [b.cell] = .nx [some (.ref 0), some (.int w), some (.int f'), some (.int k), e] [b'.cell] ∧
      b'.Ok (m + 1) ∧ b'.xs = b.xs ∧ b'.i = b.i ∧ b'.cur = b.cur ∧ 0 ≤ f' ∧ f' < 2 ^ (27 * (j + 1)) := by
  obtain ⟨xs, i, cur, st, n⟩ := b
  have h3 := ok.s0; have h4 := ok.s1; have h5 := ok.n0; have h6 := ok.n1
  unfold Most at hm
  dsimp only at h3 h4 h5 h6
  have p1 : (Builtin.Int.intBits st : Int) * 3 ≤ 2 ^ 27 := by
    have : Builtin.Int.intBits st ≤ 31 := bits_le h3 (by omega)
    omega
  have p2 : (69621 : Int).natAbs.log2 + st.natAbs.log2 < 1000000 := by
    have := lg_int (k := 31) h3 (by omega)
    have : (69621 : Int).natAbs.log2 = 16 := by decide
    omega
  have p3 : (1031 : Int).natAbs.log2 + (n + 1).natAbs.log2 < 1000000 := by
    have := lg_int (i := n + 1) (k := 50) (by omega) (by omega)
    have : (1031 : Int).natAbs.log2 = 10 := by decide
    omega
  have p4 : f.natAbs.log2 + (134217728 : Int).natAbs.log2 < 1000000 := by
    have := lg_int f0 f1
    have : (134217728 : Int).natAbs.log2 = 27 := by decide
    omega
  refine ⟨⟨xs, i, cur, (st ^ 3 + 69621 * st + 1031 * (n + 1) + 1) % 2147483647, n + 1⟩, f * 134217728 + (st ^ 3 + 69621 * st + 1031 * (n + 1) + 1) % 2147483647 / 16, some (.int (st ^ 3 + 69621 * st + 1031 * (n + 1) + 1)), ?_, ⟨ok.xs0, ok.i, ok.cur, by dsimp only; omega, by dsimp only; omega, by dsimp only; omega, by dsimp only; omega⟩, rfl, rfl, rfl, by omega, ?_⟩
  · simp [sbody, stc, Bag.items, Bag.cell, dPow_int (i := st) (j := 3) (by decide) p1, dMul_int p2, dMul_int p3, dMul_int p4, dMod_int (i := st ^ 3 + 69621 * st + 1031 * (n + 1) + 1) (j := 2147483647) (by decide),
      dDiv_int (i := (st ^ 3 + 69621 * st + 1031 * (n + 1) + 1) % 2147483647) (j := 16) (by decide) (by decide)]
  · have e : (2 : Int) ^ (27 * (j + 1)) = 2 ^ (27 * j) * 134217728 := by
      rw [show 27 * (j + 1) = 27 * j + 27 by omega, Int.pow_add]; rfl
    rw [e]
    generalize (2 : Int) ^ (27 * j) = p at f1
    omega
@[simp] theorem dRange1_int {j : Int} {S : Store} : dRange1 [.int j] S = if okR j = true then .ok (rangeD 0 j.toNat) S else .stuck := (rfl)
@[simp] theorem dRange2_int {i j : Int} {S : Store} : dRange2 [.int i, .int j] S = if (okR i && okR j) = true then .ok (rangeD i (j - i).toNat) S else .stuck := (rfl)
theorem okR_of {i : Int} (h1 : -4000000000000000000 ≤ i) (h2 : i ≤ 4000000000000000000) : okR i = true := by
  unfold okR
  simp only [Bool.and_eq_true, decide_eq_true_eq]
  omega
theorem rangeD_get {lo : Int} {n i : Nat} {d : D} (h : (rangeD lo n)[i]? = some d) : d = .int (lo + i) ∧ i < n := by
  unfold rangeD at h
  rw [List.getElem?_map] at h
  by_cases hi : i < n
  · rw [List.getElem?_range hi] at h
    cases h
    exact ⟨rfl, hi⟩
  · rw [List.getElem?_eq_none (by simpa using hi)] at h
    cases h
/-- what stays of a bag that was stirred -/
structure Bag.Same (b b' : Bag) : Prop where
  xs : b'.xs = b.xs
  i : b'.i = b.i
  cur : b'.cur = b.cur
theorem stirred_eq {b : Bag} {m : Int} {S : Store} {k : Nat} {w : Int} (hk : S[k]? = some b.cell) (ok : b.Ok m) (hm : m + 100 ≤ Most) (W : Wide w) :
    ∃ (b' : Bag) (r : Int), sem_law_stirred [.ref k, .int w] S = .ok (.int r) (S.set k b'.cell) ∧ b'.Ok (m + 100) ∧ b.Same b' ∧ 0 ≤ r ∧ r < w := by
  have w0 := W.pos
  have hb : Builtin.Int.intBits w ≤ 2000 := bits_le (Int.le_of_lt w0) W.few
  have hbi : (Builtin.Int.intBits w : Int) / 27 ≤ 75 ∧ 0 ≤ (Builtin.Int.intBits w : Int) / 27 := by omega
  obtain ⟨t, ht⟩ : ∃ t : Nat, (1 + (Builtin.Int.intBits w : Int) / 27) = (t : Int) := ⟨(1 + (Builtin.Int.intBits w : Int) / 27).toNat, by omega⟩
  have ht2 : t ≤ 76 := by omega
  have loop : ∃ (b' : Bag) (f' : Int), forL (.nm 3) [3, 4] sbody (rangeD 0 t) [some (.ref 0), some (.int w), some (.int 0), none, none] [b.cell] = .nx [some (.ref 0), some (.int w), some (.int f'), none, none] [b'.cell] ∧ b'.Ok (m + 100) ∧ b.Same b' := by
    refine forL_gen (fun r => ∃ (b' : Bag) (f' : Int), r = .nx [some (.ref 0), some (.int w), some (.int f'), none, none] [b'.cell] ∧ b'.Ok (m + 100) ∧ b.Same b')
      (fun i e S => ∃ (b' : Bag) (f' : Int), e = [some (.ref 0), some (.int w), some (.int f'), none, none] ∧ S = [b'.cell] ∧ b'.Ok (m + i) ∧ b.Same b' ∧ 0 ≤ f' ∧ f' < 2 ^ (27 * i))
      ⟨b, 0, by simp, rfl, ok.mono (by simp), ⟨rfl, rfl, rfl⟩, by omega, by simp⟩ (fun i d e S hi ⟨b', f', he, hS, o, sm, f0, f1⟩ => ?_) fun e S ⟨b', f', he, hS, o, sm, _, _⟩ => ?_
    · obtain ⟨rfl, hlt⟩ := rangeD_get hi
      subst he; subst hS
      obtain ⟨b2, f2, z, h1, h2, h3, h4, h5, h6, h7⟩ := stir_turn o (w := w) (f := f') (k := 0 + (i : Int)) (j := i) (by omega) f0 f1 (by omega) none
      refine ⟨_, rfl, ?_⟩
      simp only [List.set_cons_succ, List.set_cons_zero]
      rw [h1]
      exact ⟨b2, f2, by simp, rfl, h2.mono (by simp; omega), ⟨h3.trans sm.xs, h4.trans sm.i, h5.trans sm.cur⟩, h6, h7⟩
    · exact ⟨b', f', by rw [he, hS], o.mono (by rw [rangeD_len]; omega), sm⟩
  obtain ⟨b', f', h1, h2, h3⟩ := loop
  refine ⟨b', f' % w, io_cell hk (by simp) (by simp) rfl (d := .int (f' % w)) (S' := [b'.cell]) (S'' := [b'.cell]) ?_ (fz_nr rfl) rfl (by simp), h2, h3, Int.emod_nonneg _ (by omega), Int.emod_lt_of_pos _ w0⟩
  have h1' := h1
  simp [b_law_stirred, dDiv_int (i := (Builtin.Int.intBits w : Int)) (j := 27) (by decide) (by decide), ht, okR_of (i := (t : Int)) (by omega) (by omega)]
  simp only [sbody, bk_int] at h1'
  simp only [Bag.cell, Bag.items] at h1'
  rw [h1']
  simp [dMod_int w0]
/-! drawn -/
theorem draw_eq {b : Bag} {m : Int} {S : Store} {k : Nat} {w : Int} (hk : S[k]? = some b.cell) (ok : b.Ok m) (hm : m + 100 ≤ Most) (W : Wide w) :
    ∃ (b' : Bag) (r : Int), sem_law_draw [.ref k, .int w] S = .ok (.int r) (S.set k b'.cell) ∧ b'.Ok (m + 100) ∧ 0 ≤ r ∧ r < w := by
  have w0 := W.pos
  have wl : w.natAbs.log2 < 9000 := by have := W.lg; omega
  have h1 := ok.xs0; have h2 := ok.i; have h3 := ok.cur; have h5 := ok.s0; have h6 := ok.s1; have h7 := ok.n0; have h8 := ok.n1
  obtain ⟨xs, i, cur, st, n⟩ := b
  dsimp only at h1 h2 h3 h5 h6 h7 h8
  by_cases c0 : cur = 0
  · by_cases c1 : i < xs.length
    · have x0 : 0 ≤ xs[i] := h1 _ (List.getElem_mem c1)
      have gx : (xs.map D.int)[i]? = some (.int xs[i]) := by rw [List.getElem?_map, List.getElem?_eq_getElem c1]; rfl
      refine ⟨⟨xs, i + 1, xs[i] / w, st, n⟩, xs[i] % w, io_cell hk (by simp) (by simp) rfl (d := .int (xs[i] % w)) (S' := [Bag.cell ⟨xs, i + 1, xs[i] / w, st, n⟩]) (S'' := [Bag.cell ⟨xs, i + 1, xs[i] / w, st, n⟩]) ?_ (fz_nr rfl) rfl (by simp),
        ⟨h1, by dsimp only; omega, Int.ediv_nonneg x0 (by omega), h5, h6, h7, by dsimp only; omega⟩, Int.emod_nonneg _ (by omega), Int.emod_lt_of_pos _ w0⟩
      subst c0
      simp [b_law_draw, stc, Bag.items, Bag.cell, c1, atI_n, gx, dMod_int w0, dDiv_int w0 wl]
    · obtain ⟨b', r, e1, e2, e3, e4⟩ := stirred_eq (b := ⟨xs, i, cur, st, n⟩) (S := [Bag.cell ⟨xs, i, cur, st, n⟩]) (k := 0) rfl ok hm W
      obtain ⟨e4, e5⟩ := e4
      refine ⟨b', r, io_cell hk (by simp) (by simp) rfl (d := .int r) (S' := [b'.cell]) (S'' := [b'.cell]) ?_ (fz_nr rfl) rfl (by simp), e2, e4, e5⟩
      subst c0
      simp [b_law_draw, stc, Bag.items, Bag.cell, c1] at e1 ⊢
      rw [e1]
      simp
  · refine ⟨⟨xs, i, cur / w, st, n⟩, cur % w, io_cell hk (by simp) (by simp) rfl (d := .int (cur % w)) (S' := [Bag.cell ⟨xs, i, cur / w, st, n⟩]) (S'' := [Bag.cell ⟨xs, i, cur / w, st, n⟩]) ?_ (fz_nr rfl) rfl (by simp),
      ⟨h1, h2, Int.ediv_nonneg h3 (by omega), h5, h6, h7, by dsimp only; omega⟩, Int.emod_nonneg _ (by omega), Int.emod_lt_of_pos _ w0⟩
    simp [b_law_draw, stc, Bag.items, Bag.cell, c0, dMod_int w0, dDiv_int w0 wl]
end Pg

set_option Elab.async false
set_option linter.all false
set_option maxRecDepth 100000
set_option maxHeartbeats 1000000
/-! PgC: the bag that a law begins with; alike. -/
namespace Pg
open PySem L2 Ev

theorem cutD_map {c : Int → D} {xs : List Int} (lo hi : Option Int) : cutD (xs.map c) lo hi = (((xs.drop (HT.sIx xs.length 0 lo)).take (HT.sIx xs.length xs.length hi - HT.sIx xs.length 0 lo))).map c := by
  unfold cutD
  simp [List.map_drop, List.map_take]
@[simp] theorem dSl_scr {xs : List Int} {lo hi : Option Int} {mu : Bool} {S : Store} : dSl mu (.scr xs) lo hi S = newL mu (cutD (xs.map D.int) lo hi) S := (rfl)
theorem bag_turns (m1 : MS) (hm : m1 = (sAsg (.nm 1) (s2 (s1 (sCons (s2 (s2 (s2 (sVar 1) (sC (.int 48271)) (dMul false)) (s2 (s1 (sCons (sVar 2) sNil) (BK.sem false .int)) (sC (.int 2147483629)) dMod) (dAdd false)) (sC (.int 1)) (dAdd false)) sNil) (BK.sem false .int)) (sC (.int 2147483647)) dMod))) :
    ∀ (xs : List Int) (st : Int) (w z : Option D), 0 ≤ st → st < 2147483647 → ∃ st', 0 ≤ st' ∧ st' < 2147483647 ∧ forL (.nm 2) [2] m1 (xs.map D.int) [w, some (.int st), z] [] = .nx [w, some (.int st'), none] []
  | [], st, w, z, h1, h2 => ⟨st, h1, h2, by simp [forL]⟩
  | x :: xs, st, w, z, h1, h2 => by
    obtain ⟨st', a, b, c⟩ := bag_turns m1 hm xs ((st * 48271 + x % 2147483629 + 1) % 2147483647) w (some (.int x)) (by omega) (by omega)
    refine ⟨st', a, b, ?_⟩
    have p : st.natAbs.log2 + (48271 : Int).natAbs.log2 < 1000000 := by
      have := lg_int (k := 31) h1 (by omega)
      have : (48271 : Int).natAbs.log2 = 15 := by decide
      omega
    rw [List.map_cons]
    unfold forL
    simp [hm, dMul_int p, dMod_int (i := x) (j := 2147483629) (by decide), dMod_int (i := st * 48271 + x % 2147483629 + 1) (j := 2147483647) (by decide)]
    simpa [hm] using c
theorem bag_eq (ns : List Int) (S : Store) (hl : ns.length ≤ 63) : ∃ b : Bag, semM_law_bag [.scr ns] S = .ok (.ref S.length) (S ++ [b.cell]) ∧ b.Ok 0 := by
  obtain ⟨ys, hy, hyl⟩ : ∃ ys : List Int, cutD (ns.map D.int) none (some 63) = ys.map D.int ∧ ys.length ≤ 63 := ⟨_, cutD_map _ _, by simp; omega⟩
  obtain ⟨st, s0, s1, loop⟩ := bag_turns _ rfl ys 141 (some (.scr ns)) none (by decide) (by decide)
  refine ⟨⟨ys.map fun x => (x.natAbs : Int) % (10 ^ 60) ^ 10, 0, 0, st, 0⟩, io_new (j := 0) (S' := [Bag.cell ⟨ys.map fun x => (x.natAbs : Int) % (10 ^ 60) ^ 10, 0, 0, st, 0⟩]) (by simp) rfl ?_ rfl (by simp [← List.map_map]), ⟨fun x hx => ?_, Nat.zero_le _, Int.le_refl _, s0, s1, Int.le_refl _, Int.le_refl _⟩⟩
  · simp [b_law_bag, hy]
    simp at loop
    rw [loop]
    simp [hy]
    rw [sComp_of (items := ys.map D.int) (S1 := []) (ys := (ys.map fun x => D.int ((x.natAbs : Int) % (10 ^ 60) ^ 10))) (S2 := []) (by simp [hy]) (by rw [sizeL]; simp; omega) (by
      refine compL_mapOf (c := D.int) fun x hx => ⟨_, rfl, rfl, ?_⟩
      have q1 : (Builtin.Int.intBits 10 : Int) * 60 ≤ 2 ^ 27 := by
        have : Builtin.Int.intBits 10 ≤ 4 := bits_le (by decide) (by decide)
        omega
      have q2 : (Builtin.Int.intBits (10 ^ 60) : Int) * 10 ≤ 2 ^ 27 := by
        have : Builtin.Int.intBits (10 ^ 60) ≤ 200 := bits_le (by decide) (by decide)
        omega
      have e1 : dPow (.int 10) (.int 60) [] = .ok (.int (10 ^ 60)) [] := dPow_int (by decide) q1
      have e2 : dPow (.int (10 ^ 60)) (.int 10) [] = .ok (.int ((10 ^ 60) ^ 10)) [] := dPow_int (by decide) q2
      simp only [sBM_ap, s2_ap, s1_ap, sCons_ap, sVar_ap, sC_ap, sNil_ap, rb_ok, bk_int, bk_abs, wipeD_cons, wipeD_nil, List.set_cons_succ, List.set_cons_zero, List.getElem?_cons_succ, List.getElem?_cons_zero, vr_some, dAbs_int, dInt_int, e1, e2]
      exact dMod_int (by decide))]
    rw [newL_f]
    simp only [rb_ok]
    rw [newLs_ap (by rw [sizeL]; simp)]
    simp
  · obtain ⟨y, _, rfl⟩ := List.mem_map.mp hx
    exact Int.emod_nonneg _ (by decide)
end Pg

set_option Elab.async false
set_option linter.all false
set_option maxRecDepth 100000
set_option maxHeartbeats 1000000
/-! PgD: alike of a value and itself. -/
namespace Pg
open PySem L2 Ev

theorem compL_true {t : Tg} {elt : Envd → M D} {env : Envd} {S : Store} {items : List D} (h : ∀ d ∈ items, ∃ e1, t.bind d env S = .ok e1 S ∧ elt e1 S = .ok (.bl true) S) :
    compL t (fun _ => ret true) elt env items S = .ok ((List.replicate items.length true).map D.bl) S := by
  have := compL_map (t := t) (test := fun _ => ret true) (elt := elt) (env := env) (S := S) (f := fun _ => D.bl true) (items := items) fun d hd => by
    obtain ⟨e1, a, b⟩ := h d hd
    exact ⟨e1, a, rfl, b⟩
  rw [this]
  congr 1
  simp [List.map_const']
mutual
/-- few enough to be walked -/
def fewD : D → Bool
  | .lst xs => decide (xs.length ≤ 100000) && fewDs xs
  | .tup xs => decide (xs.length ≤ 100000) && fewDs xs
  | _ => true
def fewDs : List D → Bool
  | [] => true
  | d :: ds => fewD d && fewDs ds
end
theorem fewDs_mem {ds : List D} (h : fewDs ds = true) : ∀ d ∈ ds, fewD d = true := by
  induction ds with
  | nil => intro d hd; cases hd
  | cons e ds ih =>
    simp only [fewDs, Bool.and_eq_true] at h
    intro d hd
    rcases List.mem_cons.mp hd with rfl | hd
    · exact h.1
    · exact ih h.2 d hd
theorem alike_seq {self : List D → M D} {d : D} {t : String} {xs : List D} {S : Store} (ht : tyD [] d = some t) (hb : (isB t "list" || isB t "tuple") = true) (hl : dLen [d] [] = .ok (.int xs.length) []) (hi : ∀ (i : Nat) (x : D), xs[i]? = some x → dIx d (.int i) [] = .ok x [])
    (few : xs.length ≤ 100000) (ih : ∀ x ∈ xs, self [x, x] [] = .ok (.bl true) []) (hn : nrD d = true) : callIO [] false (bodyS 2 3 (b_law_alike self)) [d, d] S = .ok (.bl true) S := by
  refine io_pure (d := .bl true) (S' := []) (S'' := []) (by simp [hn]) rfl ?_ rfl
  have comp : sComp false (s1 (sCons (s1 (sCons (sVar 1) sNil) dLen) sNil) dRange1) (.nm 2) [2] (fun _ => ret true) (s1 (sCons (s2 (sVar 0) (sVar 2) dIx) (sCons (s2 (sVar 1) (sVar 2) dIx) sNil)) self) [some d, some d, none] [] = .ok (.lst ((List.replicate xs.length true).map D.bl)) [] := by
    rw [sComp_of (items := rangeD 0 xs.length) (S1 := []) (ys := (List.replicate xs.length true).map D.bl) (S2 := []) (by simp [hl, okR_of (i := (xs.length : Int)) (by omega) (by omega)]) (by rw [rangeD_len, sizeL]; omega) ?_]
    · simp
    · have := compL_true (t := .nm 2) (elt := s1 (sCons (s2 (sVar 0) (sVar 2) dIx) (sCons (s2 (sVar 1) (sVar 2) dIx) sNil)) self) (env := wipeD [some d, some d, none] [2]) (S := []) (items := rangeD 0 xs.length) fun y hy => by
        obtain ⟨i, hlt⟩ := List.getElem?_of_mem hy
        obtain ⟨rfl, hi2⟩ := rangeD_get hlt
        refine ⟨_, rfl, ?_⟩
        have e := hi i xs[i] (List.getElem?_eq_getElem hi2)
        have e2 := ih xs[i] (List.getElem_mem hi2)
        simp [e, e2]
      rw [this, rangeD_len]
  simp at comp
  simp [b_law_alike, ht, TK.name, hb, hl, comp]
theorem alike_same : ∀ (n : Nat) {d : D} {S : Store}, plD n d = true → fewD d = true → sem0_law_alike (n + 1) [d, d] S = .ok (.bl true) S
  | n + 1, .lst xs, S, h, hf => by
    simp only [plD] at h
    simp only [fewD, Bool.and_eq_true, decide_eq_true_eq] at hf
    refine alike_seq (t := "list") (xs := xs) rfl (by decide) rfl (fun i x hx => by simp [atI_n, hx]) hf.1 (fun x hx => alike_same n (plDs_mem h x hx) (fewDs_mem hf.2 x hx)) (plDs_nr h)
  | n + 1, .tup xs, S, h, hf => by
    simp only [plD] at h
    simp only [fewD, Bool.and_eq_true, decide_eq_true_eq] at hf
    refine alike_seq (t := "tuple") (xs := xs) rfl (by decide) rfl (fun i x hx => by simp [atI_n, hx]) hf.1 (fun x hx => alike_same n (plDs_mem h x hx) (fewDs_mem hf.2 x hx)) (plDs_nr h)
  | n, .non, S, h, _ => by
    refine io_pure (d := .bl true) (S' := []) (S'' := []) rfl rfl ?_ rfl
    simp [b_law_alike, TK.name, isB, dEq_pl (n := 0) (d := .non) (e := .non) plD_non plD_non (by decide)]
  | n, .bl b, S, h, _ => by
    refine io_pure (d := .bl true) (S' := []) (S'' := []) rfl rfl ?_ rfl
    simp [b_law_alike, TK.name, isB]
  | n, .int b, S, h, _ => by
    refine io_pure (d := .bl true) (S' := []) (S'' := []) rfl rfl ?_ rfl
    simp [b_law_alike, TK.name, isB]
  | n, .str b, S, h, _ => by
    refine io_pure (d := .bl true) (S' := []) (S'' := []) rfl rfl ?_ rfl
    have h0 : plD 0 (.str b) = true := by cases n <;> simpa only [plD] using h
    simp [b_law_alike, TK.name, isB, dEq_pl (n := 0) (d := .str b) (e := .str b) h0 h0 (by decide)]
  | 0, .lst xs, S, h, _ => by simp only [plD] at h; cases h
  | 0, .tup xs, S, h, _ => by simp only [plD] at h; cases h
  | n, .scr xs, S, h, _ => by cases n <;> (simp only [plD] at h; cases h)
  | n, .dct ks xs, S, h, _ => by cases n <;> (simp only [plD] at h; cases h)
  | n, .obj c xs, S, h, _ => by cases n <;> (simp only [plD] at h; cases h)
  | n, .ref k, S, h, _ => by cases n <;> (simp only [plD] at h; cases h)
end Pg

set_option Elab.async false
set_option linter.all false
set_option maxRecDepth 100000
set_option maxHeartbeats 1000000
/-! PgE: needs, sums, greatest sums, buffers. -/
namespace Pg
open PySem L2 Ev

abbrev li (xs : List Int) : D := .lst (xs.map D.int)
@[simp] theorem dEnum_lst {xs : List D} {S : Store} : dEnum [.lst xs] S = .ok (enumD xs) S := (rfl)
theorem is_integer_int {i : Int} {S : Store} : sem_is_integer [.int i] S = .ok (.bl true) S := by
  refine io_pure (d := .bl true) (S' := []) (S'' := []) rfl rfl ?_ rfl
  simp [b_is_integer, TK.name, isB]
/-- a list of sizes of frames -/
structure Sizes (xs : List Int) : Prop where
  ne : xs ≠ []
  few : xs.length ≤ 200
  pos : ∀ x ∈ xs, 0 ≤ x
theorem Sizes.len {xs : List Int} (h : Sizes xs) : 1 ≤ xs.length := List.length_pos_iff.mpr h.ne
theorem are_needs_ok {xs : List Int} {S : Store} (h : Sizes xs) : sem_are_needs [li xs] S = .ok (.bl true) S := by
  refine io_pure (d := .bl true) (S' := []) (S'' := []) (by simp) rfl ?_ rfl
  have h1 := h.len
  have h2 := h.few
  have c : compL (.nm 1) (fun _ => ret true) (vAnd (s1 (sCons (sVar 1) sNil) Pg.sem_is_integer) (s2 (sVar 1) (sC (.int 0)) (cmpSem .GtE))) (wipeD [some (li xs), none] [1]) (xs.map D.int) [] = .ok (xs.map fun _ => D.bl true) [] := by
    refine compL_mapOf (c := D.int) (f := fun _ => D.bl true) fun x hx => ⟨_, rfl, rfl, ?_⟩
    simp [is_integer_int, h.pos x hx]
  have comp := sComp_of (mu := false) (it := iSeq (sVar 0)) (t := .nm 1) (own := [1]) (env := [some (li xs), none]) (S := []) (S1 := []) (S2 := []) (by simp) (by rw [sizeL]; simp; omega) c
  simp [b_are_needs, TK.name, isB]
  rw [if_pos (by omega)]
  simp
  rw [if_neg (by omega)]
  try simp at comp
  simp [comp]
  have e : (xs.map fun _ => D.bl true) = List.replicate xs.length (D.bl true) := by simp [List.map_const']
  simp [e]
theorem need_needs_ok {xs : List Int} {S : Store} (h : Sizes xs) : sem_need_needs [li xs] S = .ok .non S := by
  refine io_none (by simp) rfl (env := [some (li xs)]) (S' := []) ?_
  simp [b_need_needs, are_needs_ok h]
theorem need_sizes_one {r : Int} {S : Store} (h : 0 ≤ r) : sem_need_sizes [li [r]] S = .ok .non S := by
  refine io_none (by simp) rfl (env := [some (li [r]), none]) (S' := []) ?_
  have c : compL (.nm 1) (sTest (s2 (sVar 1) (sC (.int 0)) (cmpSem .Lt))) (sVar 1) (wipeD [some (li [r]), none] [1]) [D.int r] [] = .ok [] [] := by
    have := compL_filtOf (t := .nm 1) (test := sTest (s2 (sVar 1) (sC (.int 0)) (cmpSem .Lt))) (elt := sVar 1) (env := wipeD [some (li [r]), none] [1]) (S := []) (c := D.int) (f := D.int) (p := fun x => decide (x < 0)) (xs := [r]) fun x hx => ⟨_, rfl, by simp, fun _ => by simp⟩
    simpa [Int.not_lt.mpr h] using this
  have comp := sComp_of (mu := false) (it := iSeq (sVar 0)) (t := .nm 1) (own := [1]) (env := [some (li [r]), none]) (S := []) (S1 := []) (S2 := []) (items := [D.int r]) (by simp) (by rw [sizeL]; simp) c
  simp at comp
  have e := dEq_ints (xs := []) (ys := []) (neg := true) (S := [])
  simp at e
  simp [b_need_sizes, comp, newLs_ap, sizeL, e]

/-! ### running sums -/
def psums : Int → List Int → List Int
  | _, [] => []
  | a, x :: xs => (a + x) :: psums (a + x) xs
theorem psums_len : ∀ (a : Int) (xs : List Int), (psums a xs).length = xs.length
  | _, [] => rfl
  | a, x :: xs => by simp [psums, psums_len]
/-- the sum of the first k -/
def P (xs : List Int) (k : Nat) : Int := (xs.take k).sum
theorem psums_get : ∀ (a : Int) (xs : List Int) (k : Nat), k ≤ xs.length → (a :: psums a xs)[k]? = some (a + P xs k)
  | a, xs, 0, _ => by simp [P]
  | a, [], k + 1, h => by simp at h
  | a, x :: xs, k + 1, h => by
    have := psums_get (a + x) xs k (by simpa using h)
    simp only [psums, List.getElem?_cons_succ]
    rw [this]
    simp [P, Int.add_assoc]
def sums (xs : List Int) : List Int := 0 :: psums 0 xs
theorem sums_len (xs : List Int) : (sums xs).length = xs.length + 1 := by simp [sums, psums_len]
theorem sums_get {xs : List Int} {k : Nat} (h : k ≤ xs.length) : (sums xs)[k]? = some (P xs k) := by
  unfold sums
  rw [psums_get 0 xs k h]
  simp
abbrev addBody : MS := (sExpr (sBM (MK.chk .append) (sVar 1) (sCons (s2 (s2 (sVar 1) (s1 (sC (.int 1)) dNeg) dIx) (sVar 2) (dAdd false)) sNil) (MK.sem false .append)))
theorem add_loop : ∀ (xs acc : List Int) (a : Int) (w z : Option D), acc.length + xs.length < sizeLine → forL (.nm 2) [2] addBody (xs.map D.int) [w, some (.ref 0), z] [.lst (acc.map D.int ++ [.int a])] = .nx [w, some (.ref 0), none] [.lst (acc.map D.int ++ .int a :: (psums a xs).map D.int)]
  | [], acc, a, w, z, _ => by simp [forL, psums]
  | x :: xs, acc, a, w, z, h => by
    simp only [List.length_cons] at h
    have ih := add_loop xs (acc ++ [a]) (a + x) w (some (.int x)) (by simp; omega)
    simp [addBody] at ih
    rw [List.map_cons]
    unfold forL
    simp [addBody, L2.atI_last]
    rw [apc_ok (by simp; omega)]
    simpa [addBody, psums] using ih
theorem add_all_eq {xs : List Int} {S : Store} (h : xs.length < sizeLine) : sem_add_all [li xs] S = .ok (li (sums xs)) S := by
  have h1 : 1 ≤ sizeLine := by rw [sizeL]; omega
  refine io_pure (S' := [.lst ((sums xs).map D.int)]) (S'' := [.frz ((sums xs).map D.int)]) (d := .ref 0) (by simp) rfl ?_ ?_
  · simp [b_add_all, newLs_ap, h1]
    have := add_loop xs [] 0 (some (li xs)) none (by simpa using h)
    simp [addBody] at this
    simp [this, sums]
  · rw [fz_ref rfl (by simp)]; rfl

/-! ### the greatest sums of so many neighbours -/
def gsum (xs : List Int) (m : Nat) : Int := lmax ((List.range (xs.length + 1 - m)).map fun j => P xs (m + j) - P xs j)
def greatest (xs : List Int) : List Int := (List.range xs.length).map fun i => gsum xs (i + 1)
theorem greatest_len (xs : List Int) : (greatest xs).length = xs.length := by simp [greatest]
theorem greatest_get {xs : List Int} {i : Nat} (h : i < xs.length) : (greatest xs)[i]? = some (gsum xs (i + 1)) := by
  unfold greatest
  rw [List.getElem?_map, List.getElem?_range h]; rfl
abbrev gBody : MS := (sExpr (sBM (MK.chk .append) (sVar 2) (sCons (s1 (sCons (sComp false (s1 (sCons (sVar 3) (sCons (s1 (sCons (sVar 1) sNil) (BK.sem false .len)) sNil)) dRange2) (.nm 4) [4] (fun _ => ret true) (s2 (s2 (sVar 1) (sVar 4) dIx) (s2 (sVar 1) (s2 (sVar 4) (sVar 3) dSub) dIx) dSub)) sNil) (BK.sem false .max)) sNil) (MK.sem false .append)))
theorem g_comp {xs : List Int} {m : Nat} {c : Cell} {w : Option D} (h1 : 1 ≤ m) (h2 : m ≤ xs.length) (h3 : xs.length ≤ 200) :
    sComp false (s1 (sCons (sVar 3) (sCons (s1 (sCons (sVar 1) sNil) (BK.sem false .len)) sNil)) dRange2) (.nm 4) [4] (fun _ => ret true) (s2 (s2 (sVar 1) (sVar 4) dIx) (s2 (sVar 1) (s2 (sVar 4) (sVar 3) dSub) dIx) dSub) [w, some (li (sums xs)), some (.ref 0), some (.int m), none] [c] =
      .ok (li ((List.range (xs.length + 1 - m)).map fun j => P xs (m + j) - P xs j)) [c] := by
  have hl := sums_len xs
  rw [sComp_of (items := (List.range (xs.length + 1 - m)).map fun j => D.int (m + (j : Nat))) (S1 := [c]) (S2 := [c]) (ys := (List.range (xs.length + 1 - m)).map fun j => D.int (P xs (m + j) - P xs j)) ?_ (by rw [sizeL]; simp; omega) ?_]
  · simp [li]
  · simp [hl, okR_of (i := (m : Int)) (by omega) (by omega), okR_of (i := (xs.length : Int) + 1) (by omega) (by omega), rangeD]
  · refine compL_mapOf (c := fun j : Nat => D.int (m + (j : Int))) fun j hj => ⟨_, rfl, rfl, ?_⟩
    have hj' := List.mem_range.mp hj
    have e1 : L2.atI ((sums xs).map D.int) ((m : Int) + (j : Int)) = some (.int (P xs (m + j))) := by
      rw [show (m : Int) + (j : Int) = ((m + j : Nat) : Int) by omega, atI_n, List.getElem?_map, sums_get (by omega)]; rfl
    have e2 : L2.atI ((sums xs).map D.int) ((m : Int) + (j : Int) - (m : Int)) = some (.int (P xs j)) := by
      rw [show (m : Int) + (j : Int) - (m : Int) = ((j : Nat) : Int) by omega, atI_n, List.getElem?_map, sums_get (by omega)]; rfl
    simp [e1, e2]
theorem greatest_sums_eq {xs : List Int} {S : Store} (h : Sizes xs) : sem_greatest_sums [li xs] S = .ok (li (greatest xs)) S := by
  have h3 := h.few
  refine io_pure (S' := [.lst ((greatest xs).map D.int)]) (S'' := [.frz ((greatest xs).map D.int)]) (d := .ref 0) (by simp) rfl ?_ (by rw [fz_ref rfl (by simp)]; rfl)
  have loop := forL_run (t := .nm 3) (kill := [3]) (body := gBody) (items := rangeD 1 xs.length) (env := [some (li xs), some (li (sums xs)), some (.ref 0), none, none]) (S := [.lst []])
    (fun _ => [some (li xs), some (li (sums xs)), some (.ref 0), none, none]) (fun i => [.lst ((((List.range i).map fun i => gsum xs (i + 1))).map D.int)]) (by simp) (by simp) fun i d hi => by
      obtain ⟨rfl, hlt⟩ := rangeD_get hi
      refine ⟨_, rfl, ?_⟩
      have c := g_comp (xs := xs) (m := i + 1) (c := .lst (((List.range i).map fun i => gsum xs (i + 1)).map D.int)) (w := some (li xs)) (by omega) (by omega) h3
      have ne : ((List.range (xs.length + 1 - (i + 1))).map fun j => P xs (i + 1 + j) - P xs j) ≠ [] := by
        simp; omega
      have e : (1 : Int) + (i : Int) = ((i + 1 : Nat) : Int) := by omega
      refine ⟨[some (li xs), some (li (sums xs)), some (.ref 0), some (.int ((i + 1 : Nat) : Int)), none], ?_, by simp⟩
      simp only [gBody, sExpr_ap, sBM_ap, sVar_ap, List.set_cons_succ, List.set_cons_zero, List.getElem?_cons_succ, List.getElem?_cons_zero, vr_some, rb_ok, mkchk_append, chkL_ap, seqL_ref, cl_lst, cko_some, sCons_ap, s1_ap, e, c, sNil_ap, bk_max, dMax_ints ne, mk_append]
      rw [apc_ok (by simp; rw [sizeL]; omega)]
      simp [List.range_succ, gsum]
  simp [b_greatest_sums, newLs_ap, sizeL, add_all_eq (xs := xs) (by rw [sizeL]; omega), okR_of (i := 1) (by omega) (by omega), okR_of (i := (xs.length : Int) + 1) (by omega) (by omega)]
  simp [gBody, rangeD_len] at loop
  rw [loop]
  simp [greatest]
/-! ### buffers -/
def bufL (g : List Int) (r : Int) : List Int := g.zipIdx.map fun p => p.1 - r * (p.2 : Int)
def buf (g : List Int) (r : Int) : Int := lmax (bufL g r)
theorem bufL_ne {g : List Int} (h : g ≠ []) {r : Int} : bufL g r ≠ [] := by
  cases g with
  | nil => exact absurd rfl h
  | cons x g => simp [bufL]
theorem buffer_for_eq {g : List Int} {r : Int} {S : Store} (hne : g ≠ []) (few : g.length ≤ 1000) (r0 : 0 ≤ r) (r1 : r < 2 ^ 5000) : sem_buffer_for [li g, .int r] S = .ok (.int (buf g r)) S := by
  refine io_pure (d := .int (buf g r)) (S' := []) (S'' := []) (by simp) rfl ?_ rfl
  have comp : sComp false (s1 (sCons (sVar 0) sNil) dEnum) (.tp [2, 3]) [2, 3] (fun _ => ret true) (s2 (sVar 3) (s2 (sVar 1) (sVar 2) (dMul false)) dSub) [some (li g), some (.int r), none, none] [] = .ok (li (bufL g r)) [] := by
    rw [sComp_of (items := g.zipIdx.map fun p => D.tup [.int (p.2 : Int), .int p.1]) (S1 := []) (S2 := []) (ys := g.zipIdx.map fun p => D.int (p.1 - r * (p.2 : Int))) ?_ (by rw [sizeL]; simp; omega) ?_]
    · simp [li, bufL]
    · simp [enumD, List.zipIdx_map]
    · refine compL_mapOf (c := fun p : Int × Nat => D.tup [.int (p.2 : Int), .int p.1]) fun p hp => ⟨_, rfl, rfl, ?_⟩
      have hlt : p.2 < g.length := by
        have := List.mem_zipIdx hp
        omega
      have b : r.natAbs.log2 + (p.2 : Int).natAbs.log2 < 1000000 := by
        have := lg_int r0 r1
        have := lg_int (i := (p.2 : Int)) (k := 10) (by omega) (by omega)
        omega
      simp [dMul_int b]
  try simp at comp
  simp [b_buffer_for, comp, dMax_ints (bufL_ne hne), buf]
theorem least_buffer_eq {xs : List Int} {r : Int} {S : Store} (h : Sizes xs) (r0 : 0 ≤ r) (r1 : r < 2 ^ 5000) : sem_least_buffer [li xs, .int r] S = .ok (.int (buf (greatest xs) r)) S := by
  refine io_pure (d := .int (buf (greatest xs) r)) (S' := []) (S'' := []) (by simp) rfl ?_ rfl
  have hg : greatest xs ≠ [] := by
    have := h.len
    intro e
    have := congrArg List.length e
    rw [greatest_len] at this
    simp at this
    exact h.ne this
  have n1 : sem_need_sizes [.lst [.int r]] [] = .ok .non [] := need_sizes_one r0
  simp [b_least_buffer, need_needs_ok h, newLs_ap, sizeL, n1, greatest_sums_eq h, buffer_for_eq hg (by rw [greatest_len]; have := h.few; omega) r0 r1]
/-! the law's own way -/
def lawBuf (p : Int) : List Int → Int → Int → Int
  | [], found, _ => found
  | x :: xs, found, here => lawBuf p xs (max found (x + max 0 (here - p))) (x + max 0 (here - p))
abbrev lbBody : MS := (sSeq (sAsg (.nm 4) (s2 (sVar 2) (s1 (sCons (sC (.int 0)) (sCons (s2 (sVar 4) (sVar 1) dSub) sNil)) (BK.sem false .max)) (dAdd false)))
        (sAsg (.nm 3) (s1 (sCons (sVar 3) (sCons (sVar 4) sNil)) (BK.sem false .max))))
theorem lb_loop (p : Int) : ∀ (xs : List Int) (f h : Int) (w z : Option D), ∃ e, forL (.nm 2) [2] lbBody (xs.map D.int) [w, some (.int p), z, some (.int f), some (.int h)] [] = .nx [w, some (.int p), none, some (.int (lawBuf p xs f h)), e] []
  | [], f, h, w, z => ⟨some (.int h), by simp [forL, lawBuf]⟩
  | x :: xs, f, h, w, z => by
    obtain ⟨e, ih⟩ := lb_loop p xs (max f (x + max 0 (h - p))) (x + max 0 (h - p)) w (some (.int x))
    refine ⟨e, ?_⟩
    rw [List.map_cons]
    unfold forL
    simp [lbBody] at ih ⊢
    rw [ih]
    simp [lawBuf]
theorem law_buffer_eq {xs : List Int} {p : Int} {S : Store} : sem_law_buffer [li xs, .int p] S = .ok (.int (lawBuf p xs 0 0)) S := by
  refine io_pure (d := .int (lawBuf p xs 0 0)) (S' := []) (S'' := []) (by simp) rfl ?_ rfl
  obtain ⟨e, h⟩ := lb_loop p xs 0 0 (some (li xs)) none
  simp [lbBody] at h
  simp [b_law_buffer, h]
end Pg

set_option Elab.async false
set_option linter.all false
set_option maxRecDepth 100000
set_option maxHeartbeats 1000000
/-! PgF: the mathematics of buffers: the least buffer at a rate is the greatest of lines; corners; pieces. -/
namespace Pg
open PySem L2 Ev

/-! ### the greatest of lines -/
theorem buf_ge {g : List Int} {r v : Int} {i : Nat} (h : g[i]? = some v) : v - r * (i : Int) ≤ buf g r := by
  refine le_lmax ?_
  unfold bufL
  refine List.mem_map.mpr ⟨(v, i), ?_, rfl⟩
  exact List.mem_zipIdx_iff_getElem?.mpr h
theorem buf_at {g : List Int} {r : Int} (hne : g ≠ []) : ∃ (i : Nat) (v : Int), g[i]? = some v ∧ buf g r = v - r * (i : Int) := by
  have := lmax_mem (bufL_ne hne (r := r))
  unfold bufL at this
  obtain ⟨⟨v, i⟩, h1, h2⟩ := List.mem_map.mp this
  exact ⟨i, v, List.mem_zipIdx_iff_getElem?.mp h1, h2.symm⟩
/-- the index v is best at the rate p -/
def Opt (g : List Int) (v : Nat) (p : Int) : Prop := ∃ x, g[v]? = some x ∧ ∀ (i : Nat) (y : Int), g[i]? = some y → y - p * (i : Int) ≤ x - p * (v : Int)
theorem Opt.buf {g : List Int} {v : Nat} {p : Int} (h : Opt g v p) {x : Int} (hx : g[v]? = some x) : buf g p = x - p * (v : Int) := by
  obtain ⟨x', e, h⟩ := h
  rw [hx] at e
  cases e
  have ne : g ≠ [] := fun z => by rw [z] at hx; simp at hx
  obtain ⟨i, y, e1, e2⟩ := buf_at (r := p) ne
  have := h i y e1
  have := buf_ge (r := p) hx
  omega
theorem buf_convex {g : List Int} {p : Int} (ne : g ≠ []) : 2 * buf g p ≤ buf g (p - 1) + buf g (p + 1) := by
  obtain ⟨i, v, e1, e2⟩ := buf_at (r := p) ne
  have h1 := buf_ge (r := p - 1) e1
  have h2 := buf_ge (r := p + 1) e1
  rw [Int.sub_mul] at h1
  rw [Int.add_mul] at h2
  omega
theorem buf_down {g : List Int} {p : Int} (ne : g ≠ []) : buf g (p + 1) ≤ buf g p := by
  obtain ⟨i, v, e1, e2⟩ := buf_at (r := p + 1) ne
  have h1 := buf_ge (r := p) e1
  rw [Int.add_mul] at e2
  omega

/-! ### windows -/
theorem P_succ {xs : List Int} {k : Nat} {x : Int} (h : xs[k]? = some x) : P xs (k + 1) = P xs k + x := by
  unfold P
  rw [List.take_add_one, h]
  simp [List.sum_append]
theorem win_le {xs : List Int} {p : Int} {j m : Nat} (h1 : 1 ≤ m) (h2 : m + j ≤ xs.length) : P xs (m + j) - P xs j - p * ((m : Int) - 1) ≤ buf (greatest xs) p := by
  have hm : m - 1 < xs.length := by omega
  have g := greatest_get hm
  rw [show m - 1 + 1 = m by omega] at g
  have b := buf_ge (r := p) g
  have l : P xs (m + j) - P xs j ≤ gsum xs m := le_lmax (List.mem_map.mpr ⟨j, List.mem_range.mpr (by omega), rfl⟩)
  rw [show ((m - 1 : Nat) : Int) = (m : Int) - 1 by omega] at b
  omega
theorem win_at {xs : List Int} {p : Int} (hne : xs ≠ []) : ∃ (j m : Nat), 1 ≤ m ∧ m + j ≤ xs.length ∧ buf (greatest xs) p = P xs (m + j) - P xs j - p * ((m : Int) - 1) := by
  have gne : greatest xs ≠ [] := fun e => by
    have := congrArg List.length e
    rw [greatest_len] at this
    exact hne (List.eq_nil_of_length_eq_zero this)
  obtain ⟨i, v, e1, e2⟩ := buf_at (r := p) gne
  have hi : i < xs.length := by
    have := (List.getElem?_eq_some_iff.mp e1).1
    rwa [greatest_len] at this
  rw [greatest_get hi] at e1
  cases e1
  have ne : ((List.range (xs.length + 1 - (i + 1))).map fun j => P xs (i + 1 + j) - P xs j) ≠ [] := by simp; omega
  obtain ⟨j, hj, e⟩ := List.mem_map.mp (lmax_mem ne)
  have hj' := List.mem_range.mp hj
  refine ⟨j, i + 1, by omega, by omega, ?_⟩
  rw [e2]
  unfold gsum
  rw [← e]
  rw [show ((i + 1 : Nat) : Int) - 1 = (i : Int) by omega]
/-- the law's own buffer is the same -/
theorem lawBuf_spec {xs : List Int} {p : Int} (p0 : 0 ≤ p) : ∀ (rest done : List Int) (f h : Int), xs = done ++ rest → (∀ x ∈ xs, 0 ≤ x) →
    (∀ (j m : Nat), 1 ≤ m → m + j ≤ done.length → P xs (m + j) - P xs j - p * ((m : Int) - 1) ≤ f) → (f = 0 ∨ ∃ (j m : Nat), 1 ≤ m ∧ m + j ≤ done.length ∧ f = P xs (m + j) - P xs j - p * ((m : Int) - 1)) →
    (∀ (j m : Nat), 1 ≤ m → m + j = done.length → P xs (m + j) - P xs j - p * ((m : Int) - 1) ≤ h) → ((h = 0 ∧ done = []) ∨ ∃ (j m : Nat), 1 ≤ m ∧ m + j = done.length ∧ h = P xs (m + j) - P xs j - p * ((m : Int) - 1)) →
    (∀ (j m : Nat), 1 ≤ m → m + j ≤ xs.length → P xs (m + j) - P xs j - p * ((m : Int) - 1) ≤ lawBuf p rest f h) ∧ (lawBuf p rest f h = 0 ∨ ∃ (j m : Nat), 1 ≤ m ∧ m + j ≤ xs.length ∧ lawBuf p rest f h = P xs (m + j) - P xs j - p * ((m : Int) - 1))
  | [], done, f, h, e, _, f1, f2, _, _ => by
    rw [List.append_nil] at e
    subst e
    exact ⟨f1, f2⟩
  | x :: rest, done, f, h, e, pos, f1, f2, h1, h2 => by
    have ex : xs[done.length]? = some x := by rw [e, List.getElem?_append_right (Nat.le_refl _), Nat.sub_self]; rfl
    have ps := P_succ ex
    have key1 : ∀ (j m : Nat), 1 ≤ m → m + j = (done ++ [x]).length → P xs (m + j) - P xs j - p * ((m : Int) - 1) ≤ x + max 0 (h - p) := fun j m hm hl => by
      rw [List.length_append, List.length_singleton] at hl
      rw [hl, ps]
      by_cases hm1 : m = 1
      · subst hm1
        have : j = done.length := by omega
        subst this
        simp
        omega
      · have := h1 j (m - 1) (by omega) (by omega)
        rw [show m - 1 + j = done.length by omega] at this
        have e3 : p * (((m - 1 : Nat) : Int) - 1) = p * ((m : Int) - 1) - p := by
          rw [show ((m - 1 : Nat) : Int) - 1 = (m : Int) - 1 - 1 by omega, Int.mul_sub p ((m : Int) - 1) 1, Int.mul_one]
        rw [e3] at this
        omega
    have key2 : ∃ (j m : Nat), 1 ≤ m ∧ m + j = (done ++ [x]).length ∧ x + max 0 (h - p) = P xs (m + j) - P xs j - p * ((m : Int) - 1) := by
      by_cases c : h - p ≤ 0
      · refine ⟨done.length, 1, by omega, by simp; omega, ?_⟩
        rw [show 1 + done.length = done.length + 1 by omega, ps]
        simp
        omega
      · rcases h2 with ⟨z, _⟩ | ⟨j, m, a, b, d⟩
        · omega
        · refine ⟨j, m + 1, by omega, by simp; omega, ?_⟩
          rw [show m + 1 + j = done.length + 1 by omega, ps]
          rw [b] at d
          have e3 : p * (((m + 1 : Nat) : Int) - 1) = p * ((m : Int) - 1) + p := by
            rw [show ((m + 1 : Nat) : Int) - 1 = ((m : Int) - 1) + 1 by omega, Int.mul_add, Int.mul_one]
          rw [e3]
          omega
    unfold lawBuf
    refine lawBuf_spec p0 rest (done ++ [x]) _ _ (by rw [e]; simp) pos (fun j m hm hl => ?_) ?_ key1 (.inr key2)
    · rw [List.length_append, List.length_singleton] at hl
      by_cases c : m + j ≤ done.length
      · have := f1 j m hm c
        omega
      · have := key1 j m hm (by rw [List.length_append, List.length_singleton]; omega)
        omega
    · by_cases c : f ≤ x + max 0 (h - p)
      · obtain ⟨j, m, a, b, d⟩ := key2
        exact .inr ⟨j, m, a, by omega, by omega⟩
      · rcases f2 with z | ⟨j, m, a, b, d⟩
        · exact .inl (by omega)
        · refine .inr ⟨j, m, a, ?_, by omega⟩
          rw [List.length_append]
          omega
theorem lawBuf_eq {xs : List Int} {p : Int} (h : Sizes xs) (p0 : 0 ≤ p) : lawBuf p xs 0 0 = buf (greatest xs) p := by
  obtain ⟨a, b⟩ := lawBuf_spec (xs := xs) (p := p) p0 xs [] 0 0 rfl h.pos (fun j m h1 h2 => by simp at h2; omega) (.inl rfl) (fun j m h1 h2 => by simp at h2; omega) (.inl ⟨rfl, rfl⟩)
  obtain ⟨j, m, w1, w2, w3⟩ := win_at (p := p) h.ne
  have c1 := a j m w1 w2
  have l := h.len
  rcases b with b | ⟨j2, m2, b1, b2, b3⟩
  · have x0 : xs[0]? = some xs[0] := List.getElem?_eq_getElem (by omega)
    have := win_le (xs := xs) (p := p) (j := 0) (m := 1) (by omega) (by omega)
    rw [show 1 + 0 = 0 + 1 by omega, P_succ x0] at this
    have := h.pos xs[0] (List.getElem_mem _)
    simp at *
    omega
  · have := win_le (p := p) b1 b2
    omega
end Pg

set_option Elab.async false
set_option linter.all false
set_option maxRecDepth 100000
set_option maxHeartbeats 1000000
/-! PgG: corners, the mathematics. -/
namespace Pg
open PySem L2 Ev

def G (g : List Int) (i : Nat) : Int := g.getD i 0
theorem G_at {g : List Int} {i : Nat} (h : i < g.length) : g[i]? = some (G g i) := by
  unfold G
  rw [List.getD_eq_getElem?_getD, List.getElem?_eq_getElem h]; rfl
theorem G_of {g : List Int} {i : Nat} {v : Int} (h : g[i]? = some v) : v = G g i := by
  unfold G
  rw [List.getD_eq_getElem?_getD, h]; rfl
/-- the steepest way back: its height, its width, where it ends -/
def bst (g : List Int) (line : Nat) : Nat → Option (Int × Int × Nat)
  | 0 => none
  | k + 1 => match bst g line k with
    | none => some (G g line - G g k, (line : Int) - k, k)
    | some (t, b, l) => if (G g line - G g k) * b < t * ((line : Int) - k) then some (G g line - G g k, (line : Int) - k, k) else some (t, b, l)
structure Back (g : List Int) (line k : Nat) (t b : Int) (l : Nat) : Prop where
  lt : l < k
  et : t = G g line - G g l
  eb : b = (line : Int) - (l : Int)
  least : ∀ i : Nat, i < k → t * ((line : Int) - (i : Int)) ≤ (G g line - G g i) * b
theorem bst_spec {g : List Int} {line : Nat} : ∀ {k : Nat}, 0 < k → k ≤ line → ∃ t b l, bst g line k = some (t, b, l) ∧ Back g line k t b l
  | 0, h, _ => absurd h (Nat.lt_irrefl _)
  | 1, _, hl => ⟨_, _, _, rfl, ⟨by omega, rfl, rfl, fun i hi => by
    have : i = 0 := by omega
    subst this
    exact Int.le_refl _⟩⟩
  | k + 2, _, hl => by
    obtain ⟨t, b, l, e, B⟩ := bst_spec (g := g) (line := line) (k := k + 1) (by omega) (by omega)
    have b0 : 0 < b := by have := B.lt; rw [B.eb]; omega
    unfold bst
    rw [e]
    dsimp only
    by_cases c : (G g line - G g (k + 1)) * b < t * ((line : Int) - ((k + 1 : Nat) : Int))
    · rw [if_pos c]
      refine ⟨_, _, _, rfl, ⟨by omega, rfl, rfl, fun i hi => ?_⟩⟩
      by_cases hk : i = k + 1
      · subst hk; exact Int.le_refl _
      · have h1 := B.least i (by omega)
        refine Int.le_of_mul_le_mul_right (a := b) ?_ b0
        have u0 : 0 ≤ (line : Int) - ((k + 1 : Nat) : Int) := by omega
        have i0 : 0 ≤ (line : Int) - (i : Int) := by omega
        have s1 := Int.mul_le_mul_of_nonneg_right (Int.le_of_lt c) i0
        have s2 := Int.mul_le_mul_of_nonneg_right h1 u0
        have r1 : (G g line - G g (k + 1)) * ((line : Int) - (i : Int)) * b = (G g line - G g (k + 1)) * b * ((line : Int) - (i : Int)) := by
          rw [Int.mul_assoc, Int.mul_comm ((line : Int) - (i : Int)) b, ← Int.mul_assoc]
        have r2 : t * ((line : Int) - ((k + 1 : Nat) : Int)) * ((line : Int) - (i : Int)) = t * ((line : Int) - (i : Int)) * ((line : Int) - ((k + 1 : Nat) : Int)) := by
          rw [Int.mul_assoc, Int.mul_comm ((line : Int) - ((k + 1 : Nat) : Int)), ← Int.mul_assoc]
        have r3 : (G g line - G g i) * ((line : Int) - ((k + 1 : Nat) : Int)) * b = (G g line - G g i) * b * ((line : Int) - ((k + 1 : Nat) : Int)) := by
          rw [Int.mul_assoc, Int.mul_comm ((line : Int) - ((k + 1 : Nat) : Int)) b, ← Int.mul_assoc]
        rw [r1, r3]
        rw [r2] at s1
        exact Int.le_trans s1 s2
    · rw [if_neg c]
      refine ⟨_, _, _, rfl, ⟨by have := B.lt; omega, B.et, B.eb, fun i hi => ?_⟩⟩
      by_cases hk : i = k + 1
      · subst hk; exact Int.not_lt.mp c
      · exact B.least i (by omega)
/-! ### what the corners found so far tell -/
/-- from line on nothing is better than line, at the rate p -/
def Dom (g : List Int) (line : Nat) (p : Int) : Prop := ∀ i, line ≤ i → i < g.length → G g i - p * (i : Int) ≤ G g line - p * (line : Int)
structure Cor (g : List Int) (line : Nat) (found : List Int) : Prop where
  zero : 0 ∈ found
  pos : ∀ x ∈ found, 0 ≤ x
  lt : line < g.length
  mid : ∀ c c' : Int, 0 ≤ c → c + 2 ≤ c' → (∀ x ∈ found, x ≤ c ∨ c' ≤ x) → (∃ v, ∀ p, c ≤ p → p ≤ c' → Opt g v p) ∨ (∀ p, c ≤ p → p ≤ c' → Dom g line p)
  far : ∀ p : Int, (∀ x ∈ found, x ≤ p) → Dom g line p
theorem ceil_le {t b c : Int} (b0 : 0 < b) : -(-t / b) ≤ c ↔ t ≤ c * b := by
  have : -c ≤ -t / b ↔ -c * b ≤ -t := Int.le_ediv_iff_mul_le b0
  rw [Int.neg_mul] at this
  omega
theorem dom_opt {g : List Int} {line : Nat} {p : Int} (hl : line < g.length) (h : Dom g line p) (h2 : ∀ i : Nat, i < line → p * ((line : Int) - (i : Int)) ≤ G g line - G g i) : Opt g line p := by
  refine ⟨_, G_at hl, fun i y e => ?_⟩
  rw [G_of e]
  have hi := (List.getElem?_eq_some_iff.mp e).1
  by_cases c : line ≤ i
  · exact h i c hi
  · have := h2 i (by omega)
    rw [Int.mul_sub] at this
    omega
theorem back_dom {g : List Int} {line l : Nat} {t b p : Int} (B : Back g line line t b l) (hp : t ≤ p * b) (h : Dom g line p) : Dom g l p := by
  have b0 : 0 < b := by have := B.lt; rw [B.eb]; omega
  intro i h1 h2
  have base : G g line - p * (line : Int) ≤ G g l - p * (l : Int) := by
    have e : p * b = p * (line : Int) - p * (l : Int) := by rw [B.eb, Int.mul_sub]
    have := B.et
    omega
  by_cases c : line ≤ i
  · exact Int.le_trans (h i c h2) base
  · have m := B.least i (by omega)
    have il : 0 ≤ (i : Int) - (l : Int) := by omega
    have s1 := Int.mul_le_mul_of_nonneg_right hp il
    have key : (t - (G g line - G g i)) * b ≤ p * ((i : Int) - (l : Int)) * b := by
      have e1 : (t - (G g line - G g i)) * b = t * b - (G g line - G g i) * b := Int.sub_mul _ _ _
      have e2 : t * ((line : Int) - (i : Int)) = t * b - t * ((i : Int) - (l : Int)) := by
        rw [B.eb, ← Int.mul_sub]
        congr 1
        omega
      have e3 : p * ((i : Int) - (l : Int)) * b = p * b * ((i : Int) - (l : Int)) := by
        rw [Int.mul_assoc, Int.mul_comm ((i : Int) - (l : Int)) b, ← Int.mul_assoc]
      rw [e1, e3]
      omega
    have := Int.le_of_mul_le_mul_right key b0
    rw [Int.mul_sub] at this
    have := B.et
    omega
/-- the lines fall backwards -/
def Up (g : List Int) : Prop := ∀ i j, i ≤ j → j < g.length → G g i ≤ G g j
theorem cor_step {g : List Int} {line : Nat} {found : List Int} {t b : Int} {l : Nat} (up : Up g) (c : Cor g line found) (B : Back g line line t b l) : Cor g l (found ++ [t / b, -(-t / b)]) := by
  have ll := B.lt
  have b0 : 0 < b := by rw [B.eb]; omega
  have t0 : 0 ≤ t := by have := up l line (by omega) c.lt; rw [B.et]; omega
  have mem1 : t / b ∈ found ++ [t / b, -(-t / b)] := by simp
  have mem2 : -(-t / b) ∈ found ++ [t / b, -(-t / b)] := by simp
  have f0 : 0 ≤ t / b := Int.ediv_nonneg t0 (Int.le_of_lt b0)
  have fl : t / b * b ≤ t := Int.ediv_mul_le t (Int.ne_of_gt b0)
  have cf : t / b ≤ -(-t / b) := by
    have := (ceil_le (t := t) (c := -(-t / b)) b0).mp (Int.le_refl _)
    have h := Int.le_of_mul_le_mul_right (a := b) (b := t / b) (c := -(-t / b)) (by omega) b0
    exact h
  refine ⟨by simp [c.zero], fun x hx => ?_, by have := c.lt; omega, fun x y h0 h2 h => ?_, fun p h => ?_⟩
  · rw [List.mem_append] at hx
    rcases hx with hx | hx
    · exact c.pos x hx
    · simp at hx
      rcases hx with rfl | rfl
      · exact f0
      · omega
  · rcases c.mid x y h0 h2 (fun z hz => h z (List.mem_append_left _ hz)) with k | k
    · exact .inl k
    · rcases h _ mem1 with f1 | f1
      · refine .inr fun p hp1 hp2 => ?_
        have cx : -(-t / b) ≤ x := by
          rcases h _ mem2 with q | q
          · exact q
          · have : -(-t / b) ≤ t / b + 1 := by
              refine (ceil_le b0).mpr ?_
              have := Int.lt_ediv_add_one_mul_self t b0
              omega
            omega
        have tp : t ≤ p * b := (ceil_le b0).mp (by omega)
        exact back_dom B tp (k p hp1 hp2)
      · refine .inl ⟨line, fun p hp1 hp2 => dom_opt c.lt (k p hp1 hp2) fun i hi => ?_⟩
        have m := B.least i hi
        have pb : p * b ≤ t := by
          have : p ≤ t / b := by omega
          have := (Int.le_ediv_iff_mul_le b0).mp this
          exact this
        refine Int.le_of_mul_le_mul_right (a := b) ?_ b0
        have s := Int.mul_le_mul_of_nonneg_right pb (show 0 ≤ (line : Int) - (i : Int) by omega)
        have e3 : p * ((line : Int) - (i : Int)) * b = p * b * ((line : Int) - (i : Int)) := by
          rw [Int.mul_assoc, Int.mul_comm ((line : Int) - (i : Int)) b, ← Int.mul_assoc]
        rw [e3]
        exact Int.le_trans s m
  · have tp : t ≤ p * b := (ceil_le b0).mp (h _ mem2)
    exact back_dom B tp (c.far p fun z hz => h z (List.mem_append_left _ hz))
theorem cor_first {g : List Int} {line : Nat} (hl : line < g.length) (top : ∀ i, i < g.length → G g i ≤ G g line) : Cor g line [0] := by
  have d : ∀ p : Int, 0 ≤ p → Dom g line p := fun p p0 i h1 h2 => by
    have := top i h2
    have := Int.mul_le_mul_of_nonneg_left (show (line : Int) ≤ (i : Int) by omega) p0
    omega
  exact ⟨by simp, by simp, hl, fun c c' h0 _ _ => .inr fun p h1 _ => d p (by omega), fun p h => d p (h 0 (by simp))⟩
/-- at the end -/
structure Corners (g : List Int) (found : List Int) : Prop where
  zero : 0 ∈ found
  pos : ∀ x ∈ found, 0 ≤ x
  mid : ∀ c c' : Int, 0 ≤ c → c + 2 ≤ c' → (∀ x ∈ found, x ≤ c ∨ c' ≤ x) → ∃ v, ∀ p, c ≤ p → p ≤ c' → Opt g v p
  far : ∀ p : Int, (∀ x ∈ found, x ≤ p) → Opt g 0 p
theorem cor_last {g : List Int} {found : List Int} (c : Cor g 0 found) : Corners g found :=
  ⟨c.zero, c.pos, fun x y h0 h2 h => (c.mid x y h0 h2 h).elim id fun k => ⟨0, fun p h1 h2 => dom_opt c.lt (k p h1 h2) fun i hi => absurd hi (Nat.not_lt_zero _)⟩, fun p h => dom_opt c.lt (c.far p h) fun i hi => absurd hi (Nat.not_lt_zero _)⟩
end Pg

set_option Elab.async false
set_option linter.all false
set_option maxRecDepth 100000
set_option maxHeartbeats 1000000
/-! PgH: pieces, the mathematics. -/
namespace Pg
open PySem L2 Ev

structure Pc where
  low : Int
  high : Option Int
  value : Int
  fall : Int
/-- F falls by f a step from c to e -/
def Lin (F : Int → Int) (c e f : Int) : Prop := ∀ x, c ≤ x → x ≤ e → F x = F c - f * (x - c)
def Seg (F : Int → Int) (p : Pc) (s h : Int) : Prop := p.low = s ∧ p.high = some h ∧ s < h ∧ p.value = F s ∧ Lin F s h p.fall
def Chn (F : Int → Int) : Int → List Pc → Int → Prop
  | s, [], e => s = e
  | s, p :: ps, e => ∃ h, Seg F p s h ∧ Chn F h ps e
theorem chn_app {F : Int → Int} : ∀ {ps qs : List Pc} {s e : Int}, Chn F s (ps ++ qs) e ↔ ∃ m, Chn F s ps m ∧ Chn F m qs e
  | [], qs, s, e => ⟨fun h => ⟨s, rfl, h⟩, fun ⟨m, h1, h2⟩ => by cases h1; exact h2⟩
  | p :: ps, qs, s, e => by
    constructor
    · rintro ⟨h, a, b⟩
      obtain ⟨m, c, d⟩ := chn_app.mp b
      exact ⟨m, ⟨h, a, c⟩, d⟩
    · rintro ⟨m, ⟨h, a, c⟩, d⟩
      exact ⟨h, a, chn_app.mpr ⟨m, c, d⟩⟩
theorem chn_le {F : Int → Int} : ∀ {ps : List Pc} {s e : Int}, Chn F s ps e → s ≤ e
  | [], s, e, h => by cases h; exact Int.le_refl _
  | p :: ps, s, e, ⟨h, a, b⟩ => by have := chn_le b; have := a.2.2.1; omega
/-- one more stretch -/
def fallOf (F : Int → Int) (c e : Int) : Int := (F c - F e) / (e - c)
def stepP (F : Int → Int) (acc : List Pc) (c e : Int) : List Pc := match acc.getLast? with
  | some q => if q.fall = fallOf F c e then acc.dropLast ++ [⟨q.low, some e, q.value, fallOf F c e⟩] else acc ++ [⟨c, some e, F c, fallOf F c e⟩]
  | none => [⟨c, some e, F c, fallOf F c e⟩]
def pcs (F : Int → Int) : Int → List Int → List Pc → List Pc
  | _, [], acc => acc
  | c, e :: r, acc => pcs F e r (stepP F acc c e)
def endP (F : Int → Int) (acc : List Pc) (c : Int) : List Pc := match acc.getLast? with
  | some q => if q.fall = 0 then acc.dropLast ++ [⟨q.low, none, q.value, 0⟩] else acc ++ [⟨c, none, F c, 0⟩]
  | none => [⟨c, none, F c, 0⟩]
structure Cov (F : Int → Int) (acc : List Pc) (e : Int) : Prop where
  chn : Chn F 0 acc e
  dec : (acc.map (·.fall)).Pairwise (· > ·)
theorem lin_fall {F : Int → Int} {c e f : Int} (h : Lin F c e f) (l : c < e) : fallOf F c e = f := by
  unfold fallOf
  rw [h e (by omega) (Int.le_refl _)]
  rw [show F c - (F c - f * (e - c)) = f * (e - c) by omega]
  exact Int.mul_ediv_cancel _ (by omega)
theorem last_cases {α : Type} (l : List α) : l = [] ∨ ∃ a q, l = a ++ [q] := by
  rcases List.eq_nil_or_concat l with h | ⟨a, q, h⟩
  · exact .inl h
  · exact .inr ⟨a, q, by simpa using h⟩
theorem cov_step {F : Int → Int} (cv : ∀ p, 2 * F p ≤ F (p - 1) + F (p + 1)) {acc : List Pc} {c e f : Int} (h : Cov F acc c) (l : c < e) (hl : Lin F c e f) : Cov F (stepP F acc c e) e := by
  have ef := lin_fall hl l
  have new : Seg F ⟨c, some e, F c, fallOf F c e⟩ c e := ⟨rfl, rfl, l, rfl, by rw [ef]; exact hl⟩
  unfold stepP
  rcases last_cases acc with rfl | ⟨a, q, rfl⟩
  · have := h.chn
    exact ⟨⟨e, by cases this; exact new, rfl⟩, by simp⟩
  · obtain ⟨m, h1, hq, ⟨s1, s2, s3, s4, s5⟩, h3⟩ := chn_app.mp h.chn
    cases h3
    rw [List.getLast?_concat]
    dsimp only
    split
    · rename_i c1
      rw [List.dropLast_concat]
      refine ⟨chn_app.mpr ⟨m, h1, e, ⟨s1, rfl, by omega, s4, fun x x1 x2 => ?_⟩, rfl⟩, ?_⟩
      · dsimp only
        rw [← c1]
        by_cases hx : x ≤ c
        · exact s5 x x1 hx
        · rw [hl x (by omega) x2, s5 c (by omega) (Int.le_refl _), c1, ef]
          rw [show x - m = (x - c) + (c - m) by omega, Int.mul_add]
          omega
      · have := h.dec
        rw [List.map_append] at this ⊢
        rw [List.map_singleton] at this ⊢
        rw [c1] at this
        exact this
    · rename_i c1
      have gt : q.fall > fallOf F c e := by
        rw [ef]
        have k := cv c
        have k1 := s5 (c - 1) (by omega) (by omega)
        have k2 := s5 c (by omega) (Int.le_refl _)
        have k3 := hl (c + 1) (by omega) (by omega)
        rw [show c + 1 - c = 1 by omega, Int.mul_one] at k3
        rw [show c - m = (c - 1 - m) + 1 by omega, Int.mul_add, Int.mul_one] at k2
        rw [ef] at c1
        omega
      refine ⟨chn_app.mpr ⟨c, h.chn, e, new, rfl⟩, ?_⟩
      have d := h.dec
      rw [List.map_append, List.map_singleton]
      refine List.pairwise_append.mpr ⟨d, by simp, fun x hx y hy => ?_⟩
      simp at hy
      subst hy
      rw [List.map_append, List.map_singleton] at hx d
      rcases List.mem_append.mp hx with hx | hx
      · have := (List.pairwise_append.mp d).2.2 x hx q.fall (by simp)
        omega
      · simp at hx
        omega
/-- the whole row of pieces -/
def ChnE (F : Int → Int) : Int → List Pc → Prop
  | _, [] => False
  | s, [p] => p.low = s ∧ p.high = none ∧ p.value = F s ∧ p.fall = 0 ∧ ∀ x, s ≤ x → F x = F s
  | s, p :: q :: r => ∃ h, Seg F p s h ∧ ChnE F h (q :: r)
theorem chnE_app {F : Int → Int} {q : Pc} : ∀ {ps : List Pc} {s m : Int}, Chn F s ps m → ChnE F m [q] → ChnE F s (ps ++ [q])
  | [], s, m, h, k => by cases h; exact k
  | [p], s, m, ⟨h, a, b⟩, k => by cases b; exact ⟨_, a, k⟩
  | p :: p2 :: r, s, m, ⟨h, a, b⟩, k => ⟨h, a, chnE_app (ps := p2 :: r) b k⟩
structure Pieces (F : Int → Int) (ps : List Pc) : Prop where
  chn : ChnE F 0 ps
  dec : (ps.map (·.fall)).Pairwise (· > ·)
theorem cov_end {F : Int → Int} (down : ∀ p, F (p + 1) ≤ F p) {acc : List Pc} {c : Int} (h : Cov F acc c) (far : ∀ x, c ≤ x → F x = F c) : Pieces F (endP F acc c) := by
  unfold endP
  rcases last_cases acc with rfl | ⟨a, q, rfl⟩
  · have := h.chn
    have e : (0 : Int) = c := this
    subst e
    exact ⟨⟨rfl, rfl, rfl, rfl, far⟩, by simp⟩
  · obtain ⟨m, h1, hq, ⟨s1, s2, s3, s4, s5⟩, h3⟩ := chn_app.mp h.chn
    cases h3
    rw [List.getLast?_concat]
    dsimp only
    split
    · rename_i c1
      rw [List.dropLast_concat]
      refine ⟨chnE_app h1 ⟨s1, rfl, s4, rfl, fun x hx => ?_⟩, ?_⟩
      · have z := s5 c (by omega) (Int.le_refl _)
        rw [c1, Int.zero_mul] at z
        by_cases hc : x ≤ c
        · have := s5 x hx hc
          rw [c1, Int.zero_mul] at this
          omega
        · have := far x (by omega)
          omega
      · have := h.dec
        rw [List.map_append] at this ⊢
        rw [List.map_singleton] at this ⊢
        rw [c1] at this
        exact this
    · rename_i c1
      have q0 : 0 < q.fall := by
        have k1 := s5 (m + 1) (by omega) (by omega)
        have k2 := down m
        rw [show m + 1 - m = 1 by omega, Int.mul_one] at k1
        omega
      refine ⟨chnE_app h.chn ⟨rfl, rfl, rfl, rfl, far⟩, ?_⟩
      have d := h.dec
      rw [List.map_append, List.map_singleton]
      refine List.pairwise_append.mpr ⟨d, by simp, fun x hx y hy => ?_⟩
      simp at hy
      subst hy
      rw [List.map_append, List.map_singleton] at hx d
      rcases List.mem_append.mp hx with hx | hx
      · have := (List.pairwise_append.mp d).2.2 x hx q.fall (by simp)
        show x > 0
        omega
      · simp at hx
        show x > 0
        omega
/-! ### from corners to pieces -/
theorem corners_lin {g found : List Int} (C : Corners g found) {c e : Int} (c0 : 0 ≤ c) (l : c < e) (no : ∀ x ∈ found, x ≤ c ∨ e ≤ x) : ∃ f, Lin (buf g) c e f := by
  by_cases h : c + 2 ≤ e
  · obtain ⟨v, k⟩ := C.mid c e c0 h no
    obtain ⟨x0, gx, _⟩ := k c (Int.le_refl _) (by omega)
    refine ⟨(v : Int), fun x x1 x2 => ?_⟩
    rw [(k x x1 x2).buf gx, (k c (Int.le_refl _) (by omega)).buf gx, Int.mul_comm (v : Int) (x - c), Int.sub_mul]
    omega
  · refine ⟨buf g c - buf g e, fun x x1 x2 => ?_⟩
    by_cases hx : x = c
    · subst hx; simp
    · have : x = e := by omega
      subst this
      rw [show x - c = 1 by omega]
      omega
theorem corners_cov {g found : List Int} (ne : g ≠ []) (C : Corners g found) : ∀ (r : List Int) (c : Int) (acc : List Pc), 0 ≤ c → (c :: r).Pairwise (· < ·) → (∀ x ∈ found, x ≤ c ∨ x ∈ r) → Cov (buf g) acc c → ∃ z, (c :: r).getLast? = some z ∧ Cov (buf g) (pcs (buf g) c r acc) z ∧ ∀ x ∈ found, x ≤ z
  | [], c, acc, c0, _, no, h => ⟨c, rfl, h, fun x hx => (no x hx).elim id fun z => absurd z (by simp)⟩
  | e :: r, c, acc, c0, pw, no, h => by
    obtain ⟨p1, p2⟩ := List.pairwise_cons.mp pw
    have l : c < e := p1 e List.mem_cons_self
    have no2 : ∀ x ∈ found, x ≤ e ∨ x ∈ r := fun x hx => by
      rcases no x hx with k | k
      · exact .inl (by omega)
      · rcases List.mem_cons.mp k with k | k
        · exact .inl (by omega)
        · exact .inr k
    have no1 : ∀ x ∈ found, x ≤ c ∨ e ≤ x := fun x hx => by
      rcases no x hx with k | k
      · exact .inl k
      · rcases List.mem_cons.mp k with k | k
        · exact .inr (by omega)
        · have := (List.pairwise_cons.mp p2).1 x k
          exact .inr (by omega)
    obtain ⟨f, hf⟩ := corners_lin C c0 l no1
    obtain ⟨z, e1, e2, e3⟩ := corners_cov ne C r e (stepP (buf g) acc c e) (by omega) p2 no2 (cov_step (fun p => buf_convex ne) h l hf)
    exact ⟨z, by rw [List.getLast?_cons_cons]; exact e1, e2, e3⟩
/-- the pieces of the corners -/
theorem pieces_of {g found : List Int} (ne : g ≠ []) (C : Corners g found) {c : Int} {r : List Int} (hs : sset found = c :: r) : ∃ z, (c :: r).getLast? = some z ∧ c = 0 ∧ Pieces (buf g) (endP (buf g) (pcs (buf g) 0 r []) z) := by
  have pw := sset_lt found
  rw [hs] at pw
  have mem : ∀ x, x ∈ found ↔ x ∈ c :: r := fun x => by rw [← hs, sset_mem]
  have cz : c = 0 := by
    have h1 := C.pos c ((mem c).mpr List.mem_cons_self)
    rcases List.mem_cons.mp ((mem 0).mp C.zero) with h | h
    · exact h.symm
    · have := (List.pairwise_cons.mp pw).1 0 h
      omega
  subst cz
  obtain ⟨z, e1, e2, e3⟩ := corners_cov ne C r 0 [] (Int.le_refl _) pw (fun x hx => (List.mem_cons.mp ((mem x).mp hx)).elim (fun e => .inl (by omega)) .inr) ⟨rfl, by simp⟩
  refine ⟨z, e1, rfl, cov_end (fun p => buf_down ne) e2 fun x hx => ?_⟩
  have o1 := C.far x fun y hy => Int.le_trans (e3 y hy) hx
  have o2 := C.far z e3
  obtain ⟨v, gv, _⟩ := o1
  rw [(C.far x fun y hy => Int.le_trans (e3 y hy) hx).buf gv, o2.buf gv]
  simp
end Pg

set_option Elab.async false
set_option linter.all false
set_option maxRecDepth 100000
set_option maxHeartbeats 2000000
/-! PgI: whole_corners, buffer_pieces. -/
namespace Pg
open PySem L2 Ev

@[simp] theorem mk_index {mu : Bool} : MK.sem mu .index = dIndex := (rfl)
@[simp] theorem mk_extend {mu : Bool} : MK.sem mu .extend = dExtend := (rfl)
theorem fst_ints {v : Int} : ∀ {g : List Int} (n : Nat), v ∈ g → ∃ j, fstEq (.int v) (toPds (g.map D.int)) n = some (n + j) ∧ g[j]? = some v
  | [], n, h => by cases h
  | x :: g, n, h => by
    by_cases e : x = v
    · subst e
      refine ⟨0, ?_, rfl⟩
      simp only [List.map_cons, toPds, toPd]
      unfold fstEq
      rw [if_pos (by show (x == x) = true; simp)]; rfl
    · obtain ⟨j, h1, h2⟩ := fst_ints (n + 1) ((List.mem_cons.mp h).resolve_left fun z => e z.symm)
      refine ⟨j + 1, ?_, by simpa using h2⟩
      simp only [List.map_cons, toPds, toPd]
      unfold fstEq
      rw [if_neg (by show ¬ (x == v) = true; simpa using e), h1, Nat.add_assoc, Nat.add_comm 1 j]
theorem dIndex_ints {g : List Int} {v : Int} {S : Store} (h : v ∈ g) : ∃ j : Nat, dIndex (li g) [.int v] S = .ok (.int (j : Int)) S ∧ g[j]? = some v := by
  obtain ⟨j, h1, h2⟩ := fst_ints 0 h
  refine ⟨j, ?_, h2⟩
  have s1 := shaped_pl (n := 1) (plD_ints (xs := g)) (by decide)
  have p1 := toP_pl (S := S) (m := 12) (plD_ints (n := 0) (xs := g)) (by decide)
  have p2 : toP S 12 (.int v) = some (.int v) := by simp only [toP_non, toP_bl, toP_int, toP_str, toP_scr, toP_dct, toP_obj, toP_l0, toP_t0, toP_r0, toP_lst, toP_tup, toP_ref]
  unfold dIndex
  simp only [p1, p2]
  simp only [toPd] at s1 ⊢
  rw [if_pos ⟨s1, rfl⟩, h1]
  simp
/-- numbers of a good size -/
structure Gr (g : List Int) : Prop where
  ne : g ≠ []
  few : g.length ≤ 1000
  up : Up g
  pos : ∀ i, i < g.length → 0 ≤ G g i
  big : ∀ i, i < g.length → G g i < 2 ^ 4000
theorem Gr.len {g : List Int} (h : Gr g) : 1 ≤ g.length := List.length_pos_iff.mpr h.ne
def eT : Option (Int × Int × Nat) → D
  | some (t, _, _) => .int t
  | none => .non
def eB' : Option (Int × Int × Nat) → D
  | some (_, b, _) => .int b
  | none => .non
def eL : Option (Int × Int × Nat) → D
  | some (_, _, l) => .int (l : Int)
  | none => .non
abbrev wcIn : MS := (sSeq (sTup [7, 8] (sCons (s2 (s2 (sVar 0) (sVar 2) dIx) (s2 (sVar 0) (sVar 3) dIx) dSub) (sCons (s2 (sVar 2) (sVar 3) dSub) sNil)))
            (sIfS (sOr (sTest (s2 (sVar 4) (sC .non) (dIsN false))) (sTest (s2 (s2 (sVar 7) (sVar 5) (dMul false)) (s2 (sVar 4) (sVar 8) (dMul false)) (cmpSem .Lt))))
            (sTup [4, 5, 6] (sCons (sVar 7) (sCons (sVar 8) (sCons (sVar 3) sNil))))
            (sPass)))
theorem lg2000 {i : Int} (h0 : 0 ≤ i) (h : i ≤ 1000) : i.natAbs.log2 ≤ 10 := lg_int h0 (by omega)
theorem wc_in {g : List Int} (h : Gr g) {line : Nat} (hl : line < g.length) (S : Store) : forL (.nm 3) [3, 7, 8] wcIn (rangeD 0 line) [some (li g), some (.ref 0), some (.int line), none, some .non, some .non, some .non, none, none] S =
    .nx [some (li g), some (.ref 0), some (.int line), none, some (eT (bst g line line)), some (eB' (bst g line line)), some (eL (bst g line line)), none, none] S := by
  have few := h.few
  have at' : ∀ i : Nat, i < g.length → L2.atI (g.map D.int) (i : Int) = some (.int (G g i)) := fun i hi => by rw [atI_n, List.getElem?_map, G_at hi]; rfl
  have loop := forL_run (t := .nm 3) (kill := [3, 7, 8]) (body := wcIn) (items := rangeD 0 line) (env := [some (li g), some (.ref 0), some (.int line), none, some .non, some .non, some .non, none, none]) (S := S)
    (fun i => [some (li g), some (.ref 0), some (.int line), none, some (eT (bst g line i)), some (eB' (bst g line i)), some (eL (bst g line i)), none, none]) (fun _ => S) (by simp [bst, eT, eB', eL]) rfl fun i d hi => by
      obtain ⟨rfl, hlt⟩ := rangeD_get hi
      rw [Int.zero_add]
      refine ⟨_, rfl, ?_⟩
      have a1 := at' line hl
      have a2 := at' i (by omega)
      have d0 : 0 ≤ G g line - G g i := by have := h.up i line (by omega) hl; omega
      have d1 : G g line - G g i < 2 ^ 4000 := by have := h.big line hl; have := h.pos i (by omega); omega
      have l1 := lg_int d0 d1
      by_cases i0 : i = 0
      · have e : bst g line i = none := by rw [i0]; rfl
        refine ⟨_, by simp [wcIn, a1, a2, e, eT, eB', eL]; rfl, by simp [bst, e, eT, eB', eL]⟩
      · obtain ⟨t, b, l, e, B⟩ := bst_spec (g := g) (line := line) (k := i) (by omega) (by omega)
        have hB := B.lt
        have t0 : 0 ≤ t := by have := h.up l line (by omega) hl; rw [B.et]; omega
        have t1 : t < 2 ^ 4000 := by have := h.big line hl; have := h.pos l (by omega); rw [B.et]; omega
        have l2 := lg_int t0 t1
        have l3 := lg2000 (i := b) (by rw [B.eb]; omega) (by rw [B.eb]; omega)
        have l4 := lg2000 (i := (line : Int) - (i : Int)) (by omega) (by omega)
        have m1 : (G g line - G g i).natAbs.log2 + b.natAbs.log2 < 1000000 := by omega
        have m2 : t.natAbs.log2 + ((line : Int) - (i : Int)).natAbs.log2 < 1000000 := by omega
        by_cases c : (G g line - G g i) * b < t * ((line : Int) - (i : Int))
        · refine ⟨_, by simp [wcIn, a1, a2, e, eT, eB', eL, dMul_int m1, dMul_int m2, c]; rfl, by simp [bst, e, c, eT, eB', eL]⟩
        · refine ⟨_, by simp [wcIn, a1, a2, e, eT, eB', eL, dMul_int m1, dMul_int m2, c]; rfl, by simp [bst, e, c, eT, eB', eL]⟩
  rw [loop, rangeD_len]
abbrev wcBody : MS := (sSeq (sTup [4, 5, 6] (sCons (sC .non) (sCons (sC .non) (sCons (sC .non) sNil))))
        (sSeq (sFor (.nm 3) [3, 7, 8] (s1 (sCons (sVar 2) sNil) dRange1) wcIn)
        (sSeq (sExpr (sBM (MK.chk .extend) (sVar 1) (sCons (s1 (sCons (s2 (sVar 4) (sVar 5) dDiv) (sCons (s1 (s2 (s1 (sVar 4) dNeg) (sVar 5) dDiv) dNeg) sNil)) (newLs false)) sNil) (MK.sem false .extend)))
        (sAsg (.nm 2) (sVar 6)))))
theorem wc_body {g : List Int} (h : Gr g) {line : Nat} (hl : line < g.length) (l0 : 0 < line) {found : List Int} (few : found.length ≤ 3000) : ∃ t b l e, Back g line line t b l ∧
    wcBody [some (li g), some (.ref 0), some (.int line), none, none, none, none, none, none] [.lst (found.map D.int)] = .nx e [.lst ((found ++ [t / b, -(-t / b)]).map D.int)] ∧
    wipeD e [3, 4, 5, 6, 7, 8] = [some (li g), some (.ref 0), some (.int (l : Int)), none, none, none, none, none, none] := by
  obtain ⟨t, b, l, e, B⟩ := bst_spec (g := g) (line := line) (k := line) l0 (Nat.le_refl _)
  have hf := h.few
  have hB := B.lt
  have b0 : 0 < b := by rw [B.eb]; omega
  have b1 : b.natAbs.log2 < 9000 := by have := lg2000 (i := b) (by omega) (by rw [B.eb]; omega); omega
  have hin := wc_in h hl [.lst (found.map D.int)]
  rw [e] at hin
  simp only [eT, eB', eL] at hin
  refine ⟨t, b, l, [some (li g), some (.ref 0), some (.int (l : Int)), none, some (.int t), some (.int b), some (.int (l : Int)), none, none], B, ?_, ?_⟩
  · simp only [wcBody, sSeq_ap, sTup_ap, sFor_ap]
    simp [okR_of (i := (line : Int)) (by omega) (by omega)]
    rw [hin]
    simp [dDiv_int b0 b1, newLs_ap, sizeL, dExtend]
    rw [if_pos (by omega)]
    simp
  · simp
theorem wc_eq {g : List Int} {S : Store} (h : Gr g) : ∃ found : List Int, sem_whole_corners [li g] S = .ok (li (sset found)) S ∧ Corners g found ∧ found.length ≤ 3000 ∧ ∀ x ∈ found, x ≤ G g (g.length - 1) := by
  have few := h.few
  have hn := h.len
  obtain ⟨j, j1, j2⟩ := dIndex_ints (g := g) (v := G g (g.length - 1)) (S := [.lst [.int 0]]) (List.mem_of_getElem? (G_at (by omega)))
  have jl : j < g.length := (List.getElem?_eq_some_iff.mp j2).1
  have jg : G g j = G g (g.length - 1) := (G_of j2).symm
  have hfu : j < fuel := Nat.lt_of_lt_of_le (Nat.lt_of_lt_of_le jl few) (by decide +kernel)
  have loop : ∃ found : List Int, whileL [3, 4, 5, 6, 7, 8] (sTest (s2 (sVar 2) (sC (.int 0)) (cmpSem .Gt))) wcBody fuel [some (li g), some (.ref 0), some (.int (j : Int)), none, none, none, none, none, none] [.lst [.int 0]] =
      .nx [some (li g), some (.ref 0), some (.int 0), none, none, none, none, none, none] [.lst (found.map D.int)] ∧ Cor g 0 found ∧ found.length ≤ 3000 ∧ ∀ x ∈ found, x ≤ G g (g.length - 1) := by
    refine whileL_gen (kill := [3, 4, 5, 6, 7, 8]) (c := sTest (s2 (sVar 2) (sC (.int 0)) (cmpSem .Gt))) (body := wcBody) (n := fuel) (env := [some (li g), some (.ref 0), some (.int (j : Int)), none, none, none, none, none, none]) (S := [.lst [.int 0]]) (fun r => ∃ found : List Int, r = .nx [some (li g), some (.ref 0), some (.int 0), none, none, none, none, none, none] [.lst (found.map D.int)] ∧ Cor g 0 found ∧ found.length ≤ 3000 ∧ ∀ x ∈ found, x ≤ G g (g.length - 1))
      (fun m e S => ∃ found : List Int, e = [some (li g), some (.ref 0), some (.int (m : Int)), none, none, none, none, none, none] ∧ S = [.lst (found.map D.int)] ∧ Cor g m found ∧ found.length + 2 * m ≤ 3000 ∧ ∀ x ∈ found, x ≤ G g (g.length - 1))
      (m := j) hfu ⟨[0], by simp, by simp, cor_first jl fun i hi => by rw [jg]; exact h.up i _ (by omega) (by omega), by simp; omega, fun x hx => ?_⟩ fun m e S ⟨found, he, hS, C, hf, hx⟩ => ?_
    · simp at hx; subst hx; exact h.pos _ (by omega)
    · subst he; subst hS
      refine ⟨decide (0 < m), [.lst (found.map D.int)], by simp, ?_⟩
      by_cases m0 : 0 < m
      · obtain ⟨t, b, l, e, B, e1, e2⟩ := wc_body h C.lt m0 (found := found) (by omega)
        rw [if_pos (by simpa using m0), e1]
        have ll := B.lt
        have b0 : 0 < b := by rw [B.eb]; omega
        have t0 : 0 ≤ t := by have := h.up l m (by omega) C.lt; rw [B.et]; omega
        have tm : t ≤ G g (g.length - 1) := by
          have := h.up m (g.length - 1) (by have := C.lt; omega) (by omega)
          have := h.pos l (by have := C.lt; omega)
          rw [B.et]; omega
        refine ⟨l, ll, found ++ [t / b, -(-t / b)], e2, rfl, cor_step h.up C B, by simp; omega, fun x hx' => ?_⟩
        rw [List.mem_append] at hx'
        rcases hx' with hx' | hx'
        · exact hx x hx'
        · simp at hx'
          rcases hx' with rfl | rfl
          · exact Int.le_trans (Int.ediv_le_self b t0) tm
          · refine Int.le_trans ((ceil_le b0).mpr ?_) tm
            have := Int.mul_le_mul_of_nonneg_left (show 1 ≤ b by omega) t0
            omega
      · rw [if_neg (by simpa using m0)]
        have : m = 0 := by omega
        subst this
        exact ⟨found, by simp, C, by omega, hx⟩
  obtain ⟨found, w1, w2, w3, w4⟩ := loop
  refine ⟨found, io_pure (d := li (sset found)) (S' := [.lst (found.map D.int)]) (S'' := [.lst (found.map D.int)]) (by simp) rfl ?_ (fz_nr (by simp)), cor_last w2, w3, w4⟩
  have la : L2.atI (g.map D.int) (-1) = some (.int (G g (g.length - 1))) := by
    rcases last_cases g with e | ⟨a, q, e⟩
    · exact absurd e h.ne
    · have eq : q = G g (g.length - 1) := by
        refine G_of ?_
        rw [e]
        simp
      rw [← eq, e, List.map_append, List.map_singleton]
      exact L2.atI_last _ _
  simp only [b_whole_corners, sSeq_ap, sAsg_nm]
  simp [newLs_ap, sizeL, la]
  rw [j1]
  simp
  simp [wcBody, wcIn] at w1
  rw [w1]
  simp [dSortSet]
  rw [if_pos (by omega)]
  simp
end Pg

set_option Elab.async false
set_option linter.all false
set_option maxRecDepth 100000
set_option maxHeartbeats 2000000
/-! PgJ: buffer_pieces. -/
namespace Pg
open PySem L2 Ev

def hiD : Option Int → D
  | some h => .int h
  | none => .non
def encP (p : Pc) : D := .tup [.int p.low, hiD p.high, .int p.value, .int p.fall]
theorem hiD_nr {h : Option Int} : nrD (hiD h) = true := by cases h <;> rfl
theorem encP_nr {p : Pc} : nrD (encP p) = true := by unfold encP; simp [hiD_nr]
theorem encPs_nr {ps : List Pc} : nrDs (ps.map encP) = true := nr_all fun d hd => by
  obtain ⟨p, _, rfl⟩ := List.mem_map.mp hd
  exact encP_nr
theorem encP_pl {p : Pc} : plD 1 (encP p) = true := by
  unfold encP
  simp only [plD, plDs, Bool.and_true]
  cases p.high <;> simp [hiD, plD]
theorem encPs_pl {ps : List Pc} : plD 2 (.lst (ps.map encP)) = true := by
  simp only [plD]
  exact plDs_all fun d hd => by
    obtain ⟨p, _, rfl⟩ := List.mem_map.mp hd
    exact encP_pl
theorem dEq_nil {n : Nat} {xs : List D} {neg : Bool} {S : Store} (h : plD n (.lst xs) = true) (l : n ≤ 12) : dEq neg (.lst xs) (.lst []) S = .ok (.bl (if neg = true then !xs.isEmpty else xs.isEmpty)) S := by
  have h2 : plD n (.lst []) = true := by cases n <;> simp [plD, plDs] at h ⊢
  rw [dEq_pl h h2 l]
  have : eqvD (.lst xs) (.lst []) = xs.isEmpty := by
    rw [eqvD_lst]
    cases xs with
    | nil => simp [toPds, PyData.eqvAll]
    | cons x xs => simp [toPds, PyData.eqvAll]
  rw [this]
theorem P_mono {xs : List Int} (h : ∀ x ∈ xs, 0 ≤ x) {j k : Nat} (l : j ≤ k) : P xs j ≤ P xs k := by
  induction k with
  | zero =>
    have : j = 0 := by omega
    subst this
    exact Int.le_refl _
  | succ k ih =>
    by_cases e : j = k + 1
    · subst e; exact Int.le_refl _
    · have h1 := ih (by omega)
      by_cases hk : k < xs.length
      · rw [P_succ (List.getElem?_eq_getElem hk)]
        have := h _ (List.getElem_mem hk)
        omega
      · have : P xs (k + 1) = P xs k := by
          unfold P
          rw [List.take_of_length_le (by omega), List.take_of_length_le (by omega)]
        omega
theorem P_all {xs : List Int} : P xs xs.length = xs.sum := by unfold P; rw [List.take_length]
theorem gsum_up {xs : List Int} (h : ∀ x ∈ xs, 0 ≤ x) {m : Nat} (l : m + 1 ≤ xs.length) : gsum xs m ≤ gsum xs (m + 1) := by
  have ne : ((List.range (xs.length + 1 - m)).map fun j => P xs (m + j) - P xs j) ≠ [] := by simp; omega
  obtain ⟨j, hj, e⟩ := List.mem_map.mp (lmax_mem ne)
  have hj' := List.mem_range.mp hj
  have eg : gsum xs m = P xs (m + j) - P xs j := e.symm
  rw [eg]
  by_cases c : m + j < xs.length
  · have : P xs (m + 1 + j) - P xs j ≤ gsum xs (m + 1) := le_lmax (List.mem_map.mpr ⟨j, List.mem_range.mpr (by omega), rfl⟩)
    have := P_mono h (j := m + j) (k := m + 1 + j) (by omega)
    omega
  · have : P xs (m + 1 + (j - 1)) - P xs (j - 1) ≤ gsum xs (m + 1) := le_lmax (List.mem_map.mpr ⟨j - 1, List.mem_range.mpr (by omega), rfl⟩)
    rw [show m + 1 + (j - 1) = m + j by omega] at this
    have := P_mono h (j := j - 1) (k := j) (by omega)
    omega
theorem gsum_le {xs : List Int} (h : ∀ x ∈ xs, 0 ≤ x) {m : Nat} (l : m ≤ xs.length) : gsum xs m ≤ xs.sum := by
  have ne : ((List.range (xs.length + 1 - m)).map fun j => P xs (m + j) - P xs j) ≠ [] := by simp; omega
  obtain ⟨j, hj, e⟩ := List.mem_map.mp (lmax_mem ne)
  have hj' := List.mem_range.mp hj
  have eg : gsum xs m = P xs (m + j) - P xs j := e.symm
  have a := P_mono h (j := m + j) (k := xs.length) (by omega)
  have b := P_mono h (j := 0) (k := j) (by omega)
  rw [P_all] at a
  have : P xs 0 = 0 := rfl
  omega
theorem gsum_0 {xs : List Int} (h : ∀ x ∈ xs, 0 ≤ x) {m : Nat} (l : m ≤ xs.length) : 0 ≤ gsum xs m := by
  have : P xs (m + 0) - P xs 0 ≤ gsum xs m := le_lmax (List.mem_map.mpr ⟨0, List.mem_range.mpr (by omega), rfl⟩)
  have b := P_mono h (j := 0) (k := m + 0) (by omega)
  omega
theorem G_great {xs : List Int} {i : Nat} (h : i < xs.length) : G (greatest xs) i = gsum xs (i + 1) := (G_of (greatest_get h)).symm
theorem great_gr {xs : List Int} (h : Sizes xs) (big : xs.sum < 2 ^ 4000) : Gr (greatest xs) := by
  have hl := greatest_len xs
  refine ⟨fun e => ?_, by rw [hl]; have := h.few; omega, fun i j ij hj => ?_, fun i hi => ?_, fun i hi => ?_⟩
  · rw [e] at hl; exact h.ne (List.eq_nil_of_length_eq_zero hl.symm)
  · rw [hl] at hj
    rw [G_great (by omega), G_great hj]
    induction j with
    | zero =>
      have : i = 0 := by omega
      subst this
      exact Int.le_refl _
    | succ j ih =>
      by_cases e : i = j + 1
      · subst e; exact Int.le_refl _
      · exact Int.le_trans (ih (by omega) (by omega)) (gsum_up h.pos (by omega))
  · rw [hl] at hi; rw [G_great hi]; exact gsum_0 h.pos (by omega)
  · rw [hl] at hi; rw [G_great hi]; have := gsum_le h.pos (m := i + 1) (by omega); omega
theorem great_top {xs : List Int} (h : Sizes xs) : G (greatest xs) ((greatest xs).length - 1) ≤ xs.sum := by
  have := h.len
  rw [greatest_len, G_great (by omega)]
  exact gsum_le h.pos (by omega)
theorem pcs_snoc {F : Int → Int} {e : Int} : ∀ {r : List Int} {c z : Int} {acc : List Pc}, (c :: r).getLast? = some z → pcs F c (r ++ [e]) acc = stepP F (pcs F c r acc) z e
  | [], c, z, acc, h => by cases h; rfl
  | x :: r, c, z, acc, h => by
    rw [List.getLast?_cons_cons] at h
    exact pcs_snoc (r := r) h
abbrev bpBody : MS := (sSeq (sTup [8, 9] (sCons (s2 (sVar 2) (s2 (sVar 5) (sC (.int 1)) dSub) dIx) (sCons (s2 (sVar 2) (sVar 5) dIx) sNil)))
        (sSeq (sAsg (.nm 6) (s2 (s2 (s2 (sVar 3) (s2 (sVar 5) (sC (.int 1)) dSub) dIx) (s2 (sVar 3) (sVar 5) dIx) dSub) (s2 (sVar 9) (sVar 8) dSub) dDiv))
        (sIfS (sAnd (sTest (s2 (sVar 4) (s1 sNil (newLs false)) (dEq true))) (sTest (s2 (s2 (s2 (sVar 4) (s1 (sC (.int 1)) dNeg) dIx) (sC (.int 3)) dIx) (sVar 6) (dEq false))))
        (sSet (sVar 4) (s1 (sC (.int 1)) dNeg) (s1 (sCons (s2 (s2 (sVar 4) (s1 (sC (.int 1)) dNeg) dIx) (sC (.int 0)) dIx) (sCons (sVar 9) (sCons (s2 (s2 (sVar 4) (s1 (sC (.int 1)) dNeg) dIx) (sC (.int 2)) dIx) (sCons (sVar 6) sNil)))) newTs))
        (sExpr (sBM (MK.chk .append) (sVar 4) (sCons (s1 (sCons (sVar 8) (sCons (sVar 9) (sCons (s2 (sVar 3) (s2 (sVar 5) (sC (.int 1)) dSub) dIx) (sCons (sVar 6) sNil)))) newTs) sNil) (MK.sem false .append))))))
@[simp] theorem ixN_m1 {n : Nat} : L2.ixN (n + 1) (-1) = some n := by
  unfold L2.ixN
  rw [if_neg (by decide), if_pos (by omega)]
  congr 1
  omega
theorem bp_body {cs : List Int} {F : Int → Int} {i : Nat} {c e : Int} {acc : List Pc} {w1 w2 z : Option D} (h1 : cs[i]? = some c) (h2 : cs[i + 1]? = some e) (l : c < e) (l2 : e - c < 2 ^ 5000) (few : acc.length ≤ 100000) :
    ∃ e', bpBody [w1, w2, some (li cs), some (li (cs.map F)), some (.ref 0), some (.int ((i + 1 : Nat) : Int)), none, z, none, none] [.lst (acc.map encP)] = .nx e' [.lst ((stepP F acc c e).map encP)] ∧
      wipeD e' [5, 6, 8, 9] = [w1, w2, some (li cs), some (li (cs.map F)), some (.ref 0), none, none, z, none, none] := by
  have a1 : L2.atI (cs.map D.int) (((i + 1 : Nat) : Int) - 1) = some (.int c) := by
    rw [show ((i + 1 : Nat) : Int) - 1 = (i : Int) by omega, atI_n, List.getElem?_map, h1]; rfl
  have a2 : L2.atI (cs.map D.int) ((i + 1 : Nat) : Int) = some (.int e) := by rw [atI_n, List.getElem?_map, h2]; rfl
  have a3 : L2.atI ((cs.map F).map D.int) (((i + 1 : Nat) : Int) - 1) = some (.int (F c)) := by
    rw [show ((i + 1 : Nat) : Int) - 1 = (i : Int) by omega, atI_n, List.getElem?_map, List.getElem?_map, h1]; rfl
  have a4 : L2.atI ((cs.map F).map D.int) ((i + 1 : Nat) : Int) = some (.int (F e)) := by rw [atI_n, List.getElem?_map, List.getElem?_map, h2]; rfl
  have dv : dDiv (.int (F c - F e)) (.int (e - c)) [.lst (acc.map encP)] = .ok (.int (fallOf F c e)) [.lst (acc.map encP)] := dDiv_int (by omega) (by have := lg_int (i := e - c) (by omega) l2; omega)
  rw [List.map_map] at a3 a4
  generalize hi : ((i + 1 : Nat) : Int) = ii at a1 a2 a3 a4
  rcases last_cases acc with rfl | ⟨a, q, rfl⟩
  · have q0 : dEq true (.ref 0) (.lst []) [.lst []] = .ok (.bl false) [.lst []] := by
      rw [dEq_refl (xs := []) rfl]
      exact dEq_nil (n := 1) (by simp [plD, plDs]) (by decide)
    simp only [List.map_nil] at dv
    refine ⟨[w1, w2, some (li cs), some (li (cs.map F)), some (.ref 0), some (.int ii), some (.int (fallOf F c e)), z, some (.int c), some (.int e)], ?_, by simp⟩
    simp [bpBody, a1, a2, a3, a4, dv, newLs_ap, sizeL, q0, newTs_ap]
    rw [apc_ok (by simp; rw [sizeL]; omega)]
    simp [stepP, encP, hiD]
  · have q0 : dEq true (.ref 0) (.lst []) [.lst ((a ++ [q]).map encP)] = .ok (.bl true) [.lst ((a ++ [q]).map encP)] := by
      rw [dEq_refl (xs := (a ++ [q]).map encP) rfl, dEq_nil (n := 2) encPs_pl (by decide)]
      simp
    simp only [List.map_append, List.map_cons, List.map_nil] at q0 dv
    have la : L2.atI (a.map encP ++ [encP q]) (-1) = some (.tup [.int q.low, hiD q.high, .int q.value, .int q.fall]) := L2.atI_last _ _
    by_cases c1 : q.fall = fallOf F c e
    · refine ⟨[w1, w2, some (li cs), some (li (cs.map F)), some (.ref 0), some (.int ii), some (.int (fallOf F c e)), z, some (.int c), some (.int e)], ?_, by simp⟩
      simp [bpBody, a1, a2, a3, a4, dv, newLs_ap, sizeL, q0, newTs_ap, la, c1, stc]
      simp [stepP, c1, encP, hiD]
    · refine ⟨[w1, w2, some (li cs), some (li (cs.map F)), some (.ref 0), some (.int ii), some (.int (fallOf F c e)), z, some (.int c), some (.int e)], ?_, by simp⟩
      simp [bpBody, a1, a2, a3, a4, dv, newLs_ap, sizeL, q0, newTs_ap, la, c1]
      rw [apc_ok (by simp at few ⊢; rw [sizeL]; omega)]
      simp [stepP, c1, encP, hiD]
end Pg

set_option Elab.async false
set_option linter.all false
set_option maxRecDepth 100000
set_option maxHeartbeats 2000000
/-! PgK: buffer_pieces, whole. -/
namespace Pg
open PySem L2 Ev

def slo (mu : Bool) (lo hi : Option Int) : Option (List D) → M D
  | some xs => newL mu (Ev.cutD xs lo hi)
  | none => stk
@[simp] theorem slo_some {mu : Bool} {lo hi : Option Int} {xs : List D} {S : Store} : slo mu lo hi (some xs) S = newL mu (Ev.cutD xs lo hi) S := (rfl)
@[simp] theorem dSl_ref {mu : Bool} {k : Nat} {lo hi : Option Int} {S : Store} : dSl mu (.ref k) lo hi S = slo mu lo hi (cl S[k]?) S := by
  unfold dSl slo
  dsimp only
  rw [seqL_ref]
  cases cl S[k]? <;> rfl
@[simp] theorem dSl_lst {mu : Bool} {xs : List D} {lo hi : Option Int} {S : Store} : dSl mu (.lst xs) lo hi S = newL mu (Ev.cutD xs lo hi) S := (rfl)
@[simp] theorem dSl_tup {mu : Bool} {xs : List D} {lo hi : Option Int} {S : Store} : dSl mu (.tup xs) lo hi S = .ok (.tup (Ev.cutD xs lo hi)) S := (rfl)
theorem cut_m1 {a : List D} {q : D} : Ev.cutD (a ++ [q]) none (some (-1)) = a := by
  unfold Ev.cutD
  have h1 : HT.sIx (a ++ [q]).length 0 none = 0 := rfl
  have h2 : HT.sIx (a ++ [q]).length (a ++ [q]).length (some (-1)) = a.length := by
    show (if (-1 : Int) < 0 then ((-1 : Int) + ((a ++ [q]).length : Int)).toNat else min (-1 : Int).toNat (a ++ [q]).length) = _
    rw [if_pos (by decide)]
    simp
    omega
  rw [h1, h2]
  simp
@[simp] theorem sStar_ap {f : Envd → M D} {g : Envd → M (List D)} {env : Envd} {S : Store} : sStar f g env S = rb (f env S) fun d S1 => rb ((match seqT d with | some xs => R.ok xs S1 | none => match seqL S1 d with | some xs => .ok xs S1 | none => .stuck)) fun xs S2 => rb (g env S2) fun ds S3 => .ok (xs ++ ds) S3 := (rfl)
/-- what comes before the rows are made -/
structure Bp (xs : List Int) (ps : List Pc) : Prop where
  ok : Pieces (buf (greatest xs)) ps
  few : ps.length ≤ 3100
  lows : ∀ p ∈ ps, 0 ≤ p.low ∧ p.low ≤ xs.sum ∧ ∀ h, p.high = some h → h ≤ xs.sum
abbrev bpEnd : MS := (sSeq (sIfS (sAnd (sTest (s2 (sVar 4) (s1 sNil (newLs false)) (dEq true))) (sTest (s2 (s2 (s2 (sVar 4) (s1 (sC (.int 1)) dNeg) dIx) (sC (.int 3)) dIx) (sC (.int 0)) (dEq false))))
      (sRet (s1 (sStar (sSl false (sVar 4) (sPart none) (sPart (some (s1 (sC (.int 1)) dNeg)))) (sCons (s1 (sCons (s2 (s2 (sVar 4) (s1 (sC (.int 1)) dNeg) dIx) (sC (.int 0)) dIx) (sCons (sC .non) (sCons (s2 (s2 (sVar 4) (s1 (sC (.int 1)) dNeg) dIx) (sC (.int 2)) dIx) (sCons (sC (.int 0)) sNil)))) newTs) sNil)) (newLs true)))
      (sPass))
    (sRet (s1 (sStar (sVar 4) (sCons (s1 (sCons (s2 (sVar 2) (s1 (sC (.int 1)) dNeg) dIx) (sCons (sC .non) (sCons (s2 (sVar 3) (s1 (sC (.int 1)) dNeg) dIx) (sCons (sC (.int 0)) sNil)))) newTs) sNil)) (newLs true))))
theorem bp_end {cs : List Int} {F : Int → Int} {z : Int} (hz : cs.getLast? = some z) {acc : List Pc} (few : acc.length ≤ 3000) {w1 w2 w3 : Option D} :
    bpEnd [w1, w2, some (li cs), some (li (cs.map F)), some (.ref 0), none, none, w3, none, none] [.lst (acc.map encP)] = .rt (.ref 1) [.lst (acc.map encP), .lst ((endP F acc z).map encP)] := by
  have lc : L2.atI (cs.map D.int) (-1) = some (.int z) := by
    rcases last_cases cs with rfl | ⟨a, q, rfl⟩
    · simp at hz
    · rw [List.getLast?_concat] at hz
      cases hz
      rw [List.map_append]
      exact L2.atI_last _ _
  have lv : L2.atI (cs.map (D.int ∘ F)) (-1) = some (.int (F z)) := by
    rcases last_cases cs with rfl | ⟨a, q, rfl⟩
    · simp at hz
    · rw [List.getLast?_concat] at hz
      cases hz
      rw [List.map_append]
      exact L2.atI_last _ _
  rcases last_cases acc with rfl | ⟨a, q, rfl⟩
  · have q0 : dEq true (.ref 0) (.lst []) [.lst []] = .ok (.bl false) [.lst []] := by
      rw [dEq_refl (xs := []) rfl]
      exact dEq_nil (n := 1) (by simp [plD, plDs]) (by decide)
    simp [bpEnd, newLs_ap, sizeL, q0, newTs_ap, lc, lv, seqT]
    simp [endP, encP, hiD]
  · have q0 : dEq true (.ref 0) (.lst []) [.lst ((a ++ [q]).map encP)] = .ok (.bl true) [.lst ((a ++ [q]).map encP)] := by
      rw [dEq_refl (xs := (a ++ [q]).map encP) rfl, dEq_nil (n := 2) encPs_pl (by decide)]
      simp
    simp only [List.map_append, List.map_cons, List.map_nil] at q0
    simp at few
    have la : L2.atI (a.map encP ++ [encP q]) (-1) = some (.tup [.int q.low, hiD q.high, .int q.value, .int q.fall]) := L2.atI_last _ _
    by_cases c1 : q.fall = 0
    · simp [bpEnd, newLs_ap, sizeL, q0, newTs_ap, la, c1, cut_m1, seqT]
      rw [newLs_ap (by simp; rw [sizeL]; omega)]
      simp [endP, c1, encP, hiD]
    · simp [bpEnd, newLs_ap, sizeL, q0, newTs_ap, la, c1, lc, lv, seqT]
      rw [newLs_ap (by simp; rw [sizeL]; omega)]
      simp [endP, c1, encP, hiD]
theorem stepP_len {F : Int → Int} {acc : List Pc} {c e : Int} : (stepP F acc c e).length ≤ acc.length + 1 := by
  unfold stepP
  rcases last_cases acc with rfl | ⟨a, q, rfl⟩
  · simp
  · rw [List.getLast?_concat]
    dsimp only
    split <;> simp
theorem pcs_len {F : Int → Int} : ∀ {r : List Int} {c : Int} {acc : List Pc}, (pcs F c r acc).length ≤ acc.length + r.length
  | [], c, acc => by simp [pcs]
  | e :: r, c, acc => by
    have := pcs_len (F := F) (r := r) (c := e) (acc := stepP F acc c e)
    have := stepP_len (F := F) (acc := acc) (c := c) (e := e)
    simp only [pcs, List.length_cons]
    omega
theorem endP_len {F : Int → Int} {acc : List Pc} {c : Int} : (endP F acc c).length ≤ acc.length + 1 := by
  unfold endP
  rcases last_cases acc with rfl | ⟨a, q, rfl⟩
  · simp
  · rw [List.getLast?_concat]
    dsimp only
    split <;> simp
/-- all that is told lies between -/
def In (M : Int) (p : Pc) : Prop := 0 ≤ p.low ∧ p.low ≤ M ∧ ∀ h, p.high = some h → h ≤ M
theorem stepP_in {F : Int → Int} {M : Int} {acc : List Pc} {c e : Int} (h : ∀ p ∈ acc, In M p) (c0 : 0 ≤ c) (c1 : c ≤ M) (e1 : e ≤ M) : ∀ p ∈ stepP F acc c e, In M p := by
  have new : ∀ f, In M ⟨c, some e, F c, f⟩ := fun f => ⟨c0, c1, fun h hh => by cases hh; exact e1⟩
  unfold stepP
  rcases last_cases acc with rfl | ⟨a, q, rfl⟩
  · intro p hp
    simp at hp
    subst hp
    exact new _
  · rw [List.getLast?_concat]
    dsimp only
    have hq := h q (by simp)
    split
    · rw [List.dropLast_concat]
      intro p hp
      rcases List.mem_append.mp hp with hp | hp
      · exact h p (List.mem_append_left _ hp)
      · simp at hp
        subst hp
        exact ⟨hq.1, hq.2.1, fun h hh => by cases hh; exact e1⟩
    · intro p hp
      rcases List.mem_append.mp hp with hp | hp
      · exact h p hp
      · simp at hp
        subst hp
        exact new _
theorem pcs_in {F : Int → Int} {M : Int} : ∀ {r : List Int} {c : Int} {acc : List Pc}, (∀ p ∈ acc, In M p) → 0 ≤ c → c ≤ M → (∀ x ∈ r, 0 ≤ x ∧ x ≤ M) → ∀ p ∈ pcs F c r acc, In M p
  | [], c, acc, h, _, _, _ => h
  | e :: r, c, acc, h, c0, c1, hr => by
    obtain ⟨e0, e1⟩ := hr e List.mem_cons_self
    exact pcs_in (r := r) (c := e) (acc := stepP F acc c e) (stepP_in h c0 c1 e1) e0 e1 fun x hx => hr x (List.mem_cons_of_mem _ hx)
theorem endP_in {F : Int → Int} {M : Int} {acc : List Pc} {c : Int} (h : ∀ p ∈ acc, In M p) (c0 : 0 ≤ c) (c1 : c ≤ M) : ∀ p ∈ endP F acc c, In M p := by
  have new : In M ⟨c, none, F c, 0⟩ := ⟨c0, c1, fun h hh => by cases hh⟩
  unfold endP
  rcases last_cases acc with rfl | ⟨a, q, rfl⟩
  · intro p hp
    simp at hp
    subst hp
    exact new
  · rw [List.getLast?_concat]
    dsimp only
    have hq := h q (by simp)
    split
    · rw [List.dropLast_concat]
      intro p hp
      rcases List.mem_append.mp hp with hp | hp
      · exact h p (List.mem_append_left _ hp)
      · simp at hp
        subst hp
        exact ⟨hq.1, hq.2.1, fun h hh => by cases hh⟩
    · intro p hp
      rcases List.mem_append.mp hp with hp | hp
      · exact h p hp
      · simp at hp
        subst hp
        exact new
theorem last_mem {α : Type} {l : List α} {z : α} (h : l.getLast? = some z) : z ∈ l := by
  rcases last_cases l with rfl | ⟨a, q, rfl⟩
  · simp at h
  · rw [List.getLast?_concat] at h
    cases h
    simp
theorem insU_len {x : Int} : ∀ {ys : List Int}, (insU x ys).length ≤ ys.length + 1
  | [] => by simp [insU]
  | y :: ys => by
    have := insU_len (x := x) (ys := ys)
    unfold insU
    split
    · simp
    · split
      · simp
      · simp; omega
theorem sset_len : ∀ {xs : List Int}, (sset xs).length ≤ xs.length
  | [] => by simp [sset]
  | x :: xs => by
    have := insU_len (x := x) (ys := sset xs)
    have := sset_len (xs := xs)
    simp only [sset, List.length_cons]
    omega
theorem buffer_pieces_run {xs : List Int} (h : Sizes xs) (big : xs.sum < 2 ^ 4000) : ∃ ps acc, Bp xs ps ∧ b_buffer_pieces [some (li xs), none, none, none, none, none, none, none, none, none] [] = .rt (.ref 1) [.lst acc, .lst (ps.map encP)] := by
  have gr := great_gr h big
  obtain ⟨found, w1, w2, w5, w3⟩ := wc_eq (S := []) gr
  have fb : ∀ x ∈ found, 0 ≤ x ∧ x ≤ xs.sum := fun x hx => ⟨w2.pos x hx, Int.le_trans (w3 x hx) (great_top h)⟩
  have few : (sset found).length ≤ 3000 := Nat.le_trans sset_len w5
  cases hs : sset found with
  | nil =>
    have := (sset_mem (z := 0)).mpr w2.zero
    rw [hs] at this
    cases this
  | cons c r =>
  obtain ⟨z, e1, e2, e3⟩ := pieces_of gr.ne w2 hs
  subst e2
  have cb : ∀ x ∈ (0 : Int) :: r, 0 ≤ x ∧ x ≤ xs.sum := fun x hx => fb x (sset_mem.mp (by rw [hs]; exact hx))
  have s0 : 0 ≤ xs.sum := (cb 0 List.mem_cons_self).2
  have pw := sset_lt found
  rw [hs] at pw few
  simp only [List.length_cons] at few
  refine ⟨_, ((pcs (buf (greatest xs)) 0 r []).map encP), ⟨e3, by have := endP_len (F := buf (greatest xs)) (acc := pcs (buf (greatest xs)) 0 r []) (c := z); have := pcs_len (F := buf (greatest xs)) (r := r) (c := 0) (acc := []); simp at this; omega, ?_⟩, ?_⟩
  · exact endP_in (pcs_in (by simp) (by omega) s0 fun x hx => cb x (List.mem_cons_of_mem _ hx)) (cb z (last_mem e1)).1 (cb z (last_mem e1)).2
  · have comp : sComp false (iSeq (sVar 2)) (.nm 7) [7] (fun _ => ret true) (s1 (sCons (sVar 1) (sCons (sVar 7) sNil)) sem_buffer_for) [some (li xs), some (li (greatest xs)), some (li (0 :: r)), none, none, none, none, none, none, none] [] = .ok (li ((0 :: r).map (buf (greatest xs)))) [] := by
      rw [sComp_of (items := ((0 : Int) :: r).map D.int) (S1 := []) (S2 := []) (ys := ((0 : Int) :: r).map fun x => D.int (buf (greatest xs) x)) (by simp) (by simp; rw [sizeL]; omega) ?_]
      · simp [li]
      · refine compL_mapOf (c := D.int) fun x hx => ⟨_, rfl, rfl, ?_⟩
        obtain ⟨x0, x1⟩ := cb x hx
        have := buffer_for_eq (g := greatest xs) (r := x) (S := []) gr.ne gr.few x0 (by omega)
        simp [this]
    have loop := forL_run (t := .nm 5) (kill := [5, 6, 8, 9]) (body := bpBody) (items := rangeD 1 r.length) (env := [some (li xs), some (li (greatest xs)), some (li (0 :: r)), some (li ((0 :: r).map (buf (greatest xs)))), some (.ref 0), none, none, none, none, none]) (S := [.lst []])
      (fun _ => [some (li xs), some (li (greatest xs)), some (li (0 :: r)), some (li ((0 :: r).map (buf (greatest xs)))), some (.ref 0), none, none, none, none, none]) (fun i => [.lst ((pcs (buf (greatest xs)) 0 (r.take i) []).map encP)]) (by simp) (by simp [pcs]) fun i d hi => by
        obtain ⟨rfl, hlt⟩ := rangeD_get hi
        refine ⟨_, rfl, ?_⟩
        have c1 : ((0 : Int) :: r)[i + 1]? = some r[i] := by rw [List.getElem?_cons_succ]; exact List.getElem?_eq_getElem hlt
        obtain ⟨c, hc⟩ : ∃ c, ((0 : Int) :: r)[i]? = some c := ⟨_, List.getElem?_eq_getElem (by simp; omega)⟩
        have lt : c < r[i] := by
          have := List.pairwise_iff_getElem.mp pw i (i + 1) (by simp; omega) (by simp; omega) (by omega)
          rw [List.getElem?_eq_getElem (by simp; omega)] at hc
          cases hc
          simpa using this
        have b1 := cb r[i] (List.mem_cons_of_mem _ (List.getElem_mem hlt))
        have b2 := cb c (List.mem_of_getElem? hc)
        have lst : ((0 : Int) :: r.take i).getLast? = some c := by
          have hl : ((0 : Int) :: r.take i) = ((0 : Int) :: r).take (i + 1) := rfl
          rw [hl, List.getLast?_take]
          simp [hc]
        obtain ⟨e', k1, k2⟩ := bp_body (cs := 0 :: r) (F := buf (greatest xs)) (i := i) (acc := pcs (buf (greatest xs)) 0 (r.take i) []) (w1 := some (li xs)) (w2 := some (li (greatest xs))) (z := none) hc c1 lt (by omega) (by
          have := pcs_len (F := buf (greatest xs)) (r := r.take i) (c := 0) (acc := [])
          simp at this
          omega)
        refine ⟨e', ?_, k2⟩
        rw [show (1 : Int) + (i : Int) = ((i + 1 : Nat) : Int) by omega]
        simp only [List.set_cons_succ, List.set_cons_zero]
        rw [k1, List.take_add_one, List.getElem?_eq_getElem hlt, Option.toList_some, pcs_snoc lst]
    have fin := bp_end (cs := 0 :: r) (F := buf (greatest xs)) (z := z) e1 (acc := pcs (buf (greatest xs)) 0 r []) (by
      have := pcs_len (F := buf (greatest xs)) (r := r) (c := 0) (acc := [])
      simp at this
      omega) (w1 := some (li xs)) (w2 := some (li (greatest xs))) (w3 := none)
    rw [hs] at w1
    rw [rangeD_len, List.take_length] at loop
    simp only [b_buffer_pieces, sSeq_ap, sExpr_ap, s1_ap, sCons_ap, sVar_ap, sNil_ap, List.getElem?_cons_zero, vr_some, rb_ok, need_needs_ok h, eB_ok, rs_nx, sAsg_nm, greatest_sums_eq h, List.set_cons_succ, List.set_cons_zero, List.getElem?_cons_succ, w1, comp, sFor_ap, sC_ap, bk_len, dLen_lst, dRange2_int]
    rw [newLs_ap (by simp)]
    simp only [newL_t, eB_ok, rs_nx, List.set_cons_succ, List.set_cons_zero, List.nil_append, List.length_nil, sSeq_ap, sFor_ap, s1_ap, sCons_ap, sC_ap, rb_ok, sVar_ap, List.getElem?_cons_zero, List.getElem?_cons_succ, vr_some, sNil_ap, bk_len, dLen_lst, dRange2_int]
    rw [if_pos (by rw [okR_of (by omega) (by omega), okR_of (by simp; omega) (by simp; omega)]; rfl)]
    simp only [eB_ok]
    rw [show ((((0 : Int) :: r).map D.int).length : Int) - 1 = (r.length : Int) by simp]
    rw [Int.toNat_natCast]
    have l2 := loop
    simp only [bpBody] at l2
    rw [l2]
    simp only [rs_nx]
    have f2 := fin
    simp only [bpEnd, sSeq_ap] at f2
    exact f2
end Pg

set_option Elab.async false
set_option linter.all false
set_option maxRecDepth 100000
set_option maxHeartbeats 2000000
/-! PgL: k51: the pieces as they are handed out, their shape, what they tell at a rate. -/
namespace Pg
open PySem L2 Ev

abbrev eP (ps : List Pc) : D := .lst (ps.map encP)
theorem bp_sem {xs : List Int} {ps : List Pc} {acc : List D} (run : b_buffer_pieces [some (li xs), none, none, none, none, none, none, none, none, none] [] = .rt (.ref 1) [.lst acc, .lst (ps.map encP)]) {S : Store} : sem_buffer_pieces [li xs] S = .ok (eP ps) S :=
  io_pure (d := .ref 1) (by simp) rfl run (fz_ref rfl encPs_nr)
theorem bp_semM {xs : List Int} {ps : List Pc} {acc : List D} (run : b_buffer_pieces [some (li xs), none, none, none, none, none, none, none, none, none] [] = .rt (.ref 1) [.lst acc, .lst (ps.map encP)]) {S : Store} : semM_buffer_pieces [li xs] S = .ok (.ref S.length) (S ++ [.lst (ps.map encP)]) :=
  io_new (j := 1) (by simp) rfl run rfl encPs_nr
/-! ### what the pieces tell -/
def inP (p : Int) (q : Pc) : Bool := decide (q.low ≤ p) && (match q.high with
  | none => true
  | some h => decide (p ≤ h))
def byP (ps : List Pc) (p : Int) : List Int := (ps.filter (inP p)).map fun q => q.value - q.fall * (p - q.low)
/-- numbers that may be multiplied -/
def Fit (ps : List Pc) (p : Int) : Prop := ∀ q ∈ ps, inP p q = true → q.fall.natAbs.log2 + (p - q.low).natAbs.log2 < 1000000
abbrev lbpBody : MS := (sIfS (sAnd (sTest (s2 (sVar 3) (sVar 1) (cmpSem .LtE))) (sOr (sTest (s2 (sVar 4) (sC .non) (dIsN false))) (sTest (s2 (sVar 1) (sVar 4) (cmpSem .LtE)))))
        (sExpr (sBM (MK.chk .append) (sVar 2) (sCons (s2 (sVar 5) (s2 (sVar 6) (s2 (sVar 1) (sVar 3) dSub) (dMul false)) dSub) sNil) (MK.sem false .append)))
        (sPass))
theorem lbp_loop {p : Int} : ∀ (ps : List Pc) (acc : List Int) (w z1 z2 z3 z4 : Option D), Fit ps p → acc.length + ps.length ≤ 100000 →
    forL (.tp [3, 4, 5, 6]) [3, 4, 5, 6] lbpBody (ps.map encP) [w, some (.int p), some (.ref 0), z1, z2, z3, z4] [.lst (acc.map D.int)] = .nx [w, some (.int p), some (.ref 0), none, none, none, none] [.lst ((acc ++ byP ps p).map D.int)]
  | [], acc, w, z1, z2, z3, z4, _, _ => by simp [forL, byP]
  | q :: ps, acc, w, z1, z2, z3, z4, fit, few => by
    simp only [List.length_cons] at few
    have fit2 : Fit ps p := fun r hr => fit r (List.mem_cons_of_mem _ hr)
    rw [List.map_cons]
    unfold forL
    have hb : (Tg.tp [3, 4, 5, 6]).bind (encP q) (wipeD [w, some (.int p), some (.ref 0), z1, z2, z3, z4] [3, 4, 5, 6]) [.lst (acc.map D.int)] = .ok [w, some (.int p), some (.ref 0), some (.int q.low), some (hiD q.high), some (.int q.value), some (.int q.fall)] [.lst (acc.map D.int)] := by
      unfold encP
      simp
    rw [hb]
    simp only [eB_ok]
    cases hin : inP p q with
    | true =>
      have m := fit q List.mem_cons_self hin
      have body : lbpBody [w, some (.int p), some (.ref 0), some (.int q.low), some (hiD q.high), some (.int q.value), some (.int q.fall)] [.lst (acc.map D.int)] =
          .nx [w, some (.int p), some (.ref 0), some (.int q.low), some (hiD q.high), some (.int q.value), some (.int q.fall)] [.lst ((acc ++ [q.value - q.fall * (p - q.low)]).map D.int)] := by
        unfold inP at hin
        simp only [Bool.and_eq_true, decide_eq_true_eq] at hin
        cases hh : q.high with
        | none =>
          simp [lbpBody, hin.1, hiD, dMul_int m]
          rw [apc_ok (by simp; rw [sizeL]; omega)]
          simp
        | some h =>
          rw [hh] at hin
          simp only [decide_eq_true_eq] at hin
          simp [lbpBody, hin.1, hin.2, hiD, dMul_int m]
          rw [apc_ok (by simp; rw [sizeL]; omega)]
          simp
      rw [body]
      dsimp only
      rw [lbp_loop ps (acc ++ [q.value - q.fall * (p - q.low)]) w _ _ _ _ fit2 (by simp; omega)]
      simp [byP, hin]
    | false =>
      have body : lbpBody [w, some (.int p), some (.ref 0), some (.int q.low), some (hiD q.high), some (.int q.value), some (.int q.fall)] [.lst (acc.map D.int)] =
          .nx [w, some (.int p), some (.ref 0), some (.int q.low), some (hiD q.high), some (.int q.value), some (.int q.fall)] [.lst (acc.map D.int)] := by
        unfold inP at hin
        by_cases c : q.low ≤ p
        · cases hh : q.high with
          | none => rw [hh] at hin; simp [c] at hin
          | some h =>
            rw [hh] at hin
            simp [c] at hin
            simp [lbpBody, c, hiD, Int.not_le.mpr hin]
        · simp [lbpBody, c]
      rw [body]
      dsimp only
      rw [lbp_loop ps acc w _ _ _ _ fit2 (by omega)]
      simp [byP, hin]
theorem lbp_run {ps : List Pc} {p : Int} (fit : Fit ps p) (few : ps.length ≤ 100000) : b_law_by_pieces [some (eP ps), some (.int p), none, none, none, none, none] [] = .rt (.ref 0) [.lst ((byP ps p).map D.int)] := by
  have := lbp_loop ps [] (some (eP ps)) none none none none fit (by simpa using few)
  simp [lbpBody] at this
  simp [b_law_by_pieces, newLs_ap, sizeL, this]
theorem lbp_sem {ps : List Pc} {p : Int} (fit : Fit ps p) (few : ps.length ≤ 100000) {S : Store} : sem_law_by_pieces [eP ps, .int p] S = .ok (li (byP ps p)) S :=
  io_pure (d := .ref 0) (by simp [encPs_nr]) rfl (lbp_run fit few) (fz_ref rfl (by simp))
theorem lbp_semM {ps : List Pc} {p : Int} (fit : Fit ps p) (few : ps.length ≤ 100000) {S : Store} : semM_law_by_pieces [eP ps, .int p] S = .ok (.ref S.length) (S ++ [.lst ((byP ps p).map D.int)]) :=
  io_new (j := 0) (by simp [encPs_nr]) rfl (lbp_run fit few) rfl (by simp)
/-! the mathematics of it -/
theorem chnE_ne {F : Int → Int} {s : Int} {ps : List Pc} (h : ChnE F s ps) : ps ≠ [] := fun e => by rw [e] at h; exact h
theorem chnE_all {F : Int → Int} : ∀ {ps : List Pc} {s : Int}, ChnE F s ps → ∀ q ∈ ps, s ≤ q.low ∧ q.value = F q.low ∧ ((∃ h, Seg F q q.low h) ∨ (q.high = none ∧ q.fall = 0 ∧ ∀ x, q.low ≤ x → F x = F q.low))
  | [], s, h, q, hq => by cases hq
  | [p], s, ⟨h1, h2, h3, h4, h5⟩, q, hq => by
    simp at hq
    subst hq
    exact ⟨by omega, by rw [h1]; exact h3, .inr ⟨h2, h4, by rw [h1]; exact h5⟩⟩
  | p :: p2 :: r, s, ⟨h, a, b⟩, q, hq => by
    rcases List.mem_cons.mp hq with rfl | hq
    · obtain ⟨a1, a2, a3, a4, a5⟩ := a
      subst a1
      exact ⟨Int.le_refl _, a4, .inl ⟨h, rfl, a2, a3, a4, a5⟩⟩
    · obtain ⟨c1, c2⟩ := chnE_all b q hq
      have := a.2.2.1
      exact ⟨by omega, c2⟩
theorem byP_all {F : Int → Int} {ps : List Pc} {s : Int} (h : ChnE F s ps) {p : Int} : ∀ x ∈ byP ps p, x = F p := by
  intro x hx
  unfold byP at hx
  obtain ⟨q, hq, rfl⟩ := List.mem_map.mp hx
  obtain ⟨q1, q2⟩ := List.mem_filter.mp hq
  obtain ⟨a, b, c⟩ := chnE_all h q q1
  unfold inP at q2
  simp only [Bool.and_eq_true, decide_eq_true_eq] at q2
  rcases c with ⟨e, c1, c2, c3, c4, c5⟩ | ⟨c1, c2, c3⟩
  · rw [c2] at q2
    simp only [decide_eq_true_eq] at q2
    rw [b, c5 p q2.1 q2.2]
  · rw [c2, b, Int.zero_mul, Int.sub_zero]
    exact (c3 p q2.1).symm
theorem byP_some {F : Int → Int} : ∀ {ps : List Pc} {s p : Int}, ChnE F s ps → s ≤ p → ∃ q ∈ ps, inP p q = true
  | [], s, p, h, _ => h.elim
  | [q], s, p, ⟨h1, h2, _⟩, hp => ⟨q, by simp, by unfold inP; rw [h2]; simp; omega⟩
  | q :: q2 :: r, s, p, ⟨h, a, b⟩, hp => by
    by_cases c : p ≤ h
    · refine ⟨q, by simp, ?_⟩
      unfold inP
      rw [a.2.1, a.1]
      simp [c, hp]
    · obtain ⟨z, z1, z2⟩ := byP_some b (p := p) (by omega)
      exact ⟨z, List.mem_cons_of_mem _ z1, z2⟩
theorem byP_ne {F : Int → Int} {ps : List Pc} {s p : Int} (h : ChnE F s ps) (hp : s ≤ p) : byP ps p ≠ [] := by
  obtain ⟨q, h1, h2⟩ := byP_some h hp
  intro e
  have : q.value - q.fall * (p - q.low) ∈ byP ps p := List.mem_map.mpr ⟨q, List.mem_filter.mpr ⟨h1, h2⟩, rfl⟩
  rw [e] at this
  cases this
/-! ### needs -/
theorem law_needs_eq {b : Bag} {m : Int} {S : Store} {k : Nat} {most far : Int} (hk : S[k]? = some b.cell) (ok : b.Ok m) (h1 : 1 ≤ most) (h2 : most ≤ 200) (f1 : 5 ≤ far) (f2 : far < 2 ^ 2000) (hm : m + 1000000 ≤ Most) :
    ∃ (b' : Bag) (xs : List Int), sem_law_needs [.ref k, .int most, .int far] S = .ok (li xs) (S.set k b'.cell) ∧ b'.Ok (m + 1000000) ∧ xs ≠ [] ∧ xs.length ≤ 200 ∧ ∀ x ∈ xs, 0 ≤ x ∧ x < far := by
  obtain ⟨b1, n, d1, d2, d3, d4⟩ := draw_eq (S := [b.cell]) (k := 0) rfl ok (by unfold Most at *; omega) (w := most) ⟨by omega, by omega⟩
  obtain ⟨t, ht⟩ : ∃ t : Nat, 1 + n = (t : Int) := ⟨(1 + n).toNat, by omega⟩
  have e0 : rangeD 0 t = (List.range t).map fun (i : Nat) => D.int (0 + (i : Int)) := rfl
  have comp := compL_gen (t := .nm 3) (test := fun _ => ret true) (elt := s1 (sCons (sVar 0) (sCons (s2 (s1 (sCons (sC (.int 2)) (sCons (sVar 2) (sCons (s2 (sC (.int 1)) (s2 (sVar 2) (sC (.int 5)) dDiv) (dAdd false)) sNil))) (newLs false)) (s1 (sCons (sVar 0) (sCons (sC (.int 3)) sNil)) Pg.sem_law_draw) dIx) sNil)) Pg.sem_law_draw)
    (env := wipeD [some (.ref 0), some (.int most), some (.int far), none] [3]) (fun _ y => ∃ x : Int, y = .int x ∧ 0 ≤ x ∧ x < far) (items := rangeD 0 t) (S := [b1.cell]) (fun i S => ∃ b2 : Bag, S = [b2.cell] ∧ b2.Ok (m + 100 + 200 * (i : Int))) ⟨b1, rfl, d2.mono (by simp)⟩ fun i d S hi ⟨b2, hS, o⟩ => by
      obtain ⟨rfl, hlt⟩ := rangeD_get hi
      subst hS
      refine ⟨_, rfl, rfl, ?_⟩
      obtain ⟨b3, r, e1, e2, e3, e4⟩ := draw_eq (S := [b2.cell]) (k := 0) rfl o (by unfold Most at *; omega) (w := 3) ⟨by omega, by omega⟩
      have hw : ∃ w : Int, [D.int 2, .int far, .int (1 + far / 5)][r.toNat]? = some (.int w) ∧ 0 < w ∧ w ≤ far := by
        rcases (by omega : r = 0 ∨ r = 1 ∨ r = 2) with rfl | rfl | rfl
        · exact ⟨2, rfl, by omega, by omega⟩
        · exact ⟨far, rfl, by omega, by omega⟩
        · exact ⟨1 + far / 5, rfl, by omega, by omega⟩
      obtain ⟨w, w1, w2, w3⟩ := hw
      obtain ⟨b4, x, g1, g2, g3, g4⟩ := draw_eq (S := [b3.cell]) (k := 0) rfl e2 (by unfold Most at *; omega) (w := w) ⟨w2, by omega⟩
      refine ⟨.int x, [b4.cell], ?_, ⟨x, rfl, g3, by omega⟩, b4, rfl, g2.mono (by simp; omega)⟩
      have at1 : L2.atI [D.int 2, .int far, .int (1 + far / 5)] r = some (.int w) := by
        rw [show r = ((r.toNat : Nat) : Int) by omega, atI_n]
        exact w1
      have dv : ∀ S, dDiv (.int far) (.int 5) S = .ok (.int (far / 5)) S := fun S => dDiv_int (by decide) (by decide)
      simp only [Bag.cell, Bag.items] at e1 g1 ⊢
      simp [newLs_ap, sizeL, dv, e1, at1, g1]
  obtain ⟨ys, S', c1, c2, c3, b5, c4, c5⟩ := comp
  obtain ⟨xs, hx, hx2⟩ : ∃ xs : List Int, ys = xs.map D.int ∧ ∀ x ∈ xs, 0 ≤ x ∧ x < far := by
    clear c1 c2
    induction ys with
    | nil => exact ⟨[], rfl, fun x hx => by cases hx⟩
    | cons y ys ih =>
      obtain ⟨xs, e, q⟩ := ih fun i y h => c3 (i + 1) y (by simpa using h)
      obtain ⟨x, e2, q2, q3⟩ := c3 0 y rfl
      refine ⟨x :: xs, by rw [e2, e]; rfl, fun z hz => ?_⟩
      rcases List.mem_cons.mp hz with rfl | hz
      · exact ⟨q2, q3⟩
      · exact q z hz
  rw [rangeD_len] at c2
  have lx : xs.length = t := by rw [← c2, hx]; simp
  refine ⟨b5, xs, io_cell hk (by simp) (by simp) rfl (d := li xs) (S' := [b5.cell]) (S'' := [b5.cell]) ?_ (fz_nr (by simp)) rfl (by simp), c5.mono (by rw [rangeD_len]; omega), fun e => ?_, by omega, hx2⟩
  · subst c4
    have sc := sComp_of (mu := false) (it := s1 (sCons (s2 (sC (.int 1)) (s1 (sCons (sVar 0) (sCons (sVar 1) sNil)) Pg.sem_law_draw) (dAdd false)) sNil) dRange1) (own := [3]) (env := [some (.ref 0), some (.int most), some (.int far), none]) (S := [b.cell]) (items := rangeD 0 t) (S1 := [b1.cell]) (by
      simp only [Bag.cell, Bag.items] at d1 ⊢
      simp [d1, ht, okR_of (i := (t : Int)) (by omega) (by omega)]) (by rw [rangeD_len, sizeL]; omega) c1
    rw [hx, newL_f] at sc
    simp only [b_law_needs, sRet_ap]
    rw [show ((D.ref 0 :: [D.int most, D.int far]).map some ++ List.replicate (4 - 3) none) = [some (.ref 0), some (.int most), some (.int far), none] from rfl]
    rw [sc]
    rfl
  · rw [e] at lx
    simp at lx
    omega
end Pg

set_option Elab.async false
set_option linter.all false
set_option maxRecDepth 100000
set_option maxHeartbeats 2000000
/-! PgM: k51: the shape of pieces. -/
namespace Pg
open PySem L2 Ev

theorem buf_0 {xs : List Int} (h : Sizes xs) {p : Int} : 0 ≤ buf (greatest xs) p := by
  have l := h.len
  have := buf_ge (r := p) (greatest_get (xs := xs) (i := 0) (by omega))
  have := gsum_0 h.pos (m := 0 + 1) (by omega)
  simp at *
  omega
theorem buf_sum {xs : List Int} (h : Sizes xs) {p : Int} (p0 : 0 ≤ p) : buf (greatest xs) p ≤ xs.sum := by
  have ne : greatest xs ≠ [] := fun e => by
    have := congrArg List.length e
    rw [greatest_len] at this
    exact h.ne (List.eq_nil_of_length_eq_zero this)
  obtain ⟨i, v, e1, e2⟩ := buf_at (r := p) ne
  have hi := (List.getElem?_eq_some_iff.mp e1).1
  rw [greatest_len] at hi
  rw [greatest_get hi] at e1
  cases e1
  have := gsum_le h.pos (m := i + 1) (by omega)
  have := Int.mul_nonneg p0 (show (0 : Int) ≤ (i : Int) by omega)
  omega
theorem great_ne {xs : List Int} (h : Sizes xs) : greatest xs ≠ [] := fun e => by
  have := congrArg List.length e
  rw [greatest_len] at this
  exact h.ne (List.eq_nil_of_length_eq_zero this)
theorem fall_in {xs : List Int} {ps : List Pc} (h : Sizes xs) (b : Bp xs ps) : ∀ q ∈ ps, 0 ≤ q.fall ∧ q.fall ≤ xs.sum := by
  intro q hq
  have hl := b.lows q hq
  have s0 : 0 ≤ xs.sum := by omega
  obtain ⟨a, v, c⟩ := chnE_all b.ok.chn q hq
  rcases c with ⟨e, c1, c2, c3, c4, c5⟩ | ⟨c1, c2, c3⟩
  · have k := c5 (q.low + 1) (by omega) (by omega)
    rw [show q.low + 1 - q.low = 1 by omega, Int.mul_one] at k
    have := buf_0 h (p := q.low + 1)
    have := buf_sum h (p := q.low) (by omega)
    have := buf_down (p := q.low) (great_ne h)
    omega
  · omega
theorem fit_of {xs : List Int} {ps : List Pc} (h : Sizes xs) (big : xs.sum < 2 ^ 4000) (b : Bp xs ps) {p : Int} (p0 : 0 ≤ p) (p1 : p < 2 ^ 4100) : Fit ps p := by
  intro q hq hin
  obtain ⟨f0, f1⟩ := fall_in h b q hq
  obtain ⟨l0, l1, _⟩ := b.lows q hq
  unfold inP at hin
  simp only [Bool.and_eq_true, decide_eq_true_eq] at hin
  have a1 := lg_int (i := q.fall) (k := 4000) f0 (by omega)
  have a2 := lg_int (i := p - q.low) (k := 4100) (by omega) (by omega)
  omega
/-- how a row of pieces looks -/
theorem chnE_shape {F : Int → Int} : ∀ {ps : List Pc} {s : Int}, ChnE F s ps → ∃ (a : List Pc) (q : Pc) (hs : List Int), ps = a ++ [q] ∧ q.high = none ∧ q.fall = 0 ∧ a.map (·.high) = hs.map some ∧ ps.map (·.low) = s :: hs ∧ ∀ p ∈ a, ∃ h, p.high = some h ∧ p.low < h
  | [], s, h => h.elim
  | [p], s, ⟨h1, h2, h3, h4, h5⟩ => ⟨[], p, [], rfl, h2, h4, rfl, by simp [h1], by simp⟩
  | p :: p2 :: r, s, ⟨h, ⟨a1, a2, a3, a4, a5⟩, b⟩ => by
    obtain ⟨a, q, hs, e1, e2, e3, e4, e5, e6⟩ := chnE_shape b
    refine ⟨p :: a, q, h :: hs, by rw [e1]; rfl, e2, e3, by rw [List.map_cons, List.map_cons, e4, a2], by rw [List.map_cons, e5, a1], fun z hz => ?_⟩
    rcases List.mem_cons.mp hz with rfl | hz
    · exact ⟨h, a2, by omega⟩
    · exact e6 z hz
theorem cut_1 {x : D} {xs : List D} : Ev.cutD (x :: xs) (some 1) none = xs := by
  unfold Ev.cutD
  have h1 : HT.sIx (x :: xs).length 0 (some 1) = 1 := by
    show (if (1 : Int) < 0 then ((1 : Int) + ((x :: xs).length : Int)).toNat else min (1 : Int).toNat (x :: xs).length) = 1
    rw [if_neg (by decide)]
    simp
  have h2 : HT.sIx (x :: xs).length (x :: xs).length none = (x :: xs).length := rfl
  rw [h1, h2]
  simp
@[simp] theorem dSortSet_li {xs : List Int} {mu : Bool} {S : Store} : dSortSet mu (.lst (xs.map D.int)) S = if xs.length < 4000 then newL mu ((sset xs).map D.int) S else .stuck := by
  unfold dSortSet
  simp
@[simp] theorem dRev_lst {xs : List D} {mu : Bool} {S : Store} : dRev mu (.lst xs) S = newL mu xs.reverse S := (rfl)
theorem dec_sset {xs : List Int} (h : xs.Pairwise (· > ·)) : (sset xs).reverse = xs := by
  have : sset xs = xs.reverse := lt_unique (sset_lt xs) (by rw [List.pairwise_reverse]; exact h) fun z => by rw [sset_mem, List.mem_reverse]
  rw [this, List.reverse_reverse]
theorem filt_f {α : Type} {xs : List α} : xs.filter (fun _ => false) = [] := by
  induction xs with
  | nil => rfl
  | cons x xs ih => simpa using ih
theorem comp_pick {c : Pc → D} {f : Pc → D} {it : Envd → M (List D)} {elt : Envd → M D} {ps : List Pc} {env : Envd} (hit : it env [] = .ok (ps.map encP) []) (few : ps.length ≤ 100000) (he : ∀ p ∈ ps, elt ((wipeD env [3]).set 3 (some (encP p))) [] = .ok (f p) []) :
    sComp false it (.nm 3) [3] (fun _ => ret true) elt env [] = .ok (.lst (ps.map f)) [] := by
  rw [sComp_of (items := ps.map encP) (S1 := []) (S2 := []) (ys := ps.map f) hit (by rw [sizeL]; simp; omega) (compL_mapOf fun p hp => ⟨_, rfl, rfl, he p hp⟩)]
  rfl
theorem shape_right_eq {F : Int → Int} {ps : List Pc} {S : Store} (b : Pieces F ps) (few : ps.length < 4000) : sem_law_shape_right [eP ps] S = .ok (.bl true) S := by
  refine io_pure (d := .bl true) (S' := []) (S'' := []) (by simp [encPs_nr]) rfl ?_ rfl
  obtain ⟨a, q, hs, e1, e2, e3, e4, e5, e6⟩ := chnE_shape b.chn
  have lena : a.length < 4000 := by rw [e1] at few; simp at few; omega
  -- ends
  have c1 : sComp false (iSeq (sVar 0)) (.nm 3) [3] (fun _ => ret true) (s2 (sVar 3) (sC (.int 1)) dIx) [some (eP ps), none, none, none] [] = .ok (.lst (hs.map D.int ++ [.non])) [] := by
    rw [comp_pick (c := encP) (f := fun p => hiD p.high) (ps := ps) (by simp) (by omega) (fun p hp => by simp [encP])]
    congr 2
    rw [e1, List.map_append, List.map_singleton, e2]
    have : a.map (fun p => hiD p.high) = (a.map (·.high)).map hiD := by rw [List.map_map]; rfl
    rw [this, e4, List.map_map]
    rfl
  have hps : ∃ p0 rest, ps = p0 :: rest ∧ p0.low = 0 ∧ rest.map (·.low) = hs := by
    cases hp : ps with
    | nil => rw [hp] at e5; cases e5
    | cons p0 rest =>
      rw [hp, List.map_cons] at e5
      injection e5 with z1 z2
      exact ⟨p0, rest, rfl, z1, z2⟩
  obtain ⟨p0, rest, ep, p00, hrest⟩ := hps
  have lenr : rest.length < 4000 := by rw [ep] at few; simp at few; omega
  have c2 : ∀ w : Option D, sComp false (iSeq (sSl false (sVar 0) (sPart (some (sC (.int 1)))) (sPart none))) (.nm 3) [3] (fun _ => ret true) (s2 (sVar 3) (sC (.int 0)) dIx) [some (eP ps), w, none, none] [] = .ok (.lst (hs.map D.int)) [] := fun w => by
    rw [comp_pick (c := encP) (f := fun p => .int p.low) (ps := rest) (by simp [ep, cut_1]) (by omega) (fun p hp => by simp [encP])]
    rw [← hrest, List.map_map]
    rfl
  have c3 : Ev.cutD (hs.map D.int ++ [D.non]) none (some (-1)) = hs.map D.int := cut_m1
  have c4 : L2.atI (hs.map D.int ++ [D.non]) (-1) = some .non := L2.atI_last _ _
  have c5 : L2.atI (ps.map encP) (-1) = some (encP q) := by rw [e1, List.map_append]; exact L2.atI_last _ _
  have c6 : (ps.map encP)[0]? = some (encP p0) := by rw [ep]; rfl
  have c7 : ∀ w : Option D, sComp false (iSeq (sVar 0)) (.nm 3) [3] (fun _ => ret true) (s2 (sVar 3) (sC (.int 3)) dIx) [some (eP ps), w, none, none] [] = .ok (li (ps.map (·.fall))) [] := fun w => by
    rw [comp_pick (c := encP) (f := fun p => .int p.fall) (ps := ps) (by simp) (by omega) (fun p hp => by simp [encP])]
    simp [li]
  have c8 : (sset (ps.map (·.fall))).reverse = ps.map (·.fall) := dec_sset b.dec
  have c9 : ∀ w1 w2 : Option D, sComp false (iSeq (sSl false (sVar 0) (sPart none) (sPart (some (s1 (sC (.int 1)) dNeg))))) (.nm 3) [3] (sTest (s2 (s2 (sVar 3) (sC (.int 0)) dIx) (s2 (sVar 3) (sC (.int 1)) dIx) (cmpSem .GtE))) (sVar 3) [some (eP ps), w1, w2, none] [] = .ok (.lst []) [] := fun w1 w2 => by
    rw [sComp_of (items := a.map encP) (S1 := []) (S2 := []) (ys := []) (by simp [e1, cut_m1]) (by rw [sizeL]; simp; omega) ?_]
    · rfl
    · have := compL_filtOf (t := .nm 3) (test := sTest (s2 (s2 (sVar 3) (sC (.int 0)) dIx) (s2 (sVar 3) (sC (.int 1)) dIx) (cmpSem .GtE))) (elt := sVar 3) (env := wipeD [some (eP ps), w1, w2, none] [3]) (S := []) (c := encP) (f := encP) (p := fun _ => false) (xs := a) fun p hp => by
        obtain ⟨h, k1, k2⟩ := e6 p hp
        refine ⟨_, rfl, ?_, fun z => by cases z⟩
        simp [encP, k1, hiD, Int.not_le.mpr k2]
      rw [filt_f] at this
      exact this
  have c10 : ∀ w1 w2 : Option D, sComp false (iSeq (sVar 0)) (.nm 3) [3] (sOr (sNot (sTest (s1 (sVar 3) (dIsi [.tuple])))) (sTest (s2 (s1 (sCons (sVar 3) sNil) dLen) (sC (.int 4)) (dEq true)))) (sVar 3) [some (eP ps), w1, w2, none] [] = .ok (.lst []) [] := fun w1 w2 => by
    rw [sComp_of (items := ps.map encP) (S1 := []) (S2 := []) (ys := []) (by simp) (by rw [sizeL]; simp; omega) ?_]
    · rfl
    · have := compL_filtOf (t := .nm 3) (test := sOr (sNot (sTest (s1 (sVar 3) (dIsi [.tuple])))) (sTest (s2 (s1 (sCons (sVar 3) sNil) dLen) (sC (.int 4)) (dEq true)))) (elt := sVar 3) (env := wipeD [some (eP ps), w1, w2, none] [3]) (S := []) (c := encP) (f := encP) (p := fun _ => false) (xs := ps) fun p hp => by
        refine ⟨_, rfl, ?_, fun z => by cases z⟩
        simp [encP, TK.name, isB]
      rw [filt_f] at this
      exact this
  have n0 : dEq true (.lst []) (.lst []) [] = .ok (.bl false) [] := dEq_ints (xs := []) (ys := []) (neg := true)
  have n1 : dEq false (.lst []) (.lst []) [] = .ok (.bl true) [] := dEq_ints (xs := []) (ys := []) (neg := false)
  have few' : (ps.map (·.fall)).length < 4000 := by simpa using few
  have plh : plD 1 (.lst (hs.map D.int)) = true := plD_ints
  have eqh : dEq true (.lst (hs.map D.int)) (.lst (hs.map D.int)) [] = .ok (.bl false) [] := by rw [dEq_ints]; simp
  have eqf : dEq true (li (ps.map (·.fall))) (.lst ((sset (ps.map (·.fall))).map D.int).reverse) [] = .ok (.bl false) [] := by
    rw [← List.map_reverse, c8, dEq_ints]; simp
  simp only [b_law_shape_right, sSeq_ap, sAsg_nm]
  rw [show ([eP ps].map some ++ List.replicate (4 - 1) none) = [some (eP ps), none, none, none] from rfl]
  rw [c1]
  simp [-List.map_map, c2, c3, c4, c5, c6, c7, c9, c10, n0, n1, eqh, encP, p00, e3, newLs_ap, sizeL]
  rw [if_pos few]
  simp [-List.map_map, eqf, c9, c10, n0, n1, newLs_ap, sizeL]
end Pg

set_option Elab.async false
set_option linter.all false
set_option maxRecDepth 100000
set_option maxHeartbeats 4000000
/-! PgN: k51: small sizes, great sizes, the law. -/
namespace Pg
open PySem L2 Ev

theorem sum_le {far : Int} : ∀ {xs : List Int}, (∀ x ∈ xs, 0 ≤ x ∧ x < far) → 0 ≤ xs.sum ∧ xs.sum ≤ xs.length * far
  | [], _ => by simp
  | x :: xs, h => by
    obtain ⟨h1, h2⟩ := sum_le fun y hy => h y (List.mem_cons_of_mem _ hy)
    obtain ⟨a, b⟩ := h x List.mem_cons_self
    have e : ((x :: xs).length : Int) * far = (xs.length : Int) * far + far := by
      rw [List.length_cons, show ((xs.length + 1 : Nat) : Int) = (xs.length : Int) + 1 by omega, Int.add_mul, Int.one_mul]
    rw [List.sum_cons, e]
    omega
theorem unit_fall {F : Int → Int} : ∀ {ps : List Pc} {s p : Int}, ChnE F s ps → s ≤ p → ∃ q ∈ ps, q.fall = F p - F (p + 1)
  | [], s, p, h, _ => h.elim
  | [q], s, p, ⟨h1, h2, h3, h4, h5⟩, hp => ⟨q, by simp, by rw [h4, h5 p hp, h5 (p + 1) (by omega)]; omega⟩
  | q :: q2 :: r, s, p, ⟨h, ⟨a1, a2, a3, a4, a5⟩, b⟩, hp => by
    by_cases c : p + 1 ≤ h
    · refine ⟨q, by simp, ?_⟩
      rw [a5 p hp (by omega), a5 (p + 1) (by omega) c, show p + 1 - s = (p - s) + 1 by omega, Int.mul_add, Int.mul_one]
      omega
    · obtain ⟨z, z1, z2⟩ := unit_fall b (p := p) (by omega)
      exact ⟨z, List.mem_cons_of_mem _ z1, z2⟩
theorem falls_same {xs : List Int} {ps : List Pc} (h : Sizes xs) (b : Bp xs ps) {t : Nat} (ht : xs.sum < t) :
    ps.map (·.fall) = (sset ((List.range t).map (fun i : Nat => buf (greatest xs) i - buf (greatest xs) ((i : Int) + 1)) ++ [0])).reverse := by
  have e : sset ((List.range t).map (fun i : Nat => buf (greatest xs) i - buf (greatest xs) ((i : Int) + 1)) ++ [0]) = (ps.map (·.fall)).reverse := by
    refine lt_unique (sset_lt _) (by rw [List.pairwise_reverse]; exact b.ok.dec) fun z => ?_
    rw [sset_mem, List.mem_reverse, List.mem_append, List.mem_singleton]
    obtain ⟨a, q, hs, e1, e2, e3, _⟩ := chnE_shape b.ok.chn
    constructor
    · rintro (hz | rfl)
      · obtain ⟨i, _, rfl⟩ := List.mem_map.mp hz
        obtain ⟨q, q1, q2⟩ := unit_fall b.ok.chn (p := (i : Int)) (by omega)
        exact List.mem_map.mpr ⟨q, q1, q2⟩
      · exact List.mem_map.mpr ⟨q, by rw [e1]; simp, e3⟩
    · intro hz
      obtain ⟨p, hp, rfl⟩ := List.mem_map.mp hz
      obtain ⟨l0, l1, l2⟩ := b.lows p hp
      obtain ⟨_, _, c⟩ := chnE_all b.ok.chn p hp
      rcases c with ⟨e, c1, c2, c3, c4, c5⟩ | ⟨c1, c2, c3⟩
      · refine .inl (List.mem_map.mpr ⟨p.low.toNat, List.mem_range.mpr (by omega), ?_⟩)
        have k := c5 (p.low + 1) (by omega) (by omega)
        rw [show p.low + 1 - p.low = 1 by omega, Int.mul_one] at k
        rw [show ((p.low.toNat : Nat) : Int) = p.low by omega]
        omega
      · exact .inr c2
  rw [e, List.reverse_reverse]
@[simp] theorem dZip_lst {xs ys : List D} {S : Store} : dZip [.lst xs, .lst ys] S = .ok (zipD xs ys) S := (rfl)
theorem dAdd_lst {xs ys : List D} {S : Store} (h : xs.length + ys.length ≤ sizeLine) : dAdd false (.lst xs) (.lst ys) S = .ok (.lst (xs ++ ys)) S := by
  unfold dAdd
  simp [h]
theorem alike_int {i : Int} {S : Store} : sem_law_alike [.int i, .int i] S = .ok (.bl true) S := alike_same 5 plD_int rfl
abbrev smBody : MS := (sSeq (sAsg (.nm 7) (s1 (sCons (sVar 1) (sCons (sVar 2) sNil)) Pg.sem_law_buffer))
        (sSeq (sIfS (sNot (sTest (s1 (sCons (s1 (sCons (sVar 1) (sCons (sVar 2) sNil)) Pg.sem_least_buffer) (sCons (sVar 7) sNil)) Pg.sem_law_alike)))
          (sRet (sC (.bl false)))
          (sPass))
        (sIfS (sOr (sTest (s2 (sComp false (iSeq (s1 (sCons (sVar 5) (sCons (sVar 2) sNil)) Pg.sem_law_by_pieces)) (.nm 8) [8] (sTest (s2 (sVar 8) (sVar 7) (dEq true))) (sVar 8)) (s1 sNil (newLs false)) (dEq true))) (sTest (s2 (s1 (sCons (sVar 5) (sCons (sVar 2) sNil)) Pg.sem_law_by_pieces) (s1 sNil (newLs false)) (dEq false))))
        (sRet (sC (.bl false)))
        (sPass))))
theorem byP_len {ps : List Pc} {p : Int} : (byP ps p).length ≤ ps.length := by
  unfold byP
  rw [List.length_map]
  exact List.length_filter_le _ _
theorem same_none {xs : List Int} {v : Int} (h : ∀ x ∈ xs, x = v) (few : xs.length ≤ sizeLine) {it : Envd → M (List D)} {env : Envd} {S S1 : Store} {i j : Nat} (hit : it env S = .ok (xs.map D.int) S1) (hi : i < env.length) (hj : i ≠ j) (hv : env[j]? = some (some (.int v))) :
    sComp false it (.nm i) [i] (sTest (s2 (sVar i) (sVar j) (dEq true))) (sVar i) env S = .ok (.lst []) S1 := by
  rw [sComp_of (items := xs.map D.int) (S1 := S1) (S2 := S1) (ys := []) hit (by simpa using few) ?_]
  · rfl
  · have := compL_filtOf (t := .nm i) (test := sTest (s2 (sVar i) (sVar j) (dEq true))) (elt := sVar i) (env := wipeD env [i]) (S := S1) (c := D.int) (f := D.int) (p := fun _ => false) (xs := xs) fun x hx => by
      refine ⟨_, rfl, ?_, fun z => by cases z⟩
      have g1 : ((env.set i none).set i (some (D.int x)))[i]? = some (some (.int x)) := by rw [List.getElem?_set_self (by simpa using hi)]
      have g2 : ((env.set i none).set i (some (D.int x)))[j]? = some (some (.int v)) := by rw [List.getElem?_set_ne hj, List.getElem?_set_ne hj]; exact hv
      simp only [sTest_ap, s2_ap, sVar_ap, wipeD_cons, wipeD_nil, g1, g2, vr_some, rb_ok, dEq_int]
      simp [h x hx]
    rw [filt_f] at this
    exact this
theorem sm_body {xs : List Int} {ps : List Pc} (h : Sizes xs) (big : xs.sum < 2 ^ 4000) (b : Bp xs ps) {p : Int} (p0 : 0 ≤ p) (p1 : p < 2 ^ 4100) {w0 w6 : Option D} {S : Store} :
    smBody [w0, some (li xs), some (.int p), none, none, some (eP ps), w6, none, none, none] S = .nx [w0, some (li xs), some (.int p), none, none, some (eP ps), w6, some (.int (buf (greatest xs) p)), none, none] S := by
  have fit := fit_of h big b p0 p1
  have few : ps.length ≤ 100000 := by have := b.few; omega
  have n0 : ∀ S, dEq true (.lst []) (.lst []) S = .ok (.bl false) S := fun S => dEq_ints (xs := []) (ys := []) (neg := true)
  have ne : (byP ps p) ≠ [] := byP_ne b.ok.chn p0
  have sc := same_none (xs := byP ps p) (v := buf (greatest xs) p) (byP_all b.ok.chn) (by have := byP_len (ps := ps) (p := p); rw [sizeL]; omega) (it := iSeq (s1 (sCons (sVar 5) (sCons (sVar 2) sNil)) Pg.sem_law_by_pieces))
    (env := [w0, some (li xs), some (.int p), none, none, some (eP ps), w6, some (.int (buf (greatest xs) p)), none, none]) (S := S) (S1 := S) (i := 8) (j := 7) (by simp [lbp_sem fit few]) (by simp) (by decide) rfl
  have e1 := law_buffer_eq (xs := xs) (p := p) (S := S)
  rw [lawBuf_eq h p0] at e1
  simp [smBody, e1, least_buffer_eq h p0 (show p < 2 ^ 5000 by omega), alike_int]
  rw [sc]
  simp [newLs_ap, sizeL, n0, lbp_sem fit few, ne]
theorem small_right_eq {b : Bag} {m : Int} {S : Store} {k : Nat} (hk : S[k]? = some b.cell) (ok : b.Ok m) (hm : m + 1000000 ≤ Most) : ∃ b' : Bag, sem_law_small_right [.ref k] S = .ok (.bl true) (S.set k b'.cell) ∧ b'.Ok (m + 1000000) := by
  obtain ⟨b', xs, n1, n2, n3, n4, n5⟩ := law_needs_eq (S := [b.cell]) (k := 0) rfl ok (most := 12) (far := 6) (by omega) (by omega) (by omega) (by omega) hm
  have sz : Sizes xs := ⟨n3, n4, fun x hx => (n5 x hx).1⟩
  obtain ⟨u0, u1⟩ := sum_le n5
  have big : xs.sum < 2 ^ 4000 := by omega
  obtain ⟨ps, acc, bp, run⟩ := buffer_pieces_run sz big
  obtain ⟨t, ht⟩ : ∃ t : Nat, 2 + xs.sum = (t : Int) := ⟨(2 + xs.sum).toNat, by omega⟩
  have tl : t ≤ 1300 := by omega
  have fewp : ps.length < 4000 := by have := bp.few; omega
  refine ⟨b', io_cell hk (by simp) (by simp) rfl (d := .bl true) (S' := [b'.cell]) (S'' := [b'.cell]) ?_ (fz_nr rfl) rfl (by simp), n2⟩
  have loop := forL_run (t := .nm 2) (kill := [2, 7]) (body := smBody) (items := rangeD 0 t) (env := [some (.ref 0), some (li xs), none, none, none, some (eP ps), some (.int t), none, none, none]) (S := [b'.cell])
    (fun _ => [some (.ref 0), some (li xs), none, none, none, some (eP ps), some (.int t), none, none, none]) (fun _ => [b'.cell]) (by simp) rfl fun i d hi => by
      obtain ⟨rfl, hlt⟩ := rangeD_get hi
      refine ⟨_, rfl, ?_⟩
      rw [Int.zero_add]
      exact ⟨_, sm_body sz big bp (p := (i : Int)) (by omega) (by omega), by simp⟩
  have vals : sComp false (s1 (sCons (s2 (sVar 6) (sC (.int 1)) (dAdd false)) sNil) dRange1) (.nm 2) [2] (fun _ => ret true) (s1 (sCons (sVar 1) (sCons (sVar 2) sNil)) Pg.sem_law_buffer) [some (.ref 0), some (li xs), none, none, none, some (eP ps), some (.int t), none, none, none] [b'.cell] =
      .ok (li ((List.range (t + 1)).map fun i : Nat => buf (greatest xs) i)) [b'.cell] := by
    rw [sComp_of (items := (List.range (t + 1)).map fun i : Nat => D.int (0 + (i : Int))) (S1 := [b'.cell]) (S2 := [b'.cell]) (ys := (List.range (t + 1)).map fun i : Nat => D.int (buf (greatest xs) i)) ?_ (by simp; rw [sizeL]; omega) ?_]
    · simp [li]
    · simp [okR_of (i := (t : Int) + 1) (by omega) (by omega), rangeD]
    · refine compL_mapOf (c := fun i : Nat => D.int (0 + (i : Int))) fun i hi => ⟨_, rfl, rfl, ?_⟩
      have e1 := law_buffer_eq (xs := xs) (p := 0 + (i : Int)) (S := [b'.cell])
      rw [lawBuf_eq sz (by omega)] at e1
      rw [Int.zero_add] at e1 ⊢
      simp only [Bag.cell, Bag.items] at e1 ⊢
      simp [e1]
  have zp : zipD (((List.range (t + 1)).map fun i : Nat => buf (greatest xs) i).map D.int) (Ev.cutD (((List.range (t + 1)).map fun i : Nat => buf (greatest xs) i).map D.int) (some 1) none) =
      (List.range t).map fun i : Nat => D.tup [.int (buf (greatest xs) i), .int (buf (greatest xs) ((i : Int) + 1))] := by
    rw [List.range_succ_eq_map, List.map_cons, List.map_cons, cut_1]
    refine List.ext_getElem? fun i => ?_
    by_cases hi : i < t
    · rw [List.getElem?_map, List.getElem?_range hi]
      refine zipD_get ?_ ?_
      · cases i with
        | zero => rfl
        | succ i => simp [List.getElem?_range (show i < t by omega)]
      · simp [List.getElem?_range hi]
    · rw [List.getElem?_eq_none (by rw [zipD_len]; simp; omega), List.getElem?_eq_none (by simp; omega)]
  have fls : ∀ w : Option D, sComp false (s1 (sCons (sVar 3) (sCons (sSl false (sVar 3) (sPart (some (sC (.int 1)))) (sPart none)) sNil)) dZip) (.tp [8, 9]) [8, 9] (fun _ => ret true) (s2 (sVar 8) (sVar 9) dSub) [some (.ref 0), some (li xs), none, some (li ((List.range (t + 1)).map fun i : Nat => buf (greatest xs) i)), none, some (eP ps), some (.int t), none, none, none] [b'.cell] =
      .ok (li ((List.range t).map fun i : Nat => buf (greatest xs) i - buf (greatest xs) ((i : Int) + 1))) [b'.cell] := fun w => by
    rw [sComp_of (items := (List.range t).map fun i : Nat => D.tup [.int (buf (greatest xs) i), .int (buf (greatest xs) ((i : Int) + 1))]) (S1 := [b'.cell]) (S2 := [b'.cell]) (ys := (List.range t).map fun i : Nat => D.int (buf (greatest xs) i - buf (greatest xs) ((i : Int) + 1))) ?_ (by simp; rw [sizeL]; omega) ?_]
    · simp [li]
    · simp only [s1_ap, sCons_ap, sVar_ap, sSl_ap, sPart_some, sPart_none, sC_ap, rb_ok, asI_int, List.getElem?_cons_succ, List.getElem?_cons_zero, vr_some, dSl_lst, newL_f, sNil_ap, dZip_lst, zp]
    · refine compL_mapOf (c := fun i : Nat => D.tup [.int (buf (greatest xs) i), .int (buf (greatest xs) ((i : Int) + 1))]) fun i hi => ⟨_, rfl, rfl, ?_⟩
      simp
  have fin := falls_same sz bp (t := t) (by omega)
  have pk : ∀ w1 w2 : Option D, sComp false (iSeq (sVar 5)) (.nm 8) [8] (fun _ => ret true) (s2 (sVar 8) (sC (.int 3)) dIx) [some (.ref 0), some (li xs), none, w1, w2, some (eP ps), some (.int t), none, none, none] [b'.cell] = .ok (li (ps.map (·.fall))) [b'.cell] := fun w1 w2 => by
    rw [sComp_of (items := ps.map encP) (S1 := [b'.cell]) (S2 := [b'.cell]) (ys := ps.map fun p => .int p.fall) (by simp) (by rw [sizeL]; simp; omega) (compL_mapOf fun p hp => ⟨_, rfl, rfl, by simp [encP]⟩)]
    simp [li]
  simp only [smBody] at loop
  simp only [b_law_small_right, sSeq_ap, sAsg_nm, s1_ap, sCons_ap, sVar_ap, sC_ap, sNil_ap, rb_ok]
  rw [show ([D.ref 0].map some ++ List.replicate (10 - 1) none) = [some (D.ref 0), none, none, none, none, none, none, none, none, none] from rfl]
  simp only [List.getElem?_cons_zero, vr_some, rb_ok, n1, eB_ok, rs_nx, List.set_cons_succ, List.set_cons_zero, sSeq_ap, sTup_ap, sCons_ap, s1_ap, sVar_ap, List.getElem?_cons_succ, sNil_ap, bp_sem run, s2_ap, sC_ap, bk_sum, dSum_ints, dAdd_int, ht]
  simp only [List.length_cons, List.length_nil, if_true, setAll_cons, setAll_nil, List.set_cons_succ, List.set_cons_zero, rs_nx, sSeq_ap, sIfS_ap, sNot_ap, sTest_ap, s1_ap, sCons_ap, sVar_ap, List.getElem?_cons_succ, List.getElem?_cons_zero, vr_some, rb_ok, sNil_ap, shape_right_eq bp.ok fewp, asB_ap, Bool.not_true, eB_ok, Bool.false_eq_true, if_false, sPass_ap, sFor_ap, dRange1_int, okR_of (i := (t : Int)) (by omega) (by omega), Int.toNat_natCast]
  rw [loop]
  simp only [rs_nx, sSeq_ap, sAsg_nm]
  rw [vals]
  simp only [eB_ok, rs_nx, List.set_cons_succ, List.set_cons_zero, sSeq_ap, sAsg_nm]
  rw [fls none]
  simp only [eB_ok, rs_nx, List.set_cons_succ, List.set_cons_zero, sRet_ap, s2_ap]
  rw [pk]
  have e0 : ((List.range t).map fun i : Nat => buf (greatest xs) i - buf (greatest xs) ((i : Int) + 1)).map D.int ++ [D.int 0] = ((List.range t).map (fun i : Nat => buf (greatest xs) i - buf (greatest xs) ((i : Int) + 1)) ++ [0]).map D.int := by rw [List.map_append]; rfl
  have l0 : ((List.range t).map (fun i : Nat => buf (greatest xs) i - buf (greatest xs) ((i : Int) + 1)) ++ [0]).length < 4000 := by simp; omega
  have l1 : (((List.range t).map fun i : Nat => buf (greatest xs) i - buf (greatest xs) ((i : Int) + 1)).map D.int).length + [D.int 0].length ≤ sizeLine := by rw [sizeL]; simp; omega
  simp only [rb_ok, s1_ap, s2_ap, sCons_ap, sVar_ap, sC_ap, sNil_ap, List.getElem?_cons_succ, List.getElem?_cons_zero, vr_some, newLs_ap (show [D.int 0].length ≤ sizeLine by rw [sizeL]; decide), newL_f, dAdd_lst l1, e0, dSortSet_li, if_pos l0, dRev_lst]
  rw [← List.map_reverse, ← fin, dEq_ints]
  simp
end Pg

set_option Elab.async false
set_option linter.all false
set_option maxRecDepth 100000
set_option maxHeartbeats 4000000
/-! PgO: k51: great sizes, the law. -/
namespace Pg
open PySem L2 Ev

theorem buf_at0 {xs : List Int} (h : Sizes xs) : buf (greatest xs) 0 = xs.sum := by
  have l := h.len
  have a := win_le (xs := xs) (p := 0) (j := 0) (m := xs.length) l (by omega)
  have b := buf_sum h (p := 0) (Int.le_refl _)
  rw [Nat.add_zero, P_all, Int.zero_mul] at a
  have : P xs 0 = 0 := rfl
  omega
theorem sK_ap {n : Nat} {sem : List D → M D} {ds : List D} {S : Store} (h : ds.length = n) : sK n sem ds S = sem ds S := by unfold sK; rw [if_pos h]
abbrev grIn : MS := (sSeq (sAsg (.nm 10) (s1 (sCons (sVar 2) (sCons (sVar 9) sNil)) Pg.sem_law_buffer))
          (sSeq (sAsg (.nm 4) (s1 (sCons (sVar 3) (sCons (sVar 9) sNil)) Pg.semM_law_by_pieces))
          (sIfS (sOr (sTest (s2 (s1 (sCons (sVar 9) (sCons (sVar 2) sNil)) (sK 2 (fun ds => Pg.sem_least_buffer (byPerm [1, 0] ds)))) (sVar 10) (dEq true))) (sOr (sTest (s2 (sComp false (iSeq (sVar 4)) (.nm 11) [11] (sTest (s2 (sVar 11) (sVar 10) (dEq true))) (sVar 11)) (s1 sNil (newLs false)) (dEq true))) (sTest (s2 (sVar 4) (s1 sNil (newLs false)) (dEq false)))))
          (sRet (sC (.bl false)))
          (sPass))))
theorem gr_in {xs : List Int} {ps : List Pc} (h : Sizes xs) (big : xs.sum < 2 ^ 4000) (b : Bp xs ps) {p : Int} (p0 : 0 ≤ p) (p1 : p < 2 ^ 4100) {w0 w1 w5 w6 w7 w8 : Option D} {S : Store} :
    grIn [w0, w1, some (li xs), some (eP ps), none, w5, w6, w7, w8, some (.int p), none, none] S = .nx [w0, w1, some (li xs), some (eP ps), some (.ref S.length), w5, w6, w7, w8, some (.int p), some (.int (buf (greatest xs) p)), none] (S ++ [.frz ((byP ps p).map D.int)]) := by
  have fit := fit_of h big b p0 p1
  have few : ps.length ≤ 100000 := by have := b.few; omega
  have ne : (byP ps p) ≠ [] := byP_ne b.ok.chn p0
  have e1 := law_buffer_eq (xs := xs) (p := p) (S := S)
  rw [lawBuf_eq h p0] at e1
  have g1 : (S ++ [Cell.lst ((byP ps p).map D.int)])[S.length]? = some (.lst ((byP ps p).map D.int)) := by rw [List.getElem?_append_right (Nat.le_refl _), Nat.sub_self]; rfl
  have g2 : (S ++ [Cell.frz ((byP ps p).map D.int)])[S.length]? = some (.frz ((byP ps p).map D.int)) := by rw [List.getElem?_append_right (Nat.le_refl _), Nat.sub_self]; rfl
  have st : (S ++ [Cell.lst ((byP ps p).map D.int)]).set S.length (.frz ((byP ps p).map D.int)) = S ++ [Cell.frz ((byP ps p).map D.int)] := by
    rw [List.set_append_right _ _ (Nat.le_refl _), Nat.sub_self]; rfl
  have sc := same_none (xs := byP ps p) (v := buf (greatest xs) p) (byP_all b.ok.chn) (by have := byP_len (ps := ps) (p := p); rw [sizeL]; omega) (it := iSeq (sVar 4))
    (env := [w0, w1, some (li xs), some (eP ps), some (.ref S.length), w5, w6, w7, w8, some (.int p), some (.int (buf (greatest xs) p)), none]) (S := S ++ [.lst ((byP ps p).map D.int)]) (S1 := S ++ [.frz ((byP ps p).map D.int)]) (i := 11) (j := 10)
    (by simp only [iSeq_ap, sVar_ap, List.getElem?_cons_succ, List.getElem?_cons_zero, vr_some, rb_ok, wk_ref, g1, wkc_lst, st]) (by simp) (by decide) rfl
  have n0 : dEq true (.lst []) (.lst []) (S ++ [.frz ((byP ps p).map D.int)]) = .ok (.bl false) (S ++ [.frz ((byP ps p).map D.int)]) := dEq_ints (xs := []) (ys := []) (neg := true)
  have n1 : dEq false (.ref S.length) (.lst []) (S ++ [.frz ((byP ps p).map D.int)]) = .ok (.bl false) (S ++ [.frz ((byP ps p).map D.int)]) := by
    rw [dEq_refl (xs := (byP ps p).map D.int) (by rw [g2]; rfl), dEq_ints_nil]
    simp [ne]
  have k1 : sK 2 (fun ds => Pg.sem_least_buffer (byPerm [1, 0] ds)) [.int p, li xs] (S ++ [.lst ((byP ps p).map D.int)]) = .ok (.int (buf (greatest xs) p)) (S ++ [.lst ((byP ps p).map D.int)]) := by
    refine (sK_ap (n := 2) (ds := [.int p, li xs]) rfl).trans ?_
    exact least_buffer_eq h p0 (by omega)
  simp only [grIn, sSeq_ap, sAsg_nm, s1_ap, sCons_ap, sVar_ap, List.getElem?_cons_succ, List.getElem?_cons_zero, vr_some, rb_ok, sNil_ap, e1, eB_ok, rs_nx, List.set_cons_succ, List.set_cons_zero, lbp_semM fit few, sIfS_ap, sOr_ap, sTest_ap, s2_ap, k1, dEq_int]
  simp only [decide_true, Bool.not_true, if_true, asB_ap, rb_ok, Bool.false_eq_true, if_false]
  rw [sc]
  simp only [rb_ok, newLs_ap (show ([] : List D).length ≤ sizeLine by rw [sizeL]; decide), newL_f, n0, asB_ap, Bool.false_eq_true, if_false, n1, eB_ok, sPass_ap]
def paces (q : Pc) (r : Int) : List Int := [q.low, q.low + 1, q.low + r] ++ (match q.high with | none => [] | some h => [h])
theorem dMul_lst {xs : List D} {k : Int} {S : Store} (h : -(2 ^ 63) ≤ k ∧ k < 2 ^ 63 ∧ xs.length * k.toNat ≤ sizeLine) : dMul false (.lst xs) (.int k) S = .ok (.lst (List.replicate k.toNat xs).flatten) S := by
  unfold dMul
  simp only [seqL]
  rw [if_pos h]
  rfl
theorem gr_items {b : Bag} {m : Int} {junk : Store} (ok : b.Ok m) (hm : m + 100 ≤ Most) {far : Int} (W : Wide far) {q : Pc} {w2 w3 w7 w8 : Option D} : ∃ (b' : Bag) (r : Int), 0 ≤ r ∧ r < far ∧ b'.Ok (m + 100) ∧
    iSeq (s2 (s1 (sCons (sVar 5) (sCons (s2 (sVar 5) (sC (.int 1)) (dAdd false)) (sCons (s2 (sVar 5) (s1 (sCons (sVar 0) (sCons (sVar 1) sNil)) Pg.sem_law_draw) (dAdd false)) sNil))) (newLs false)) (s2 (s1 (sCons (sVar 6) sNil) (newLs false)) (s1 (sCons (s2 (sVar 6) (sC .non) (dIsN true)) sNil) (BK.sem false .int)) (dMul false)) (dAdd false))
      [some (.ref 0), some (.int far), w2, w3, none, some (.int q.low), some (hiD q.high), w7, w8, none, none, none] (b.cell :: junk) = .ok ((paces q r).map D.int) (b'.cell :: junk) := by
  obtain ⟨b', r, d1, d2, d3, d4⟩ := draw_eq (S := b.cell :: junk) (k := 0) rfl ok hm W
  refine ⟨b', r, d3, d4, d2, ?_⟩
  simp only [List.set_cons_zero] at d1
  simp only [iSeq_ap, s2_ap, s1_ap, sCons_ap, sVar_ap, sC_ap, List.getElem?_cons_succ, List.getElem?_cons_zero, vr_some, rb_ok, dAdd_int, d1, sNil_ap, newLs_ap (show [D.int q.low, .int (q.low + 1), .int (q.low + r)].length ≤ sizeLine by rw [sizeL]; simp), newLs_ap (show [hiD q.high].length ≤ sizeLine by rw [sizeL]; simp), newL_f]
  cases hh : q.high with
  | none =>
    simp only [hiD, dIsN_non, rb_ok, bk_int, Bool.not_true, dInt_bl, Bool.false_eq_true, if_false]
    rw [dMul_lst (xs := [D.non]) (k := 0) (by rw [sizeL]; simp)]
    simp only [rb_ok]
    rw [dAdd_lst (by rw [sizeL]; simp)]
    simp [paces, hh]
  | some h =>
    simp only [hiD, dIsN_int, rb_ok, bk_int, dInt_bl, if_true]
    rw [dMul_lst (xs := [D.int h]) (k := 1) (by rw [sizeL]; simp)]
    simp only [rb_ok]
    rw [dAdd_lst (by rw [sizeL]; simp)]
    simp [paces, hh]
theorem cut_map {ps : List Pc} {lo hi : Option Int} : ∃ qs : List Pc, Ev.cutD (ps.map encP) lo hi = qs.map encP ∧ (∀ q ∈ qs, q ∈ ps) ∧ qs.length ≤ ps.length := by
  refine ⟨(ps.drop (HT.sIx ps.length 0 lo)).take (HT.sIx ps.length ps.length hi - HT.sIx ps.length 0 lo), ?_, fun q hq => List.mem_of_mem_drop (List.mem_of_mem_take hq), ?_⟩
  · unfold Ev.cutD
    simp [List.map_drop, List.map_take]
  · simp
    omega
abbrev grOut : MS := (sFor (.nm 9) [4, 9, 10] (iSeq (s2 (s1 (sCons (sVar 5) (sCons (s2 (sVar 5) (sC (.int 1)) (dAdd false)) (sCons (s2 (sVar 5) (s1 (sCons (sVar 0) (sCons (sVar 1) sNil)) Pg.sem_law_draw) (dAdd false)) sNil))) (newLs false)) (s2 (s1 (sCons (sVar 6) sNil) (newLs false)) (s1 (sCons (s2 (sVar 6) (sC .non) (dIsN true)) sNil) (BK.sem false .int)) (dMul false)) (dAdd false))) grIn)
theorem gr_out {xs : List Int} {ps : List Pc} (h : Sizes xs) (big : xs.sum < 2 ^ 4000) (bp : Bp xs ps) {b : Bag} {m : Int} {junk : Store} (ok : b.Ok m) (hm : m + 100 ≤ Most) {far : Int} (W : Wide far) {q : Pc} (hq : q ∈ ps) :
    ∃ (b' : Bag) (junk' : Store), b'.Ok (m + 100) ∧ grOut [some (.ref 0), some (.int far), some (li xs), some (eP ps), none, some (.int q.low), some (hiD q.high), some (.int q.value), some (.int q.fall), none, none, none] (b.cell :: junk) =
      .nx [some (.ref 0), some (.int far), some (li xs), some (eP ps), none, some (.int q.low), some (hiD q.high), some (.int q.value), some (.int q.fall), none, none, none] (b'.cell :: junk') := by
  obtain ⟨b', r, r0, r1, o, hit⟩ := gr_items (junk := junk) ok hm W (q := q) (w2 := some (li xs)) (w3 := some (eP ps)) (w7 := some (.int q.value)) (w8 := some (.int q.fall))
  obtain ⟨l0, l1, l2⟩ := bp.lows q hq
  have wf := W.few
  have pb : ∀ p ∈ paces q r, 0 ≤ p ∧ p < 2 ^ 4100 := fun p hp => by
    unfold paces at hp
    rcases List.mem_append.mp hp with hp | hp
    · simp at hp
      rcases hp with rfl | rfl | rfl <;> omega
    · obtain ⟨_, _, c⟩ := chnE_all bp.ok.chn q hq
      cases hh : q.high with
      | none => rw [hh] at hp; cases hp
      | some z =>
        rw [hh] at hp
        simp at hp
        subst hp
        have := l2 p hh
        rcases c with ⟨e, c1, c2, c3, _⟩ | ⟨c1, _⟩
        · rw [hh] at c2; cases c2; omega
        · rw [hh] at c1; cases c1
  have loop : ∃ junk', forL (.nm 9) [4, 9, 10] grIn ((paces q r).map D.int) [some (.ref 0), some (.int far), some (li xs), some (eP ps), none, some (.int q.low), some (hiD q.high), some (.int q.value), some (.int q.fall), none, none, none] (b'.cell :: junk) =
      .nx [some (.ref 0), some (.int far), some (li xs), some (eP ps), none, some (.int q.low), some (hiD q.high), some (.int q.value), some (.int q.fall), none, none, none] (b'.cell :: junk') := by
    refine forL_gen (t := .nm 9) (kill := [4, 9, 10]) (body := grIn) (items := (paces q r).map D.int) (fun R => ∃ junk', R = .nx [some (.ref 0), some (.int far), some (li xs), some (eP ps), none, some (.int q.low), some (hiD q.high), some (.int q.value), some (.int q.fall), none, none, none] (b'.cell :: junk'))
      (fun i e S => e = [some (.ref 0), some (.int far), some (li xs), some (eP ps), none, some (.int q.low), some (hiD q.high), some (.int q.value), some (.int q.fall), none, none, none] ∧ ∃ junk', S = b'.cell :: junk') ⟨by simp, junk, rfl⟩ (fun i d e S hi ⟨he, j2, hS⟩ => ?_) fun e S ⟨he, j2, hS⟩ => ⟨j2, by rw [he, hS]⟩
    rw [List.getElem?_map] at hi
    obtain ⟨p, hp, rfl⟩ := Option.map_eq_some_iff.mp hi
    obtain ⟨p0, p1⟩ := pb p (List.mem_of_getElem? hp)
    subst he; subst hS
    refine ⟨_, rfl, ?_⟩
    have gi := gr_in h big bp p0 p1 (w0 := some (.ref 0)) (w1 := some (.int far)) (w5 := some (.int q.low)) (w6 := some (hiD q.high)) (w7 := some (.int q.value)) (w8 := some (.int q.fall)) (S := b'.cell :: j2)
    simp only [List.set_cons_succ, List.set_cons_zero]
    rw [gi]
    exact ⟨by simp, j2 ++ [.frz ((byP ps p).map D.int)], rfl⟩
  obtain ⟨junk', e⟩ := loop
  refine ⟨b', junk', o, ?_⟩
  simp only [grOut, sFor_ap, hit, eB_ok]
  exact e
theorem great_right_eq {b : Bag} {m : Int} {S : Store} {k : Nat} (hk : S[k]? = some b.cell) (ok : b.Ok m) (hm : m + 2000000 ≤ Most) : ∃ b' : Bag, sem_law_great_right [.ref k] S = .ok (.bl true) (S.set k b'.cell) ∧ b'.Ok (m + 2000000) := by
  unfold Most at hm
  obtain ⟨b1, r1, d1, d2, d3, d4⟩ := draw_eq (S := [b.cell]) (k := 0) rfl ok (by unfold Most; omega) (w := 2) ⟨by omega, by omega⟩
  obtain ⟨far, hf, f0, f1⟩ : ∃ far : Int, L2.atI [D.int (10 ^ 6), .int (10 ^ 26)] r1 = some (.int far) ∧ 5 ≤ far ∧ far < 2 ^ 100 := by
    rcases (by omega : r1 = 0 ∨ r1 = 1) with rfl | rfl
    · exact ⟨10 ^ 6, rfl, by decide, by decide⟩
    · exact ⟨10 ^ 26, rfl, by decide, by decide⟩
  obtain ⟨b2, r2, g1, g2, g3, g4⟩ := draw_eq (S := [b1.cell]) (k := 0) rfl d2 (by unfold Most; omega) (w := 3) ⟨by omega, by omega⟩
  obtain ⟨most, hmo, mo0, mo1⟩ : ∃ most : Int, L2.atI [D.int 40, .int 200, .int 40] r2 = some (.int most) ∧ 1 ≤ most ∧ most ≤ 200 := by
    rcases (by omega : r2 = 0 ∨ r2 = 1 ∨ r2 = 2) with rfl | rfl | rfl
    · exact ⟨40, rfl, by decide, by decide⟩
    · exact ⟨200, rfl, by decide, by decide⟩
    · exact ⟨40, rfl, by decide, by decide⟩
  obtain ⟨b3, xs, n1, n2, n3, n4, n5⟩ := law_needs_eq (S := [b2.cell]) (k := 0) rfl g2 (most := most) (far := far) mo0 mo1 f0 (by omega) (by unfold Most; omega)
  have sz : Sizes xs := ⟨n3, n4, fun x hx => (n5 x hx).1⟩
  obtain ⟨u0, u1⟩ := sum_le n5
  have big : xs.sum < 2 ^ 4000 := by
    have : (xs.length : Int) * far ≤ 200 * far := Int.mul_le_mul_of_nonneg_right (by omega) (by omega)
    omega
  obtain ⟨ps, acc, bp, run⟩ := buffer_pieces_run sz big
  have fewp : ps.length < 4000 := by have := bp.few; omega
  obtain ⟨qs1, q11, q12, q13⟩ := cut_map (ps := ps) (lo := none) (hi := some 2)
  obtain ⟨qs2, q21, q22, q23⟩ := cut_map (ps := ps) (lo := some (-2)) (hi := none)
  have W : Wide far := ⟨by omega, by omega⟩
  have loop : ∃ (b' : Bag) (junk : Store) (e : Envd), forL (.tp [5, 6, 7, 8]) [4, 5, 6, 7, 8, 9, 10] grOut ((qs1 ++ qs2).map encP) [some (.ref 0), some (.int far), some (li xs), some (eP ps), some (.ref 1), none, none, none, none, none, none, none] [b3.cell, .lst (ps.map encP ++ [.non])] =
      .nx e (b'.cell :: junk) ∧ b'.Ok (m + 2000000) := by
    refine forL_gen (t := .tp [5, 6, 7, 8]) (kill := [4, 5, 6, 7, 8, 9, 10]) (body := grOut) (items := (qs1 ++ qs2).map encP) (fun R => ∃ (b' : Bag) (junk : Store) (e : Envd), R = .nx e (b'.cell :: junk) ∧ b'.Ok (m + 2000000))
      (fun i e S => e = [some (.ref 0), some (.int far), some (li xs), some (eP ps), none, none, none, none, none, none, none, none] ∧ ∃ (b' : Bag) (junk : Store), S = b'.cell :: junk ∧ b'.Ok (m + 1000200 + 100 * (i : Int)))
      ⟨by simp, b3, _, rfl, n2.mono (by omega)⟩ (fun i d e S hi ⟨he, b4, junk, hS, o4⟩ => ?_) fun e S ⟨he, b4, junk, hS, o4⟩ => ⟨b4, junk, e, by rw [hS], o4.mono (by simp; omega)⟩
    have hlt : i < 8000 := by
      have := (List.getElem?_eq_some_iff.mp hi).1
      simp at this
      omega
    rw [List.getElem?_map] at hi
    obtain ⟨q, hq, rfl⟩ := Option.map_eq_some_iff.mp hi
    have hq2 : q ∈ ps := (List.mem_append.mp (List.mem_of_getElem? hq)).elim (q12 q) (q22 q)
    subst he; subst hS
    obtain ⟨b5, j5, o5, e5⟩ := gr_out sz big bp (junk := junk) o4 (by unfold Most; omega) W hq2
    refine ⟨_, (by unfold encP; rfl), ?_⟩
    simp only [setAll_cons, setAll_nil, List.set_cons_succ, List.set_cons_zero]
    rw [e5]
    exact ⟨by simp, b5, j5, rfl, o5.mono (by omega)⟩
  obtain ⟨b6, junk, e6, lp, o6⟩ := loop
  refine ⟨b6, io_cell hk (by simp) (by simp) rfl (d := .bl true) (S' := b6.cell :: junk) (S'' := b6.cell :: junk) ?_ (fz_nr rfl) rfl (by simp), o6⟩
  have pw1 : ∀ S, dPow (.int 10) (.int 6) S = .ok (.int (10 ^ 6)) S := fun S => dPow_int (by decide) (by decide)
  have pw2 : ∀ S, dPow (.int 10) (.int 26) S = .ok (.int (10 ^ 26)) S := fun S => dPow_int (by decide) (by decide)
  have lb0 : ∀ S, sem_least_buffer [li xs, .int 0] S = .ok (.int xs.sum) S := fun S => by rw [least_buffer_eq sz (Int.le_refl _) (by omega), buf_at0 sz]
  have eqp : ∀ S, dEq true (eP ps) (eP ps) S = .ok (.bl false) S := fun S => by rw [dEq_pl (n := 2) encPs_pl encPs_pl (by decide), eqvD_same encPs_pl]; rfl
  have kk : ∀ S, sK 1 (fun ds => Pg.sem_buffer_pieces (byPerm [0] ds)) [li xs] S = .ok (eP ps) S := fun S => by
    refine (sK_ap (n := 1) (ds := [li xs]) rfl).trans ?_
    exact bp_sem run
  simp only [List.set_cons_zero] at d1 g1 n1
  simp only [b_law_great_right, sSeq_ap, sAsg_nm, s2_ap, s1_ap, sCons_ap, sVar_ap, sC_ap, sNil_ap, rb_ok, pw1, pw2]
  rw [show ([D.ref 0].map some ++ List.replicate (12 - 1) none) = [some (D.ref 0), none, none, none, none, none, none, none, none, none, none, none] from rfl]
  simp only [newLs_ap (show [D.int (10 ^ 6), D.int (10 ^ 26)].length ≤ sizeLine by rw [sizeL]; decide), newL_f, rb_ok, List.getElem?_cons_zero, vr_some, d1, dIx_lst, hf, ato_some, eB_ok, rs_nx, List.set_cons_succ, List.set_cons_zero, sSeq_ap, sAsg_nm, s2_ap, s1_ap, sCons_ap, sVar_ap, sC_ap, sNil_ap,
    newLs_ap (show [D.int 40, D.int 200, D.int 40].length ≤ sizeLine by rw [sizeL]; decide), g1, hmo, List.getElem?_cons_succ, n1, kk, sIfS_ap, sOr_ap, sNot_ap, sTest_ap, shape_right_eq bp.ok fewp, asB_ap, Bool.not_true, Bool.false_eq_true, if_false, lb0, bk_sum, dSum_ints, dEq_int, decide_true, if_true, sPass_ap,
    bp_semM run, List.length_cons, List.length_nil, List.cons_append, List.nil_append, sExpr_ap, sBM_ap, mkchk_append, chkL_ap, seqL_ref, cl_lst, cko_some, mk_append]
  have lps : (ps.map encP).length < sizeLine := by simp; rw [sizeL]; omega
  have lqs : (qs1.map encP).length + (qs2.map encP).length ≤ sizeLine := by simp; rw [sizeL]; omega
  simp only [grOut, grIn] at lp
  rw [apc_ok lps]
  simp only [Nat.zero_add, eB_ok, rs_nx, List.set_cons_succ, List.set_cons_zero, sSeq_ap, sIfS_ap, sTest_ap, s2_ap, s1_ap, sCons_ap, sVar_ap, List.getElem?_cons_succ, List.getElem?_cons_zero, vr_some, rb_ok, sNil_ap, bp_sem run, eqp, asB_ap, Bool.false_eq_true, if_false, sPass_ap, sFor_ap, iSeq_ap, sSl_ap, sPart_none, sPart_some, sC_ap, asI_int, dNeg_int, dSl_lst, newL_f, q11, q21]
  rw [dAdd_lst lqs]
  simp only [rb_ok, wk_lst, eB_ok, ← List.map_append]
  rw [lp]
  simp
end Pg

set_option Elab.async false
set_option linter.all false
set_option maxRecDepth 100000
set_option maxHeartbeats 4000000
/-! K51C: k51: the law holds, by data. -/
namespace K51
open PySem L2 Ev Pg

theorem io_frz {mr : Bool} {sem : List D → M D} {k : Nat} {xs : List D} {ds : List D} {S : Store} (h : S[k]? = some (.lst xs)) (n : nrDs xs = true) : callIO [] mr sem (.ref k :: ds) S = callIO [] mr sem (.lst xs :: ds) (S.set k (.frz xs)) := by
  unfold callIO
  have e : prep [] (.ref k :: ds) [] S = prep [] (.lst xs :: ds) [] (S.set k (.frz xs)) := by
    have a1 := fz_ref h n
    have a2 : fzD (.lst xs) (S.set k (.frz xs)) = some (.lst xs, S.set k (.frz xs)) := fz_nr (by simpa using n)
    unfold prep
    simp only [List.headD_nil, a1, a2, o1]
  rw [e]
theorem run1 : b_buffer_pieces [some (li [2, 0, 7, 1]), none, none, none, none, none, none, none, none, none] [] = .rt (.ref 1) [.lst [encP ⟨0, some 1, 10, 3⟩], .lst ([⟨0, some 1, 10, 3⟩, ⟨1, none, 7, 0⟩].map encP)] := by kernel_rfl
theorem run2 : b_buffer_pieces [some (li [0, 0]), none, none, none, none, none, none, none, none, none] [] = .rt (.ref 1) [.lst [], .lst ([⟨0, none, 0, 0⟩].map encP)] := by kernel_rfl
theorem least1 {S : Store} : sem_least_buffer [.lst [.int 2, .int 0, .int 7, .int 1], .int 0] S = .ok (.int 10) S := by
  have sz : Sizes [2, 0, 7, 1] := ⟨by decide, by decide, by decide⟩
  exact (least_buffer_eq (S := S) sz (Int.le_refl _) (by omega)).trans (by rw [buf_at0 sz]; rfl)
theorem least2 {S : Store} : sem_least_buffer [.lst [.int 5], .int 100000000000000000000000000000] S = .ok (.int 5) S := by
  have sz : Sizes [5] := ⟨by decide, by decide, by decide⟩
  exact (least_buffer_eq (S := S) sz (by decide) (by omega)).trans rfl
theorem law_holds (ns : List Int) (hl : ns.length ≤ 63) : ∃ S, sem_law [.scr ns] [] = .ok (.bl true) S := by
  obtain ⟨b, hb, ok⟩ := bag_eq ns [] hl
  have turn : ∀ {b : Bag} {m : Int}, b.Ok m → m + 1000000 ≤ Most → ∃ b' : Bag, sem_law_small_right [.ref 0] [b.cell] = .ok (.bl true) [b'.cell] ∧ b'.Ok (m + 1000000) := fun {b m} o h => by
    obtain ⟨b', e, o'⟩ := small_right_eq (S := [b.cell]) (k := 0) rfl o h
    exact ⟨b', e, o'⟩
  have loop : ∃ b' : Bag, forL (.nm 2) [2] (sIfS (sNot (sTest (s1 (sCons (sVar 1) sNil) Pg.sem_law_small_right))) (sRet (sC (.bl false))) (sPass)) (rangeD 0 3) [some (.scr ns), some (.ref 0), none, none] [b.cell] = .nx [some (.scr ns), some (.ref 0), none, none] [b'.cell] ∧ b'.Ok 3000000 := by
    refine forL_gen (t := .nm 2) (kill := [2]) (items := rangeD 0 3) (fun R => ∃ b' : Bag, R = .nx [some (.scr ns), some (.ref 0), none, none] [b'.cell] ∧ b'.Ok 3000000)
      (fun i e S => e = [some (.scr ns), some (.ref 0), none, none] ∧ ∃ b' : Bag, S = [b'.cell] ∧ b'.Ok (1000000 * (i : Int))) ⟨by simp, b, rfl, ok.mono (by simp)⟩ (fun i d e S hi ⟨he, b1, hS, o1⟩ => ?_) fun e S ⟨he, b1, hS, o1⟩ => ⟨b1, by rw [he, hS], o1.mono (by rw [rangeD_len]; decide)⟩
    obtain ⟨rfl, hlt⟩ := rangeD_get hi
    subst he; subst hS
    obtain ⟨b2, e2, o2⟩ := turn o1 (by unfold Most; omega)
    refine ⟨_, rfl, ?_⟩
    simp only [List.set_cons_succ, List.set_cons_zero, sIfS_ap, sNot_ap, sTest_ap, s1_ap, sCons_ap, sVar_ap, List.getElem?_cons_succ, List.getElem?_cons_zero, vr_some, rb_ok, sNil_ap, e2, asB_ap, Bool.not_true, eB_ok, Bool.false_eq_true, if_false, sPass_ap]
    exact ⟨by simp, b2, rfl, o2.mono (by simp; omega)⟩
  obtain ⟨b1, lp, ok1⟩ := loop
  obtain ⟨b2, gr, ok2⟩ := great_right_eq (S := [b1.cell]) (k := 0) rfl ok1 (by unfold Most; omega)
  simp only [List.set_cons_zero] at gr
  have told : D := .lst [eP [⟨0, some 1, 10, 3⟩, ⟨1, none, 7, 0⟩], eP [⟨0, none, 0, 0⟩], .int 10, .int 5]
  have al : ∀ S : Store, S[1]? = some (.lst [eP [⟨0, some 1, 10, 3⟩, ⟨1, none, 7, 0⟩], eP [⟨0, none, 0, 0⟩], .int 10, .int 5]) →
      sem_law_alike [.ref 1, .lst [eP [⟨0, some 1, 10, 3⟩, ⟨1, none, 7, 0⟩], eP [⟨0, none, 0, 0⟩], .int 10, .int 5]] S = .ok (.bl true) (S.set 1 (.frz [eP [⟨0, some 1, 10, 3⟩, ⟨1, none, 7, 0⟩], eP [⟨0, none, 0, 0⟩], .int 10, .int 5])) := fun S hS => by
    refine (io_frz (mr := false) (sem := bodyS 2 3 (b_law_alike (sem0_law_alike 5))) hS (by decide)).trans ?_
    exact alike_same 5 (d := .lst [eP [⟨0, some 1, 10, 3⟩, ⟨1, none, 7, 0⟩], eP [⟨0, none, 0, 0⟩], .int 10, .int 5]) (by decide) (by decide)
  refine ⟨[], io_pure (d := .bl true) (S' := [b2.cell, .frz [eP [⟨0, some 1, 10, 3⟩, ⟨1, none, 7, 0⟩], eP [⟨0, none, 0, 0⟩], .int 10, .int 5]]) (S'' := [b2.cell, .frz [eP [⟨0, some 1, 10, 3⟩, ⟨1, none, 7, 0⟩], eP [⟨0, none, 0, 0⟩], .int 10, .int 5]]) rfl rfl ?_ (fz_nr rfl)⟩
  have pw : ∀ S, dPow (.int 10) (.int 29) S = .ok (.int (10 ^ 29)) S := fun S => dPow_int (by decide) (by decide)
  have nl : ∀ (xs : List D) (mu : Bool) (S : Store), xs.length ≤ 10 → newLs mu xs S = newL mu xs S := fun xs mu S h => newLs_ap (by rw [sizeL]; omega)
  have nt : ∀ (xs : List D) (S : Store), xs.length ≤ 10 → newTs xs S = .ok (.tup xs) S := fun xs S h => newTs_ap (by rw [sizeL]; omega)
  have p1 : ∀ S : Store, sem_buffer_pieces [.lst [.int 2, .int 0, .int 7, .int 1]] S = .ok (eP [⟨0, some 1, 10, 3⟩, ⟨1, none, 7, 0⟩]) S := fun S => bp_sem run1
  have p2 : ∀ S : Store, sem_buffer_pieces [.lst [.int 0, .int 0]] S = .ok (eP [⟨0, none, 0, 0⟩]) S := fun S => bp_sem run2
  have rg : ∀ S : Store, dRange1 [.int 3] S = .ok (rangeD 0 3) S := fun S => rfl
  simp only [b_law, sSeq_ap, sAsg_nm, s1_ap, sCons_ap, sVar_ap, sC_ap, sNil_ap, rb_ok]
  rw [show ([D.scr ns].map some ++ List.replicate (4 - 1) none) = [some (.scr ns), none, none, none] from rfl]
  simp only [List.getElem?_cons_zero, vr_some, rb_ok, hb, List.length_nil, List.nil_append, eB_ok, rs_nx, List.set_cons_succ, List.set_cons_zero, sSeq_ap, sFor_ap, s1_ap, sCons_ap, sC_ap, sNil_ap, rg]
  rw [lp]
  simp only [rs_nx, sSeq_ap, sIfS_ap, sNot_ap, sTest_ap, s1_ap, sCons_ap, sVar_ap, List.getElem?_cons_succ, List.getElem?_cons_zero, vr_some, rb_ok, sNil_ap, gr, asB_ap, Bool.not_true, eB_ok, Bool.false_eq_true, if_false, sPass_ap, sAsg_nm, sC_ap]
  simp [nl, nt, p1, p2, least1, pw]
  simp only [least2, rb_ok, mk_append, List.getElem?_cons_succ, List.getElem?_cons_zero]
  rw [apc_ok (by rw [sizeL]; simp)]
  have al2 := al [b2.cell, .lst [eP [⟨0, some 1, 10, 3⟩, ⟨1, none, 7, 0⟩], eP [⟨0, none, 0, 0⟩], .int 10, .int 5]] rfl
  simp [encP, hiD, nl, nt]
  exact congrArg (fun r => eB r [some (D.scr ns), some (D.ref 0), none, some (D.ref 1)] fun d S' => RS.rt d S') al2
end K51

set_option Elab.async false
set_option linter.all false
set_option maxRecDepth 100000
set_option maxHeartbeats 4000000
namespace K51
open PySem PySem.Spec PyProof.Rows L2 Ev
def top (i : Nat) : Stmt := PySem.Challenge.pw_evenbits_k51_least_buffers_and_their_pie.main.body.getD i (.Pass ⟨0, 0, 0, 0⟩)
/-! _law_bag -/
def N_law_bag : List Str := ["script", "stir", "cell"]
def P_law_bag : List Str := ["script"]
theorem sc_law_bag : FnScope N_law_bag P_law_bag (defScope (top 18)) := C8.fnScope_by (by decide +kernel)
def cc_law_bag : CC := { N := N_law_bag, sc := defScope (top 18), cellOk := fun _ => true, fns := [], fnsM := [], kfns := [], cons := [], excs := [], mus := [(73, 11, 87)], kills := [(71, [2])], fuel := Pg.fuel }
theorem is_law_bag : compSs (cc_law_bag) 40 40 (defBody (top 18)) = some (Pg.b_law_bag) := by kernel_rfl
/-! _law_alike -/
def N_law_alike : List Str := ["found", "due", "k"]
def P_law_alike : List Str := ["found", "due"]
theorem sc_law_alike : FnScope N_law_alike P_law_alike (defScope (top 21)) := C8.fnScope_by (by decide +kernel)
def cc_law_alike (self : List D → M D) : CC := { N := N_law_alike, sc := defScope (top 21), cellOk := fun _ => true, fns := [("_law_alike", self)], fnsM := [], kfns := [], cons := [], excs := [], mus := [], kills := [], fuel := Pg.fuel }
theorem is_law_alike (self : List D → M D) : compSs (cc_law_alike self) 40 40 (defBody (top 21)) = some (Pg.b_law_alike self) := by kernel_rfl
/-! _law_stirred -/
def N_law_stirred : List Str := ["bag", "wide", "found", "k", "mixed"]
def P_law_stirred : List Str := ["bag", "wide"]
theorem sc_law_stirred : FnScope N_law_stirred P_law_stirred (defScope (top 19)) := C8.fnScope_by (by decide +kernel)
def cc_law_stirred : CC := { N := N_law_stirred, sc := defScope (top 19), cellOk := fun _ => true, fns := [], fnsM := [], kfns := [], cons := [], excs := [], mus := [], kills := [(76, [3, 4])], fuel := Pg.fuel }
theorem is_law_stirred : compSs (cc_law_stirred) 40 40 (defBody (top 19)) = some (Pg.b_law_stirred) := by kernel_rfl
/-! _law_draw -/
def N_law_draw : List Str := ["bag", "wide", "found"]
def P_law_draw : List Str := ["bag", "wide"]
theorem sc_law_draw : FnScope N_law_draw P_law_draw (defScope (top 20)) := C8.fnScope_by (by decide +kernel)
def cc_law_draw : CC := { N := N_law_draw, sc := defScope (top 20), cellOk := fun _ => true, fns := [("_law_stirred", Pg.sem_law_stirred)], fnsM := [], kfns := [], cons := [], excs := [], mus := [], kills := [], fuel := Pg.fuel }
theorem is_law_draw : compSs (cc_law_draw) 40 40 (defBody (top 20)) = some (Pg.b_law_draw) := by kernel_rfl
/-! _law_needs -/
def N_law_needs : List Str := ["bag", "most", "far", "k"]
def P_law_needs : List Str := ["bag", "most", "far"]
theorem sc_law_needs : FnScope N_law_needs P_law_needs (defScope (top 22)) := C8.fnScope_by (by decide +kernel)
def cc_law_needs : CC := { N := N_law_needs, sc := defScope (top 22), cellOk := fun _ => true, fns := [("_law_draw", Pg.sem_law_draw)], fnsM := [], kfns := [], cons := [], excs := [], mus := [], kills := [], fuel := Pg.fuel }
theorem is_law_needs : compSs (cc_law_needs) 40 40 (defBody (top 22)) = some (Pg.b_law_needs) := by kernel_rfl
/-! is_integer -/
def N_is_integer : List Str := ["thing"]
def P_is_integer : List Str := ["thing"]
theorem sc_is_integer : FnScope N_is_integer P_is_integer (defScope (top 6)) := C8.fnScope_by (by decide +kernel)
def cc_is_integer : CC := { N := N_is_integer, sc := defScope (top 6), cellOk := fun _ => true, fns := [], fnsM := [], kfns := [], cons := [], excs := [], mus := [], kills := [], fuel := Pg.fuel }
theorem is_is_integer : compSs (cc_is_integer) 40 40 (defBody (top 6)) = some (Pg.b_is_integer) := by kernel_rfl
/-! are_needs -/
def N_are_needs : List Str := ["thing", "size"]
def P_are_needs : List Str := ["thing"]
theorem sc_are_needs : FnScope N_are_needs P_are_needs (defScope (top 9)) := C8.fnScope_by (by decide +kernel)
def cc_are_needs : CC := { N := N_are_needs, sc := defScope (top 9), cellOk := fun _ => true, fns := [("is_integer", Pg.sem_is_integer)], fnsM := [], kfns := [], cons := [("MOST_TIMES", (.int 200))], excs := [], mus := [], kills := [], fuel := Pg.fuel }
theorem is_are_needs : compSs (cc_are_needs) 40 40 (defBody (top 9)) = some (Pg.b_are_needs) := by kernel_rfl
/-! need_needs -/
def N_need_needs : List Str := ["thing"]
def P_need_needs : List Str := ["thing"]
theorem sc_need_needs : FnScope N_need_needs P_need_needs (defScope (top 10)) := C8.fnScope_by (by decide +kernel)
def cc_need_needs : CC := { N := N_need_needs, sc := defScope (top 10), cellOk := fun _ => true, fns := [("are_needs", Pg.sem_are_needs)], fnsM := [], kfns := [], cons := [], excs := [("InvalidNeeds", 7)], mus := [], kills := [], fuel := Pg.fuel }
theorem is_need_needs : compSs (cc_need_needs) 40 40 (defBody (top 10)) = some (Pg.b_need_needs) := by kernel_rfl
/-! add_all -/
def N_add_all : List Str := ["numbers", "found", "number"]
def P_add_all : List Str := ["numbers"]
theorem sc_add_all : FnScope N_add_all P_add_all (defScope (top 7)) := C8.fnScope_by (by decide +kernel)
def cc_add_all : CC := { N := N_add_all, sc := defScope (top 7), cellOk := fun _ => true, fns := [], fnsM := [], kfns := [], cons := [], excs := [], mus := [(13, 12, 15)], kills := [(14, [2])], fuel := Pg.fuel }
theorem is_add_all : compSs (cc_add_all) 40 40 (defBody (top 7)) = some (Pg.b_add_all) := by kernel_rfl
/-! greatest_sums -/
def N_greatest_sums : List Str := ["needs", "sums", "found", "many", "last"]
def P_greatest_sums : List Str := ["needs"]
theorem sc_greatest_sums : FnScope N_greatest_sums P_greatest_sums (defScope (top 12)) := C8.fnScope_by (by decide +kernel)
def cc_greatest_sums : CC := { N := N_greatest_sums, sc := defScope (top 12), cellOk := fun _ => true, fns := [("add_all", Pg.sem_add_all)], fnsM := [], kfns := [], cons := [], excs := [], mus := [(30, 12, 14)], kills := [(31, [3])], fuel := Pg.fuel }
theorem is_greatest_sums : compSs (cc_greatest_sums) 40 40 (defBody (top 12)) = some (Pg.b_greatest_sums) := by kernel_rfl
/-! whole_corners -/
def N_whole_corners : List Str := ["greatest", "found", "line", "index", "top", "bottom", "later", "over", "under"]
def P_whole_corners : List Str := ["greatest"]
theorem sc_whole_corners : FnScope N_whole_corners P_whole_corners (defScope (top 15)) := C8.fnScope_by (by decide +kernel)
def cc_whole_corners : CC := { N := N_whole_corners, sc := defScope (top 15), cellOk := fun _ => true, fns := [], fnsM := [], kfns := [], cons := [], excs := [], mus := [(41, 12, 15)], kills := [(43, [3, 4, 5, 6, 7, 8]), (45, [3, 7, 8])], fuel := Pg.fuel }
theorem is_whole_corners : compSs (cc_whole_corners) 40 40 (defBody (top 15)) = some (Pg.b_whole_corners) := by kernel_rfl
/-! buffer_for -/
def N_buffer_for : List Str := ["greatest", "rate", "index", "value"]
def P_buffer_for : List Str := ["greatest", "rate"]
theorem sc_buffer_for : FnScope N_buffer_for P_buffer_for (defScope (top 13)) := C8.fnScope_by (by decide +kernel)
def cc_buffer_for : CC := { N := N_buffer_for, sc := defScope (top 13), cellOk := fun _ => true, fns := [], fnsM := [], kfns := [], cons := [], excs := [], mus := [], kills := [], fuel := Pg.fuel }
theorem is_buffer_for : compSs (cc_buffer_for) 40 40 (defBody (top 13)) = some (Pg.b_buffer_for) := by kernel_rfl
/-! buffer_pieces -/
def N_buffer_pieces : List Str := ["needs", "greatest", "corners", "values", "found", "index", "fall", "rate", "low", "high"]
def P_buffer_pieces : List Str := ["needs"]
theorem sc_buffer_pieces : FnScope N_buffer_pieces P_buffer_pieces (defScope (top 16)) := C8.fnScope_by (by decide +kernel)
def cc_buffer_pieces : CC := { N := N_buffer_pieces, sc := defScope (top 16), cellOk := fun _ => true, fns := [("need_needs", Pg.sem_need_needs), ("greatest_sums", Pg.sem_greatest_sums), ("whole_corners", Pg.sem_whole_corners), ("buffer_for", Pg.sem_buffer_for)], fnsM := [], kfns := [], cons := [], excs := [], mus := [(57, 12, 14), (66, 15, 67), (67, 11, 55)], kills := [(58, [5, 6, 8, 9])], fuel := Pg.fuel }
theorem is_buffer_pieces : compSs (cc_buffer_pieces) 40 40 (defBody (top 16)) = some (Pg.b_buffer_pieces) := by kernel_rfl
/-! _law_shape_right -/
def N_law_shape_right : List Str := ["pieces", "ends", "falls", "one"]
def P_law_shape_right : List Str := ["pieces"]
theorem sc_law_shape_right : FnScope N_law_shape_right P_law_shape_right (defScope (top 26)) := C8.fnScope_by (by decide +kernel)
def cc_law_shape_right : CC := { N := N_law_shape_right, sc := defScope (top 26), cellOk := fun _ => true, fns := [], fnsM := [], kfns := [], cons := [], excs := [], mus := [], kills := [], fuel := Pg.fuel }
theorem is_law_shape_right : compSs (cc_law_shape_right) 40 40 (defBody (top 26)) = some (Pg.b_law_shape_right) := by kernel_rfl
/-! need_sizes -/
def N_need_sizes : List Str := ["numbers", "number"]
def P_need_sizes : List Str := ["numbers"]
theorem sc_need_sizes : FnScope N_need_sizes P_need_sizes (defScope (top 11)) := C8.fnScope_by (by decide +kernel)
def cc_need_sizes : CC := { N := N_need_sizes, sc := defScope (top 11), cellOk := fun _ => true, fns := [], fnsM := [], kfns := [], cons := [], excs := [("InvalidNumber", 5)], mus := [], kills := [], fuel := Pg.fuel }
theorem is_need_sizes : compSs (cc_need_sizes) 40 40 (defBody (top 11)) = some (Pg.b_need_sizes) := by kernel_rfl
/-! least_buffer -/
def N_least_buffer : List Str := ["needs", "rate"]
def P_least_buffer : List Str := ["needs", "rate"]
theorem sc_least_buffer : FnScope N_least_buffer P_least_buffer (defScope (top 14)) := C8.fnScope_by (by decide +kernel)
def cc_least_buffer : CC := { N := N_least_buffer, sc := defScope (top 14), cellOk := fun _ => true, fns := [("need_needs", Pg.sem_need_needs), ("need_sizes", Pg.sem_need_sizes), ("buffer_for", Pg.sem_buffer_for), ("greatest_sums", Pg.sem_greatest_sums)], fnsM := [], kfns := [], cons := [], excs := [], mus := [], kills := [], fuel := Pg.fuel }
theorem is_least_buffer : compSs (cc_least_buffer) 40 40 (defBody (top 14)) = some (Pg.b_least_buffer) := by kernel_rfl
/-! _law_buffer -/
def N_law_buffer : List Str := ["sizes", "pace", "size", "found", "here"]
def P_law_buffer : List Str := ["sizes", "pace"]
theorem sc_law_buffer : FnScope N_law_buffer P_law_buffer (defScope (top 24)) := C8.fnScope_by (by decide +kernel)
def cc_law_buffer : CC := { N := N_law_buffer, sc := defScope (top 24), cellOk := fun _ => true, fns := [], fnsM := [], kfns := [], cons := [], excs := [], mus := [], kills := [(107, [2])], fuel := Pg.fuel }
theorem is_law_buffer : compSs (cc_law_buffer) 40 40 (defBody (top 24)) = some (Pg.b_law_buffer) := by kernel_rfl
/-! _law_by_pieces -/
def N_law_by_pieces : List Str := ["pieces", "pace", "found", "low", "high", "value", "fall"]
def P_law_by_pieces : List Str := ["pieces", "pace"]
theorem sc_law_by_pieces : FnScope N_law_by_pieces P_law_by_pieces (defScope (top 25)) := C8.fnScope_by (by decide +kernel)
def cc_law_by_pieces : CC := { N := N_law_by_pieces, sc := defScope (top 25), cellOk := fun _ => true, fns := [], fnsM := [], kfns := [], cons := [], excs := [], mus := [(112, 12, 14)], kills := [(113, [3, 4, 5, 6])], fuel := Pg.fuel }
theorem is_law_by_pieces : compSs (cc_law_by_pieces) 40 40 (defBody (top 25)) = some (Pg.b_law_by_pieces) := by kernel_rfl
/-! _law_great_right -/
def N_law_great_right : List Str := ["bag", "far", "sizes", "pieces", "told", "low", "high", "value", "fall", "pace", "due", "one"]
def P_law_great_right : List Str := ["bag"]
theorem sc_law_great_right : FnScope N_law_great_right P_law_great_right (defScope (top 28)) := C8.fnScope_by (by decide +kernel)
def cc_law_great_right : CC := { N := N_law_great_right, sc := defScope (top 28), cellOk := fun _ => true, fns := [("_law_draw", Pg.sem_law_draw), ("_law_needs", Pg.sem_law_needs), ("_law_shape_right", Pg.sem_law_shape_right), ("least_buffer", Pg.sem_least_buffer), ("buffer_pieces", Pg.sem_buffer_pieces), ("_law_buffer", Pg.sem_law_buffer)], fnsM := [("buffer_pieces", Pg.semM_buffer_pieces), ("_law_by_pieces", Pg.semM_law_by_pieces)], kfns := [(("buffer_pieces", ["needs"]), fun ds => Pg.sem_buffer_pieces (byPerm [0] ds)), (("least_buffer", ["rate", "needs"]), fun ds => Pg.sem_least_buffer (byPerm [1, 0] ds))], cons := [], excs := [], mus := [(145, 11, 31), (152, 19, 47)], kills := [(149, [4, 5, 6, 7, 8, 9, 10]), (150, [4, 9, 10])], fuel := Pg.fuel }
theorem is_law_great_right : compSs (cc_law_great_right) 40 40 (defBody (top 28)) = some (Pg.b_law_great_right) := by kernel_rfl
/-! _law_small_right -/
def N_law_small_right : List Str := ["bag", "sizes", "pace", "values", "falls", "pieces", "top", "due", "one", "two"]
def P_law_small_right : List Str := ["bag"]
theorem sc_law_small_right : FnScope N_law_small_right P_law_small_right (defScope (top 27)) := C8.fnScope_by (by decide +kernel)
def cc_law_small_right : CC := { N := N_law_small_right, sc := defScope (top 27), cellOk := fun _ => true, fns := [("_law_needs", Pg.sem_law_needs), ("buffer_pieces", Pg.sem_buffer_pieces), ("_law_shape_right", Pg.sem_law_shape_right), ("_law_buffer", Pg.sem_law_buffer), ("_law_alike", Pg.sem_law_alike), ("least_buffer", Pg.sem_least_buffer), ("_law_by_pieces", Pg.sem_law_by_pieces)], fnsM := [], kfns := [], cons := [], excs := [], mus := [], kills := [(130, [2, 7])], fuel := Pg.fuel }
theorem is_law_small_right : compSs (cc_law_small_right) 40 40 (defBody (top 27)) = some (Pg.b_law_small_right) := by kernel_rfl
/-! law -/
def N_law : List Str := ["script", "bag", "turn", "told"]
def P_law : List Str := ["script"]
theorem sc_law : FnScope N_law P_law (defScope (top 29)) := C8.fnScope_by (by decide +kernel)
def cc_law : CC := { N := N_law, sc := defScope (top 29), cellOk := fun _ => true, fns := [("_law_small_right", Pg.sem_law_small_right), ("_law_great_right", Pg.sem_law_great_right), ("least_buffer", Pg.sem_least_buffer), ("buffer_pieces", Pg.sem_buffer_pieces), ("_law_alike", Pg.sem_law_alike)], fnsM := [("_law_bag", Pg.semM_law_bag)], kfns := [], cons := [], excs := [], mus := [(157, 10, 26), (163, 11, 94)], kills := [(158, [2])], fuel := Pg.fuel }
theorem is_law : compSs (cc_law) 40 40 (defBody (top 29)) = some (Pg.b_law) := by kernel_rfl
end K51

set_option Elab.async false
set_option linter.all false
set_option maxRecDepth 100000
set_option maxHeartbeats 4000000
namespace K51
open PySem PySem.Spec PyProof.Rows L2 Ev
/-! the head -/
def d_law_bag : He.DefD := ⟨("_law_bag", none), "_law_bag", "_law_bag", defArgs (top 18), defBody (top 18), defScope (top 18), [], []⟩
def d_law_alike : He.DefD := ⟨("_law_alike", none), "_law_alike", "_law_alike", defArgs (top 21), defBody (top 21), defScope (top 21), [], []⟩
def d_law_stirred : He.DefD := ⟨("_law_stirred", none), "_law_stirred", "_law_stirred", defArgs (top 19), defBody (top 19), defScope (top 19), [], []⟩
def d_law_draw : He.DefD := ⟨("_law_draw", none), "_law_draw", "_law_draw", defArgs (top 20), defBody (top 20), defScope (top 20), [], []⟩
def d_law_needs : He.DefD := ⟨("_law_needs", none), "_law_needs", "_law_needs", defArgs (top 22), defBody (top 22), defScope (top 22), [], []⟩
def d_is_integer : He.DefD := ⟨("is_integer", none), "is_integer", "is_integer", defArgs (top 6), defBody (top 6), defScope (top 6), [], []⟩
def d_are_needs : He.DefD := ⟨("are_needs", none), "are_needs", "are_needs", defArgs (top 9), defBody (top 9), defScope (top 9), [], []⟩
def d_need_needs : He.DefD := ⟨("need_needs", none), "need_needs", "need_needs", defArgs (top 10), defBody (top 10), defScope (top 10), [], []⟩
def d_add_all : He.DefD := ⟨("add_all", none), "add_all", "add_all", defArgs (top 7), defBody (top 7), defScope (top 7), [], []⟩
def d_greatest_sums : He.DefD := ⟨("greatest_sums", none), "greatest_sums", "greatest_sums", defArgs (top 12), defBody (top 12), defScope (top 12), [], []⟩
def d_whole_corners : He.DefD := ⟨("whole_corners", none), "whole_corners", "whole_corners", defArgs (top 15), defBody (top 15), defScope (top 15), [], []⟩
def d_buffer_for : He.DefD := ⟨("buffer_for", none), "buffer_for", "buffer_for", defArgs (top 13), defBody (top 13), defScope (top 13), [], []⟩
def d_buffer_pieces : He.DefD := ⟨("buffer_pieces", none), "buffer_pieces", "buffer_pieces", defArgs (top 16), defBody (top 16), defScope (top 16), [], []⟩
def d_law_shape_right : He.DefD := ⟨("_law_shape_right", none), "_law_shape_right", "_law_shape_right", defArgs (top 26), defBody (top 26), defScope (top 26), [], []⟩
def d_need_sizes : He.DefD := ⟨("need_sizes", none), "need_sizes", "need_sizes", defArgs (top 11), defBody (top 11), defScope (top 11), [], []⟩
def d_least_buffer : He.DefD := ⟨("least_buffer", none), "least_buffer", "least_buffer", defArgs (top 14), defBody (top 14), defScope (top 14), [], []⟩
def d_law_buffer : He.DefD := ⟨("_law_buffer", none), "_law_buffer", "_law_buffer", defArgs (top 24), defBody (top 24), defScope (top 24), [], []⟩
def d_law_by_pieces : He.DefD := ⟨("_law_by_pieces", none), "_law_by_pieces", "_law_by_pieces", defArgs (top 25), defBody (top 25), defScope (top 25), [], []⟩
def d_law_great_right : He.DefD := ⟨("_law_great_right", none), "_law_great_right", "_law_great_right", defArgs (top 28), defBody (top 28), defScope (top 28), [], []⟩
def d_law_small_right : He.DefD := ⟨("_law_small_right", none), "_law_small_right", "_law_small_right", defArgs (top 27), defBody (top 27), defScope (top 27), [], []⟩
def d_law : He.DefD := ⟨("law", none), "law", "law", defArgs (top 29), defBody (top 29), defScope (top 29), [], []⟩
def fn : List He.DefD := [d_law_bag, d_law_alike, d_law_stirred, d_law_draw, d_law_needs, d_is_integer, d_are_needs, d_need_needs, d_add_all, d_greatest_sums, d_whole_corners, d_buffer_for, d_buffer_pieces, d_law_shape_right, d_need_sizes, d_least_buffer, d_law_buffer, d_law_by_pieces, d_law_great_right, d_law_small_right, d_law]
def fa : List He.Fa := [.glo "_law_bag", .glo "_law_alike", .glo "_law_stirred", .glo "_law_draw", .glo "_law_needs", .glo "is_integer", .glo "are_needs", .glo "need_needs", .glo "add_all", .glo "greatest_sums", .glo "whole_corners", .glo "buffer_for", .glo "buffer_pieces", .glo "_law_shape_right", .glo "need_sizes", .glo "least_buffer", .glo "_law_buffer", .glo "_law_by_pieces", .glo "_law_great_right", .glo "_law_small_right", .glo "law", .free "len", .free "abs", .free "int", .free "str", .free "list", .free "tuple", .free "sum", .free "all", .free "any", .free "max", .free "min", .free "sorted", .free "range", .free "zip", .free "enumerate", .free "isinstance", .free "bool", .free "set", .int "MOST_TIMES" 200, .glo "InvalidNumber", .exc "InvalidNumber", .glo "InvalidNeeds", .exc "InvalidNeeds"]
def loose0 : List Str := ["MOST_TIMES", "EvenError", "InvalidNumber", "InvalidNeeds", "is_integer", "add_all", "are_needs", "need_needs", "need_sizes", "greatest_sums", "buffer_for", "least_buffer", "whole_corners", "buffer_pieces", "_law_bag", "_law_stirred", "_law_draw", "_law_alike", "_law_needs", "_law_taken", "_law_buffer", "_law_by_pieces", "_law_shape_right", "_law_small_right", "_law_great_right"]
def loose : List Str := loose0
abbrev R : PySem.W.OpenRow := PySem.W.OpenLaw.row PySem.Challenge.rw_evenbits_k51_least_buffers_and_their_pie
abbrev hk : PySem.W.Hook := He.hookD 6 fa fn
def ob (s : PySem.W.SharedT) : He.AlD := He.obsDG 6 fa fn (HandSHeadRun.getT s)
theorem ob_eq (s : PySem.W.SharedT) : ob s = hk.obs s.abs := He.obsDG_eq (HandSHeadRun.getT_eq s)
theorem run (w : World) : HandSHeadRun.RunEq R (PySem.W.view R.prog [29]) hk ob 20000 loose w := by
  intro os
  kernel_rfl
section
variable {P : Program} {w : World} {K : PySem.W.Frag} {h : Heap} {mg : Str → Option Value}
def clsN : List Str := ["EvenError", "InvalidPlan", "InvalidRow", "InvalidTime", "InvalidSide", "InvalidNumber", "InvalidPrice", "InvalidNeeds", "InvalidStreams", "InvalidIndex", "NothingToUndo", "NoRow", "InvalidText", "Plan", "Sender", "Session"]
def clsF : List (List Str) := [[], [], [], [], [], [], [], [], [], [], [], [], [], [], [], []]
def kit (K : PySem.W.Frag) : Kit := ⟨K, fun c => He.ga K (clsN.getD c ""), fun c => clsF.getD c []⟩
theorem noblt (X : K.In h) (G : h.Ns mainGlobals mg) (c : He.SaysD fa fn K) : ∀ x ∈ blts, mg x = none := List.forall_mem_cons.2 ⟨He.free_ok X G (c.fact 21 (f := .free "len") rfl), List.forall_mem_cons.2 ⟨He.free_ok X G (c.fact 22 (f := .free "abs") rfl), List.forall_mem_cons.2 ⟨He.free_ok X G (c.fact 23 (f := .free "int") rfl), List.forall_mem_cons.2 ⟨He.free_ok X G (c.fact 24 (f := .free "str") rfl), List.forall_mem_cons.2 ⟨He.free_ok X G (c.fact 25 (f := .free "list") rfl), List.forall_mem_cons.2 ⟨He.free_ok X G (c.fact 26 (f := .free "tuple") rfl), List.forall_mem_cons.2 ⟨He.free_ok X G (c.fact 27 (f := .free "sum") rfl), List.forall_mem_cons.2 ⟨He.free_ok X G (c.fact 28 (f := .free "all") rfl), List.forall_mem_cons.2 ⟨He.free_ok X G (c.fact 29 (f := .free "any") rfl), List.forall_mem_cons.2 ⟨He.free_ok X G (c.fact 30 (f := .free "max") rfl), List.forall_mem_cons.2 ⟨He.free_ok X G (c.fact 31 (f := .free "min") rfl), List.forall_mem_cons.2 ⟨He.free_ok X G (c.fact 32 (f := .free "sorted") rfl), List.forall_mem_cons.2 ⟨He.free_ok X G (c.fact 33 (f := .free "range") rfl), List.forall_mem_cons.2 ⟨He.free_ok X G (c.fact 34 (f := .free "zip") rfl), List.forall_mem_cons.2 ⟨He.free_ok X G (c.fact 35 (f := .free "enumerate") rfl), List.forall_mem_cons.2 ⟨He.free_ok X G (c.fact 36 (f := .free "isinstance") rfl), List.forall_mem_cons.2 ⟨He.free_ok X G (c.fact 37 (f := .free "bool") rfl), List.forall_mem_cons.2 ⟨He.free_ok X G (c.fact 38 (f := .free "set") rfl), List.forall_mem_nil _⟩⟩⟩⟩⟩⟩⟩⟩⟩⟩⟩⟩⟩⟩⟩⟩⟩⟩
theorem ex_InvalidNumber (X : K.In h) (G : h.Ns mainGlobals mg) (c : He.SaysD fa fn K) : ExcC K mg (kit K) "InvalidNumber" 5 := by
  obtain ⟨h1, h2, h3, h4⟩ := He.exc_ok (c.fact 41 (f := .exc "InvalidNumber") rfl)
  exact ⟨He.glo_ok X G (c.fact 40 (f := .glo "InvalidNumber") rfl), h1, h2, h3, h4, by decide⟩
theorem ex_InvalidNeeds (X : K.In h) (G : h.Ns mainGlobals mg) (c : He.SaysD fa fn K) : ExcC K mg (kit K) "InvalidNeeds" 7 := by
  obtain ⟨h1, h2, h3, h4⟩ := He.exc_ok (c.fact 43 (f := .exc "InvalidNeeds") rfl)
  exact ⟨He.glo_ok X G (c.fact 42 (f := .glo "InvalidNeeds") rfl), h1, h2, h3, h4, by decide⟩
theorem con_MOST_TIMES (X : K.In h) (G : h.Ns mainGlobals mg) (c : He.SaysD fa fn K) : ∃ u v, mg "MOST_TIMES" = some u ∧ RelV v u ∧ ∀ G, Rep (kit K) G (.int 200) v := by
  obtain ⟨t, e⟩ := He.int_ok X G (c.fact 39 (f := .int "MOST_TIMES" 200) rfl)
  exact ⟨_, .int 200, e, ⟨t, rfl⟩, fun _ => by simp only [Rep]⟩
theorem fd_law_bag (c : He.SaysD fa fn K) : ∃ fd, FunD K "_law_bag" "_law_bag" (defArgs (top 18)) (defBody (top 18)) (defScope (top 18)) [] [] (He.ga K "_law_bag") fd := c.def_ 0 (d := d_law_bag) rfl
theorem fc_law_bag (X : K.In h) (G : h.Ns mainGlobals mg) (c : He.SaysD fa fn K) (base : Heap) : FnC P w K mg base (kit K) 1 "_law_bag" Pg.sem_law_bag := by
  obtain ⟨fd, F⟩ := fd_law_bag c
  exact (fnC_of (T := kit K) (C := cc_law_bag) (k := 0) (He.glo_ok X G (c.fact 0 (f := .glo "_law_bag") rfl)) F sc_law_bag ⟨rfl, lk_nil, lk_nil, lk2_nil, lk_nil, lk_nil, noblt X G c⟩ (fun _ _ _ _ _ _ us hl => match us, hl with | [_], _ => rfl) rfl rfl is_law_bag).io [] false
theorem fcM_law_bag (X : K.In h) (G : h.Ns mainGlobals mg) (c : He.SaysD fa fn K) (base : Heap) : FnC P w K mg base (kit K) 1 "_law_bag" Pg.semM_law_bag := by
  obtain ⟨fd, F⟩ := fd_law_bag c
  exact (fnC_of (T := kit K) (C := cc_law_bag) (k := 0) (He.glo_ok X G (c.fact 0 (f := .glo "_law_bag") rfl)) F sc_law_bag ⟨rfl, lk_nil, lk_nil, lk2_nil, lk_nil, lk_nil, noblt X G c⟩ (fun _ _ _ _ _ _ us hl => match us, hl with | [_], _ => rfl) rfl rfl is_law_bag).io [] true
theorem fd_law_alike (c : He.SaysD fa fn K) : ∃ fd, FunD K "_law_alike" "_law_alike" (defArgs (top 21)) (defBody (top 21)) (defScope (top 21)) [] [] (He.ga K "_law_alike") fd := c.def_ 1 (d := d_law_alike) rfl
theorem fr_law_alike (X : K.In h) (G : h.Ns mainGlobals mg) (c : He.SaysD fa fn K) (base : Heap) : ∀ n : Nat, FnC P w K mg base (kit K) (0 + n) "_law_alike" (Pg.sem0_law_alike n)
  | 0 => by
    obtain ⟨fd, F⟩ := fd_law_alike c
    exact fnC_stuck (ps := P_law_alike) (He.glo_ok X G (c.fact 1 (f := .glo "_law_alike") rfl)) F (fun _ _ _ _ _ _ us hl => match us, hl with | [_, _], _ => rfl)
  | n + 1 => by
    obtain ⟨fd, F⟩ := fd_law_alike c
    exact (fnC_of (T := kit K) (C := cc_law_alike (Pg.sem0_law_alike n)) (k := 0 + n) (He.glo_ok X G (c.fact 1 (f := .glo "_law_alike") rfl)) F sc_law_alike ⟨rfl, (lk_cons (fr_law_alike X G c base n) lk_nil), lk_nil, lk2_nil, lk_nil, lk_nil, noblt X G c⟩ (fun _ _ _ _ _ _ us hl => match us, hl with | [_, _], _ => rfl) rfl rfl (is_law_alike _)).io [] false
theorem fc_law_alike (X : K.In h) (G : h.Ns mainGlobals mg) (c : He.SaysD fa fn K) (base : Heap) : FnC P w K mg base (kit K) 6 "_law_alike" Pg.sem_law_alike := fr_law_alike X G c base 6
theorem fd_law_stirred (c : He.SaysD fa fn K) : ∃ fd, FunD K "_law_stirred" "_law_stirred" (defArgs (top 19)) (defBody (top 19)) (defScope (top 19)) [] [] (He.ga K "_law_stirred") fd := c.def_ 2 (d := d_law_stirred) rfl
theorem fc_law_stirred (X : K.In h) (G : h.Ns mainGlobals mg) (c : He.SaysD fa fn K) (base : Heap) : FnC P w K mg base (kit K) 1 "_law_stirred" Pg.sem_law_stirred := by
  obtain ⟨fd, F⟩ := fd_law_stirred c
  exact (fnC_of (T := kit K) (C := cc_law_stirred) (k := 0) (He.glo_ok X G (c.fact 2 (f := .glo "_law_stirred") rfl)) F sc_law_stirred ⟨rfl, lk_nil, lk_nil, lk2_nil, lk_nil, lk_nil, noblt X G c⟩ (fun _ _ _ _ _ _ us hl => match us, hl with | [_, _], _ => rfl) rfl rfl is_law_stirred).io [true] false
theorem fcM_law_stirred (X : K.In h) (G : h.Ns mainGlobals mg) (c : He.SaysD fa fn K) (base : Heap) : FnC P w K mg base (kit K) 1 "_law_stirred" Pg.semM_law_stirred := by
  obtain ⟨fd, F⟩ := fd_law_stirred c
  exact (fnC_of (T := kit K) (C := cc_law_stirred) (k := 0) (He.glo_ok X G (c.fact 2 (f := .glo "_law_stirred") rfl)) F sc_law_stirred ⟨rfl, lk_nil, lk_nil, lk2_nil, lk_nil, lk_nil, noblt X G c⟩ (fun _ _ _ _ _ _ us hl => match us, hl with | [_, _], _ => rfl) rfl rfl is_law_stirred).io [true] true
theorem fd_law_draw (c : He.SaysD fa fn K) : ∃ fd, FunD K "_law_draw" "_law_draw" (defArgs (top 20)) (defBody (top 20)) (defScope (top 20)) [] [] (He.ga K "_law_draw") fd := c.def_ 3 (d := d_law_draw) rfl
theorem fc_law_draw (X : K.In h) (G : h.Ns mainGlobals mg) (c : He.SaysD fa fn K) (base : Heap) : FnC P w K mg base (kit K) 2 "_law_draw" Pg.sem_law_draw := by
  obtain ⟨fd, F⟩ := fd_law_draw c
  exact (fnC_of (T := kit K) (C := cc_law_draw) (k := 1) (He.glo_ok X G (c.fact 3 (f := .glo "_law_draw") rfl)) F sc_law_draw ⟨rfl, (lk_cons ((fc_law_stirred X G c base).mono (by decide)) lk_nil), lk_nil, lk2_nil, lk_nil, lk_nil, noblt X G c⟩ (fun _ _ _ _ _ _ us hl => match us, hl with | [_, _], _ => rfl) rfl rfl is_law_draw).io [true] false
theorem fcM_law_draw (X : K.In h) (G : h.Ns mainGlobals mg) (c : He.SaysD fa fn K) (base : Heap) : FnC P w K mg base (kit K) 2 "_law_draw" Pg.semM_law_draw := by
  obtain ⟨fd, F⟩ := fd_law_draw c
  exact (fnC_of (T := kit K) (C := cc_law_draw) (k := 1) (He.glo_ok X G (c.fact 3 (f := .glo "_law_draw") rfl)) F sc_law_draw ⟨rfl, (lk_cons ((fc_law_stirred X G c base).mono (by decide)) lk_nil), lk_nil, lk2_nil, lk_nil, lk_nil, noblt X G c⟩ (fun _ _ _ _ _ _ us hl => match us, hl with | [_, _], _ => rfl) rfl rfl is_law_draw).io [true] true
theorem fd_law_needs (c : He.SaysD fa fn K) : ∃ fd, FunD K "_law_needs" "_law_needs" (defArgs (top 22)) (defBody (top 22)) (defScope (top 22)) [] [] (He.ga K "_law_needs") fd := c.def_ 4 (d := d_law_needs) rfl
theorem fc_law_needs (X : K.In h) (G : h.Ns mainGlobals mg) (c : He.SaysD fa fn K) (base : Heap) : FnC P w K mg base (kit K) 3 "_law_needs" Pg.sem_law_needs := by
  obtain ⟨fd, F⟩ := fd_law_needs c
  exact (fnC_of (T := kit K) (C := cc_law_needs) (k := 2) (He.glo_ok X G (c.fact 4 (f := .glo "_law_needs") rfl)) F sc_law_needs ⟨rfl, (lk_cons ((fc_law_draw X G c base).mono (by decide)) lk_nil), lk_nil, lk2_nil, lk_nil, lk_nil, noblt X G c⟩ (fun _ _ _ _ _ _ us hl => match us, hl with | [_, _, _], _ => rfl) rfl rfl is_law_needs).io [true] false
theorem fcM_law_needs (X : K.In h) (G : h.Ns mainGlobals mg) (c : He.SaysD fa fn K) (base : Heap) : FnC P w K mg base (kit K) 3 "_law_needs" Pg.semM_law_needs := by
  obtain ⟨fd, F⟩ := fd_law_needs c
  exact (fnC_of (T := kit K) (C := cc_law_needs) (k := 2) (He.glo_ok X G (c.fact 4 (f := .glo "_law_needs") rfl)) F sc_law_needs ⟨rfl, (lk_cons ((fc_law_draw X G c base).mono (by decide)) lk_nil), lk_nil, lk2_nil, lk_nil, lk_nil, noblt X G c⟩ (fun _ _ _ _ _ _ us hl => match us, hl with | [_, _, _], _ => rfl) rfl rfl is_law_needs).io [true] true
theorem fd_is_integer (c : He.SaysD fa fn K) : ∃ fd, FunD K "is_integer" "is_integer" (defArgs (top 6)) (defBody (top 6)) (defScope (top 6)) [] [] (He.ga K "is_integer") fd := c.def_ 5 (d := d_is_integer) rfl
theorem fc_is_integer (X : K.In h) (G : h.Ns mainGlobals mg) (c : He.SaysD fa fn K) (base : Heap) : FnC P w K mg base (kit K) 1 "is_integer" Pg.sem_is_integer := by
  obtain ⟨fd, F⟩ := fd_is_integer c
  exact (fnC_of (T := kit K) (C := cc_is_integer) (k := 0) (He.glo_ok X G (c.fact 5 (f := .glo "is_integer") rfl)) F sc_is_integer ⟨rfl, lk_nil, lk_nil, lk2_nil, lk_nil, lk_nil, noblt X G c⟩ (fun _ _ _ _ _ _ us hl => match us, hl with | [_], _ => rfl) rfl rfl is_is_integer).io [] false
theorem fcM_is_integer (X : K.In h) (G : h.Ns mainGlobals mg) (c : He.SaysD fa fn K) (base : Heap) : FnC P w K mg base (kit K) 1 "is_integer" Pg.semM_is_integer := by
  obtain ⟨fd, F⟩ := fd_is_integer c
  exact (fnC_of (T := kit K) (C := cc_is_integer) (k := 0) (He.glo_ok X G (c.fact 5 (f := .glo "is_integer") rfl)) F sc_is_integer ⟨rfl, lk_nil, lk_nil, lk2_nil, lk_nil, lk_nil, noblt X G c⟩ (fun _ _ _ _ _ _ us hl => match us, hl with | [_], _ => rfl) rfl rfl is_is_integer).io [] true
theorem fd_are_needs (c : He.SaysD fa fn K) : ∃ fd, FunD K "are_needs" "are_needs" (defArgs (top 9)) (defBody (top 9)) (defScope (top 9)) [] [] (He.ga K "are_needs") fd := c.def_ 6 (d := d_are_needs) rfl
theorem fc_are_needs (X : K.In h) (G : h.Ns mainGlobals mg) (c : He.SaysD fa fn K) (base : Heap) : FnC P w K mg base (kit K) 2 "are_needs" Pg.sem_are_needs := by
  obtain ⟨fd, F⟩ := fd_are_needs c
  exact (fnC_of (T := kit K) (C := cc_are_needs) (k := 1) (He.glo_ok X G (c.fact 6 (f := .glo "are_needs") rfl)) F sc_are_needs ⟨rfl, (lk_cons ((fc_is_integer X G c base).mono (by decide)) lk_nil), lk_nil, lk2_nil, (lk_cons (con_MOST_TIMES X G c) lk_nil), lk_nil, noblt X G c⟩ (fun _ _ _ _ _ _ us hl => match us, hl with | [_], _ => rfl) rfl rfl is_are_needs).io [] false
theorem fcM_are_needs (X : K.In h) (G : h.Ns mainGlobals mg) (c : He.SaysD fa fn K) (base : Heap) : FnC P w K mg base (kit K) 2 "are_needs" Pg.semM_are_needs := by
  obtain ⟨fd, F⟩ := fd_are_needs c
  exact (fnC_of (T := kit K) (C := cc_are_needs) (k := 1) (He.glo_ok X G (c.fact 6 (f := .glo "are_needs") rfl)) F sc_are_needs ⟨rfl, (lk_cons ((fc_is_integer X G c base).mono (by decide)) lk_nil), lk_nil, lk2_nil, (lk_cons (con_MOST_TIMES X G c) lk_nil), lk_nil, noblt X G c⟩ (fun _ _ _ _ _ _ us hl => match us, hl with | [_], _ => rfl) rfl rfl is_are_needs).io [] true
theorem fd_need_needs (c : He.SaysD fa fn K) : ∃ fd, FunD K "need_needs" "need_needs" (defArgs (top 10)) (defBody (top 10)) (defScope (top 10)) [] [] (He.ga K "need_needs") fd := c.def_ 7 (d := d_need_needs) rfl
theorem fc_need_needs (X : K.In h) (G : h.Ns mainGlobals mg) (c : He.SaysD fa fn K) (base : Heap) : FnC P w K mg base (kit K) 3 "need_needs" Pg.sem_need_needs := by
  obtain ⟨fd, F⟩ := fd_need_needs c
  exact (fnC_of (T := kit K) (C := cc_need_needs) (k := 2) (He.glo_ok X G (c.fact 7 (f := .glo "need_needs") rfl)) F sc_need_needs ⟨rfl, (lk_cons ((fc_are_needs X G c base).mono (by decide)) lk_nil), lk_nil, lk2_nil, lk_nil, (lk_cons (ex_InvalidNeeds X G c) lk_nil), noblt X G c⟩ (fun _ _ _ _ _ _ us hl => match us, hl with | [_], _ => rfl) rfl rfl is_need_needs).io [] false
theorem fcM_need_needs (X : K.In h) (G : h.Ns mainGlobals mg) (c : He.SaysD fa fn K) (base : Heap) : FnC P w K mg base (kit K) 3 "need_needs" Pg.semM_need_needs := by
  obtain ⟨fd, F⟩ := fd_need_needs c
  exact (fnC_of (T := kit K) (C := cc_need_needs) (k := 2) (He.glo_ok X G (c.fact 7 (f := .glo "need_needs") rfl)) F sc_need_needs ⟨rfl, (lk_cons ((fc_are_needs X G c base).mono (by decide)) lk_nil), lk_nil, lk2_nil, lk_nil, (lk_cons (ex_InvalidNeeds X G c) lk_nil), noblt X G c⟩ (fun _ _ _ _ _ _ us hl => match us, hl with | [_], _ => rfl) rfl rfl is_need_needs).io [] true
theorem fd_add_all (c : He.SaysD fa fn K) : ∃ fd, FunD K "add_all" "add_all" (defArgs (top 7)) (defBody (top 7)) (defScope (top 7)) [] [] (He.ga K "add_all") fd := c.def_ 8 (d := d_add_all) rfl
theorem fc_add_all (X : K.In h) (G : h.Ns mainGlobals mg) (c : He.SaysD fa fn K) (base : Heap) : FnC P w K mg base (kit K) 1 "add_all" Pg.sem_add_all := by
  obtain ⟨fd, F⟩ := fd_add_all c
  exact (fnC_of (T := kit K) (C := cc_add_all) (k := 0) (He.glo_ok X G (c.fact 8 (f := .glo "add_all") rfl)) F sc_add_all ⟨rfl, lk_nil, lk_nil, lk2_nil, lk_nil, lk_nil, noblt X G c⟩ (fun _ _ _ _ _ _ us hl => match us, hl with | [_], _ => rfl) rfl rfl is_add_all).io [] false
theorem fcM_add_all (X : K.In h) (G : h.Ns mainGlobals mg) (c : He.SaysD fa fn K) (base : Heap) : FnC P w K mg base (kit K) 1 "add_all" Pg.semM_add_all := by
  obtain ⟨fd, F⟩ := fd_add_all c
  exact (fnC_of (T := kit K) (C := cc_add_all) (k := 0) (He.glo_ok X G (c.fact 8 (f := .glo "add_all") rfl)) F sc_add_all ⟨rfl, lk_nil, lk_nil, lk2_nil, lk_nil, lk_nil, noblt X G c⟩ (fun _ _ _ _ _ _ us hl => match us, hl with | [_], _ => rfl) rfl rfl is_add_all).io [] true
theorem fd_greatest_sums (c : He.SaysD fa fn K) : ∃ fd, FunD K "greatest_sums" "greatest_sums" (defArgs (top 12)) (defBody (top 12)) (defScope (top 12)) [] [] (He.ga K "greatest_sums") fd := c.def_ 9 (d := d_greatest_sums) rfl
theorem fc_greatest_sums (X : K.In h) (G : h.Ns mainGlobals mg) (c : He.SaysD fa fn K) (base : Heap) : FnC P w K mg base (kit K) 2 "greatest_sums" Pg.sem_greatest_sums := by
  obtain ⟨fd, F⟩ := fd_greatest_sums c
  exact (fnC_of (T := kit K) (C := cc_greatest_sums) (k := 1) (He.glo_ok X G (c.fact 9 (f := .glo "greatest_sums") rfl)) F sc_greatest_sums ⟨rfl, (lk_cons ((fc_add_all X G c base).mono (by decide)) lk_nil), lk_nil, lk2_nil, lk_nil, lk_nil, noblt X G c⟩ (fun _ _ _ _ _ _ us hl => match us, hl with | [_], _ => rfl) rfl rfl is_greatest_sums).io [] false
theorem fcM_greatest_sums (X : K.In h) (G : h.Ns mainGlobals mg) (c : He.SaysD fa fn K) (base : Heap) : FnC P w K mg base (kit K) 2 "greatest_sums" Pg.semM_greatest_sums := by
  obtain ⟨fd, F⟩ := fd_greatest_sums c
  exact (fnC_of (T := kit K) (C := cc_greatest_sums) (k := 1) (He.glo_ok X G (c.fact 9 (f := .glo "greatest_sums") rfl)) F sc_greatest_sums ⟨rfl, (lk_cons ((fc_add_all X G c base).mono (by decide)) lk_nil), lk_nil, lk2_nil, lk_nil, lk_nil, noblt X G c⟩ (fun _ _ _ _ _ _ us hl => match us, hl with | [_], _ => rfl) rfl rfl is_greatest_sums).io [] true
theorem fd_whole_corners (c : He.SaysD fa fn K) : ∃ fd, FunD K "whole_corners" "whole_corners" (defArgs (top 15)) (defBody (top 15)) (defScope (top 15)) [] [] (He.ga K "whole_corners") fd := c.def_ 10 (d := d_whole_corners) rfl
theorem fc_whole_corners (X : K.In h) (G : h.Ns mainGlobals mg) (c : He.SaysD fa fn K) (base : Heap) : FnC P w K mg base (kit K) 1 "whole_corners" Pg.sem_whole_corners := by
  obtain ⟨fd, F⟩ := fd_whole_corners c
  exact (fnC_of (T := kit K) (C := cc_whole_corners) (k := 0) (He.glo_ok X G (c.fact 10 (f := .glo "whole_corners") rfl)) F sc_whole_corners ⟨rfl, lk_nil, lk_nil, lk2_nil, lk_nil, lk_nil, noblt X G c⟩ (fun _ _ _ _ _ _ us hl => match us, hl with | [_], _ => rfl) rfl rfl is_whole_corners).io [] false
theorem fcM_whole_corners (X : K.In h) (G : h.Ns mainGlobals mg) (c : He.SaysD fa fn K) (base : Heap) : FnC P w K mg base (kit K) 1 "whole_corners" Pg.semM_whole_corners := by
  obtain ⟨fd, F⟩ := fd_whole_corners c
  exact (fnC_of (T := kit K) (C := cc_whole_corners) (k := 0) (He.glo_ok X G (c.fact 10 (f := .glo "whole_corners") rfl)) F sc_whole_corners ⟨rfl, lk_nil, lk_nil, lk2_nil, lk_nil, lk_nil, noblt X G c⟩ (fun _ _ _ _ _ _ us hl => match us, hl with | [_], _ => rfl) rfl rfl is_whole_corners).io [] true
theorem fd_buffer_for (c : He.SaysD fa fn K) : ∃ fd, FunD K "buffer_for" "buffer_for" (defArgs (top 13)) (defBody (top 13)) (defScope (top 13)) [] [] (He.ga K "buffer_for") fd := c.def_ 11 (d := d_buffer_for) rfl
theorem fc_buffer_for (X : K.In h) (G : h.Ns mainGlobals mg) (c : He.SaysD fa fn K) (base : Heap) : FnC P w K mg base (kit K) 1 "buffer_for" Pg.sem_buffer_for := by
  obtain ⟨fd, F⟩ := fd_buffer_for c
  exact (fnC_of (T := kit K) (C := cc_buffer_for) (k := 0) (He.glo_ok X G (c.fact 11 (f := .glo "buffer_for") rfl)) F sc_buffer_for ⟨rfl, lk_nil, lk_nil, lk2_nil, lk_nil, lk_nil, noblt X G c⟩ (fun _ _ _ _ _ _ us hl => match us, hl with | [_, _], _ => rfl) rfl rfl is_buffer_for).io [] false
theorem fcM_buffer_for (X : K.In h) (G : h.Ns mainGlobals mg) (c : He.SaysD fa fn K) (base : Heap) : FnC P w K mg base (kit K) 1 "buffer_for" Pg.semM_buffer_for := by
  obtain ⟨fd, F⟩ := fd_buffer_for c
  exact (fnC_of (T := kit K) (C := cc_buffer_for) (k := 0) (He.glo_ok X G (c.fact 11 (f := .glo "buffer_for") rfl)) F sc_buffer_for ⟨rfl, lk_nil, lk_nil, lk2_nil, lk_nil, lk_nil, noblt X G c⟩ (fun _ _ _ _ _ _ us hl => match us, hl with | [_, _], _ => rfl) rfl rfl is_buffer_for).io [] true
theorem fd_buffer_pieces (c : He.SaysD fa fn K) : ∃ fd, FunD K "buffer_pieces" "buffer_pieces" (defArgs (top 16)) (defBody (top 16)) (defScope (top 16)) [] [] (He.ga K "buffer_pieces") fd := c.def_ 12 (d := d_buffer_pieces) rfl
theorem fc_buffer_pieces (X : K.In h) (G : h.Ns mainGlobals mg) (c : He.SaysD fa fn K) (base : Heap) : FnC P w K mg base (kit K) 4 "buffer_pieces" Pg.sem_buffer_pieces := by
  obtain ⟨fd, F⟩ := fd_buffer_pieces c
  exact (fnC_of (T := kit K) (C := cc_buffer_pieces) (k := 3) (He.glo_ok X G (c.fact 12 (f := .glo "buffer_pieces") rfl)) F sc_buffer_pieces ⟨rfl, (lk_cons ((fc_need_needs X G c base).mono (by decide)) (lk_cons ((fc_greatest_sums X G c base).mono (by decide)) (lk_cons ((fc_whole_corners X G c base).mono (by decide)) (lk_cons ((fc_buffer_for X G c base).mono (by decide)) lk_nil)))), lk_nil, lk2_nil, lk_nil, lk_nil, noblt X G c⟩ (fun _ _ _ _ _ _ us hl => match us, hl with | [_], _ => rfl) rfl rfl is_buffer_pieces).io [] false
theorem fcM_buffer_pieces (X : K.In h) (G : h.Ns mainGlobals mg) (c : He.SaysD fa fn K) (base : Heap) : FnC P w K mg base (kit K) 4 "buffer_pieces" Pg.semM_buffer_pieces := by
  obtain ⟨fd, F⟩ := fd_buffer_pieces c
  exact (fnC_of (T := kit K) (C := cc_buffer_pieces) (k := 3) (He.glo_ok X G (c.fact 12 (f := .glo "buffer_pieces") rfl)) F sc_buffer_pieces ⟨rfl, (lk_cons ((fc_need_needs X G c base).mono (by decide)) (lk_cons ((fc_greatest_sums X G c base).mono (by decide)) (lk_cons ((fc_whole_corners X G c base).mono (by decide)) (lk_cons ((fc_buffer_for X G c base).mono (by decide)) lk_nil)))), lk_nil, lk2_nil, lk_nil, lk_nil, noblt X G c⟩ (fun _ _ _ _ _ _ us hl => match us, hl with | [_], _ => rfl) rfl rfl is_buffer_pieces).io [] true
theorem kc_buffer_pieces_needs (X : K.In h) (G : h.Ns mainGlobals mg) (c : He.SaysD fa fn K) (base : Heap) : FnKC P w K mg base (kit K) 4 "buffer_pieces" ["needs"] (fun ds => Pg.sem_buffer_pieces (byPerm [0] ds)) := by
  obtain ⟨fd, F⟩ := fd_buffer_pieces c
  exact fnKC_of (T := kit K) (C := cc_buffer_pieces) (k := 3) (He.glo_ok X G (c.fact 12 (f := .glo "buffer_pieces") rfl)) F sc_buffer_pieces ⟨rfl, (lk_cons ((fc_need_needs X G c base).mono (by decide)) (lk_cons ((fc_greatest_sums X G c base).mono (by decide)) (lk_cons ((fc_whole_corners X G c base).mono (by decide)) (lk_cons ((fc_buffer_for X G c base).mono (by decide)) lk_nil)))), lk_nil, lk2_nil, lk_nil, lk_nil, noblt X G c⟩ [] false (fun _ _ _ _ _ _ ws hl => match ws, hl with | [_], _ => rfl) rfl rfl is_buffer_pieces
theorem fd_law_shape_right (c : He.SaysD fa fn K) : ∃ fd, FunD K "_law_shape_right" "_law_shape_right" (defArgs (top 26)) (defBody (top 26)) (defScope (top 26)) [] [] (He.ga K "_law_shape_right") fd := c.def_ 13 (d := d_law_shape_right) rfl
theorem fc_law_shape_right (X : K.In h) (G : h.Ns mainGlobals mg) (c : He.SaysD fa fn K) (base : Heap) : FnC P w K mg base (kit K) 1 "_law_shape_right" Pg.sem_law_shape_right := by
  obtain ⟨fd, F⟩ := fd_law_shape_right c
  exact (fnC_of (T := kit K) (C := cc_law_shape_right) (k := 0) (He.glo_ok X G (c.fact 13 (f := .glo "_law_shape_right") rfl)) F sc_law_shape_right ⟨rfl, lk_nil, lk_nil, lk2_nil, lk_nil, lk_nil, noblt X G c⟩ (fun _ _ _ _ _ _ us hl => match us, hl with | [_], _ => rfl) rfl rfl is_law_shape_right).io [] false
theorem fcM_law_shape_right (X : K.In h) (G : h.Ns mainGlobals mg) (c : He.SaysD fa fn K) (base : Heap) : FnC P w K mg base (kit K) 1 "_law_shape_right" Pg.semM_law_shape_right := by
  obtain ⟨fd, F⟩ := fd_law_shape_right c
  exact (fnC_of (T := kit K) (C := cc_law_shape_right) (k := 0) (He.glo_ok X G (c.fact 13 (f := .glo "_law_shape_right") rfl)) F sc_law_shape_right ⟨rfl, lk_nil, lk_nil, lk2_nil, lk_nil, lk_nil, noblt X G c⟩ (fun _ _ _ _ _ _ us hl => match us, hl with | [_], _ => rfl) rfl rfl is_law_shape_right).io [] true
theorem fd_need_sizes (c : He.SaysD fa fn K) : ∃ fd, FunD K "need_sizes" "need_sizes" (defArgs (top 11)) (defBody (top 11)) (defScope (top 11)) [] [] (He.ga K "need_sizes") fd := c.def_ 14 (d := d_need_sizes) rfl
theorem fc_need_sizes (X : K.In h) (G : h.Ns mainGlobals mg) (c : He.SaysD fa fn K) (base : Heap) : FnC P w K mg base (kit K) 1 "need_sizes" Pg.sem_need_sizes := by
  obtain ⟨fd, F⟩ := fd_need_sizes c
  exact (fnC_of (T := kit K) (C := cc_need_sizes) (k := 0) (He.glo_ok X G (c.fact 14 (f := .glo "need_sizes") rfl)) F sc_need_sizes ⟨rfl, lk_nil, lk_nil, lk2_nil, lk_nil, (lk_cons (ex_InvalidNumber X G c) lk_nil), noblt X G c⟩ (fun _ _ _ _ _ _ us hl => match us, hl with | [_], _ => rfl) rfl rfl is_need_sizes).io [] false
theorem fcM_need_sizes (X : K.In h) (G : h.Ns mainGlobals mg) (c : He.SaysD fa fn K) (base : Heap) : FnC P w K mg base (kit K) 1 "need_sizes" Pg.semM_need_sizes := by
  obtain ⟨fd, F⟩ := fd_need_sizes c
  exact (fnC_of (T := kit K) (C := cc_need_sizes) (k := 0) (He.glo_ok X G (c.fact 14 (f := .glo "need_sizes") rfl)) F sc_need_sizes ⟨rfl, lk_nil, lk_nil, lk2_nil, lk_nil, (lk_cons (ex_InvalidNumber X G c) lk_nil), noblt X G c⟩ (fun _ _ _ _ _ _ us hl => match us, hl with | [_], _ => rfl) rfl rfl is_need_sizes).io [] true
theorem fd_least_buffer (c : He.SaysD fa fn K) : ∃ fd, FunD K "least_buffer" "least_buffer" (defArgs (top 14)) (defBody (top 14)) (defScope (top 14)) [] [] (He.ga K "least_buffer") fd := c.def_ 15 (d := d_least_buffer) rfl
theorem fc_least_buffer (X : K.In h) (G : h.Ns mainGlobals mg) (c : He.SaysD fa fn K) (base : Heap) : FnC P w K mg base (kit K) 4 "least_buffer" Pg.sem_least_buffer := by
  obtain ⟨fd, F⟩ := fd_least_buffer c
  exact (fnC_of (T := kit K) (C := cc_least_buffer) (k := 3) (He.glo_ok X G (c.fact 15 (f := .glo "least_buffer") rfl)) F sc_least_buffer ⟨rfl, (lk_cons ((fc_need_needs X G c base).mono (by decide)) (lk_cons ((fc_need_sizes X G c base).mono (by decide)) (lk_cons ((fc_buffer_for X G c base).mono (by decide)) (lk_cons ((fc_greatest_sums X G c base).mono (by decide)) lk_nil)))), lk_nil, lk2_nil, lk_nil, lk_nil, noblt X G c⟩ (fun _ _ _ _ _ _ us hl => match us, hl with | [_, _], _ => rfl) rfl rfl is_least_buffer).io [] false
theorem fcM_least_buffer (X : K.In h) (G : h.Ns mainGlobals mg) (c : He.SaysD fa fn K) (base : Heap) : FnC P w K mg base (kit K) 4 "least_buffer" Pg.semM_least_buffer := by
  obtain ⟨fd, F⟩ := fd_least_buffer c
  exact (fnC_of (T := kit K) (C := cc_least_buffer) (k := 3) (He.glo_ok X G (c.fact 15 (f := .glo "least_buffer") rfl)) F sc_least_buffer ⟨rfl, (lk_cons ((fc_need_needs X G c base).mono (by decide)) (lk_cons ((fc_need_sizes X G c base).mono (by decide)) (lk_cons ((fc_buffer_for X G c base).mono (by decide)) (lk_cons ((fc_greatest_sums X G c base).mono (by decide)) lk_nil)))), lk_nil, lk2_nil, lk_nil, lk_nil, noblt X G c⟩ (fun _ _ _ _ _ _ us hl => match us, hl with | [_, _], _ => rfl) rfl rfl is_least_buffer).io [] true
theorem kc_least_buffer_rate_needs (X : K.In h) (G : h.Ns mainGlobals mg) (c : He.SaysD fa fn K) (base : Heap) : FnKC P w K mg base (kit K) 4 "least_buffer" ["rate", "needs"] (fun ds => Pg.sem_least_buffer (byPerm [1, 0] ds)) := by
  obtain ⟨fd, F⟩ := fd_least_buffer c
  exact fnKC_of (T := kit K) (C := cc_least_buffer) (k := 3) (He.glo_ok X G (c.fact 15 (f := .glo "least_buffer") rfl)) F sc_least_buffer ⟨rfl, (lk_cons ((fc_need_needs X G c base).mono (by decide)) (lk_cons ((fc_need_sizes X G c base).mono (by decide)) (lk_cons ((fc_buffer_for X G c base).mono (by decide)) (lk_cons ((fc_greatest_sums X G c base).mono (by decide)) lk_nil)))), lk_nil, lk2_nil, lk_nil, lk_nil, noblt X G c⟩ [] false (fun _ _ _ _ _ _ ws hl => match ws, hl with | [_, _], _ => rfl) rfl rfl is_least_buffer
theorem fd_law_buffer (c : He.SaysD fa fn K) : ∃ fd, FunD K "_law_buffer" "_law_buffer" (defArgs (top 24)) (defBody (top 24)) (defScope (top 24)) [] [] (He.ga K "_law_buffer") fd := c.def_ 16 (d := d_law_buffer) rfl
theorem fc_law_buffer (X : K.In h) (G : h.Ns mainGlobals mg) (c : He.SaysD fa fn K) (base : Heap) : FnC P w K mg base (kit K) 1 "_law_buffer" Pg.sem_law_buffer := by
  obtain ⟨fd, F⟩ := fd_law_buffer c
  exact (fnC_of (T := kit K) (C := cc_law_buffer) (k := 0) (He.glo_ok X G (c.fact 16 (f := .glo "_law_buffer") rfl)) F sc_law_buffer ⟨rfl, lk_nil, lk_nil, lk2_nil, lk_nil, lk_nil, noblt X G c⟩ (fun _ _ _ _ _ _ us hl => match us, hl with | [_, _], _ => rfl) rfl rfl is_law_buffer).io [] false
theorem fcM_law_buffer (X : K.In h) (G : h.Ns mainGlobals mg) (c : He.SaysD fa fn K) (base : Heap) : FnC P w K mg base (kit K) 1 "_law_buffer" Pg.semM_law_buffer := by
  obtain ⟨fd, F⟩ := fd_law_buffer c
  exact (fnC_of (T := kit K) (C := cc_law_buffer) (k := 0) (He.glo_ok X G (c.fact 16 (f := .glo "_law_buffer") rfl)) F sc_law_buffer ⟨rfl, lk_nil, lk_nil, lk2_nil, lk_nil, lk_nil, noblt X G c⟩ (fun _ _ _ _ _ _ us hl => match us, hl with | [_, _], _ => rfl) rfl rfl is_law_buffer).io [] true
theorem fd_law_by_pieces (c : He.SaysD fa fn K) : ∃ fd, FunD K "_law_by_pieces" "_law_by_pieces" (defArgs (top 25)) (defBody (top 25)) (defScope (top 25)) [] [] (He.ga K "_law_by_pieces") fd := c.def_ 17 (d := d_law_by_pieces) rfl
theorem fc_law_by_pieces (X : K.In h) (G : h.Ns mainGlobals mg) (c : He.SaysD fa fn K) (base : Heap) : FnC P w K mg base (kit K) 1 "_law_by_pieces" Pg.sem_law_by_pieces := by
  obtain ⟨fd, F⟩ := fd_law_by_pieces c
  exact (fnC_of (T := kit K) (C := cc_law_by_pieces) (k := 0) (He.glo_ok X G (c.fact 17 (f := .glo "_law_by_pieces") rfl)) F sc_law_by_pieces ⟨rfl, lk_nil, lk_nil, lk2_nil, lk_nil, lk_nil, noblt X G c⟩ (fun _ _ _ _ _ _ us hl => match us, hl with | [_, _], _ => rfl) rfl rfl is_law_by_pieces).io [] false
theorem fcM_law_by_pieces (X : K.In h) (G : h.Ns mainGlobals mg) (c : He.SaysD fa fn K) (base : Heap) : FnC P w K mg base (kit K) 1 "_law_by_pieces" Pg.semM_law_by_pieces := by
  obtain ⟨fd, F⟩ := fd_law_by_pieces c
  exact (fnC_of (T := kit K) (C := cc_law_by_pieces) (k := 0) (He.glo_ok X G (c.fact 17 (f := .glo "_law_by_pieces") rfl)) F sc_law_by_pieces ⟨rfl, lk_nil, lk_nil, lk2_nil, lk_nil, lk_nil, noblt X G c⟩ (fun _ _ _ _ _ _ us hl => match us, hl with | [_, _], _ => rfl) rfl rfl is_law_by_pieces).io [] true
theorem fd_law_great_right (c : He.SaysD fa fn K) : ∃ fd, FunD K "_law_great_right" "_law_great_right" (defArgs (top 28)) (defBody (top 28)) (defScope (top 28)) [] [] (He.ga K "_law_great_right") fd := c.def_ 18 (d := d_law_great_right) rfl
theorem fc_law_great_right (X : K.In h) (G : h.Ns mainGlobals mg) (c : He.SaysD fa fn K) (base : Heap) : FnC P w K mg base (kit K) 5 "_law_great_right" Pg.sem_law_great_right := by
  obtain ⟨fd, F⟩ := fd_law_great_right c
  exact (fnC_of (T := kit K) (C := cc_law_great_right) (k := 4) (He.glo_ok X G (c.fact 18 (f := .glo "_law_great_right") rfl)) F sc_law_great_right ⟨rfl, (lk_cons ((fc_law_draw X G c base).mono (by decide)) (lk_cons ((fc_law_needs X G c base).mono (by decide)) (lk_cons ((fc_law_shape_right X G c base).mono (by decide)) (lk_cons ((fc_least_buffer X G c base).mono (by decide)) (lk_cons ((fc_buffer_pieces X G c base).mono (by decide)) (lk_cons ((fc_law_buffer X G c base).mono (by decide)) lk_nil)))))), (lk_cons ((fcM_buffer_pieces X G c base).mono (by decide)) (lk_cons ((fcM_law_by_pieces X G c base).mono (by decide)) lk_nil)), (lk2_cons ((kc_buffer_pieces_needs X G c base).mono (by decide)) (lk2_cons ((kc_least_buffer_rate_needs X G c base).mono (by decide)) lk2_nil)), lk_nil, lk_nil, noblt X G c⟩ (fun _ _ _ _ _ _ us hl => match us, hl with | [_], _ => rfl) rfl rfl is_law_great_right).io [true] false
theorem fcM_law_great_right (X : K.In h) (G : h.Ns mainGlobals mg) (c : He.SaysD fa fn K) (base : Heap) : FnC P w K mg base (kit K) 5 "_law_great_right" Pg.semM_law_great_right := by
  obtain ⟨fd, F⟩ := fd_law_great_right c
  exact (fnC_of (T := kit K) (C := cc_law_great_right) (k := 4) (He.glo_ok X G (c.fact 18 (f := .glo "_law_great_right") rfl)) F sc_law_great_right ⟨rfl, (lk_cons ((fc_law_draw X G c base).mono (by decide)) (lk_cons ((fc_law_needs X G c base).mono (by decide)) (lk_cons ((fc_law_shape_right X G c base).mono (by decide)) (lk_cons ((fc_least_buffer X G c base).mono (by decide)) (lk_cons ((fc_buffer_pieces X G c base).mono (by decide)) (lk_cons ((fc_law_buffer X G c base).mono (by decide)) lk_nil)))))), (lk_cons ((fcM_buffer_pieces X G c base).mono (by decide)) (lk_cons ((fcM_law_by_pieces X G c base).mono (by decide)) lk_nil)), (lk2_cons ((kc_buffer_pieces_needs X G c base).mono (by decide)) (lk2_cons ((kc_least_buffer_rate_needs X G c base).mono (by decide)) lk2_nil)), lk_nil, lk_nil, noblt X G c⟩ (fun _ _ _ _ _ _ us hl => match us, hl with | [_], _ => rfl) rfl rfl is_law_great_right).io [true] true
theorem fd_law_small_right (c : He.SaysD fa fn K) : ∃ fd, FunD K "_law_small_right" "_law_small_right" (defArgs (top 27)) (defBody (top 27)) (defScope (top 27)) [] [] (He.ga K "_law_small_right") fd := c.def_ 19 (d := d_law_small_right) rfl
theorem fc_law_small_right (X : K.In h) (G : h.Ns mainGlobals mg) (c : He.SaysD fa fn K) (base : Heap) : FnC P w K mg base (kit K) 7 "_law_small_right" Pg.sem_law_small_right := by
  obtain ⟨fd, F⟩ := fd_law_small_right c
  exact (fnC_of (T := kit K) (C := cc_law_small_right) (k := 6) (He.glo_ok X G (c.fact 19 (f := .glo "_law_small_right") rfl)) F sc_law_small_right ⟨rfl, (lk_cons ((fc_law_needs X G c base).mono (by decide)) (lk_cons ((fc_buffer_pieces X G c base).mono (by decide)) (lk_cons ((fc_law_shape_right X G c base).mono (by decide)) (lk_cons ((fc_law_buffer X G c base).mono (by decide)) (lk_cons ((fc_law_alike X G c base).mono (by decide)) (lk_cons ((fc_least_buffer X G c base).mono (by decide)) (lk_cons ((fc_law_by_pieces X G c base).mono (by decide)) lk_nil))))))), lk_nil, lk2_nil, lk_nil, lk_nil, noblt X G c⟩ (fun _ _ _ _ _ _ us hl => match us, hl with | [_], _ => rfl) rfl rfl is_law_small_right).io [true] false
theorem fcM_law_small_right (X : K.In h) (G : h.Ns mainGlobals mg) (c : He.SaysD fa fn K) (base : Heap) : FnC P w K mg base (kit K) 7 "_law_small_right" Pg.semM_law_small_right := by
  obtain ⟨fd, F⟩ := fd_law_small_right c
  exact (fnC_of (T := kit K) (C := cc_law_small_right) (k := 6) (He.glo_ok X G (c.fact 19 (f := .glo "_law_small_right") rfl)) F sc_law_small_right ⟨rfl, (lk_cons ((fc_law_needs X G c base).mono (by decide)) (lk_cons ((fc_buffer_pieces X G c base).mono (by decide)) (lk_cons ((fc_law_shape_right X G c base).mono (by decide)) (lk_cons ((fc_law_buffer X G c base).mono (by decide)) (lk_cons ((fc_law_alike X G c base).mono (by decide)) (lk_cons ((fc_least_buffer X G c base).mono (by decide)) (lk_cons ((fc_law_by_pieces X G c base).mono (by decide)) lk_nil))))))), lk_nil, lk2_nil, lk_nil, lk_nil, noblt X G c⟩ (fun _ _ _ _ _ _ us hl => match us, hl with | [_], _ => rfl) rfl rfl is_law_small_right).io [true] true
theorem fd_law (c : He.SaysD fa fn K) : ∃ fd, FunD K "law" "law" (defArgs (top 29)) (defBody (top 29)) (defScope (top 29)) [] [] (He.ga K "law") fd := c.def_ 20 (d := d_law) rfl
theorem facts {f : Addr} (X : K.In h) (G : h.Ns mainGlobals mg) (hfa : mg ("law" : Str) = some (.ref f)) (c : He.SaysD fa fn K) :
    ∃ fd : FuncData, (∀ (s : Shared) (v : Value), BindsTo s fd ⟨[v], []⟩ [("script", v)]) ∧ ∀ base : Heap, FnOk P w K mg base (L2.CX P w) 8 f fd ["script"] (spOf (kit K) Pg.sem_law) := by
  obtain ⟨fd, F⟩ := fd_law c
  have e := hfa.symm.trans (He.glo_ok X G (c.fact 20 (f := .glo "law") rfl))
  cases e
  have b := FunD.bindsA (ps := ["script"]) F fun _ _ _ _ _ _ us hl => match us, hl with | [_], _ => rfl
  exact ⟨fd, fun s v => b s [v] rfl, fun base => (fn_data (T := kit K) (C := cc_law) (k := 7) F sc_law ⟨rfl, (lk_cons ((fc_law_small_right X G c base).mono (by decide)) (lk_cons ((fc_law_great_right X G c base).mono (by decide)) (lk_cons ((fc_least_buffer X G c base).mono (by decide)) (lk_cons ((fc_buffer_pieces X G c base).mono (by decide)) (lk_cons ((fc_law_alike X G c base).mono (by decide)) lk_nil))))), (lk_cons ((fcM_law_bag X G c base).mono (by decide)) lk_nil), lk2_nil, lk_nil, lk_nil, noblt X G c⟩ rfl rfl is_law).imp fun _ _ _ _ q => io_ok q⟩
end
end K51

set_option Elab.async false
set_option linter.all false
set_option maxRecDepth 100000
set_option maxHeartbeats 0
open PySem PySem.W PyProof.Rows
theorem PySem.Challenge.cw_evenbits_k51_least_buffers_and_their_pie_holds : PySem.Challenge.rw_evenbits_k51_least_buffers_and_their_pie.Holds := by
  w_on; o_law
  refine HandSHeadRun.head_any (r := OpenLaw.row PySem.Challenge.rw_evenbits_k51_least_buffers_and_their_pie) (q := view (OpenLaw.row PySem.Challenge.rw_evenbits_k51_least_buffers_and_their_pie).prog [29]) (H := K51.hk) (ob := K51.ob) (M := 20000) (loose := K51.loose) (d := HandSHeadRun.topDef (OpenLaw.row PySem.Challenge.rw_evenbits_k51_least_buffers_and_their_pie).prog 29) (kwd := []) K51.ob_eq
    (by kernel_rfl) (fun s => by kernel_rfl) K51.run (by kernel_rfl) (by kernel_rfl) (by kernel_rfl) (by rfl) (by first | assumption | decide +kernel) (by decide +kernel) ⟨rfl, rfl, rfl, rfl, rfl, by decide +kernel⟩ ?hw ?hc
  case hw => w_witness2
  case hc =>
    refine Ev.law_by (l := PySem.Challenge.rw_evenbits_k51_least_buffers_and_their_pie) (n := 63) (k := 8) rfl (by decide) (by kernel_rfl) ⟨rfl, by decide, by decide⟩ ?_
    intro w mg fa h Y G hmg0
    obtain ⟨K, KX, c⟩ := Y
    have hmg : mg ("law" : PySem.Str) = some (.ref fa) := by
      have e : (HandSHeadRun.topDef (OpenLaw.row PySem.Challenge.rw_evenbits_k51_least_buffers_and_their_pie).prog 29).name = ("law" : PySem.Str) := by kernel_rfl
      rw [← e]
      exact hmg0
    obtain ⟨fd, hb, hF⟩ := K51.facts (P := (PySem.Challenge.rw_evenbits_k51_least_buffers_and_their_pie).prog) (w := w) KX G hmg c
    exact ⟨K, K51.kit K, fd, "script", Pg.sem_law, rfl, rfl, KX, hb, fun ns hl => K51.law_holds ns hl, fun base _ _ => hF base⟩


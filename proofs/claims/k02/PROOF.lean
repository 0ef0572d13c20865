import PyProof.Rows.All
import Wide.All
import OpenK.AllK
import Wide.FinOn
import PySem.Challenge.RW_runsturned_k02_whole_roots_and_earlier_r
import HandS.ForMost
import HandS.ForExc
import HandS.Wide
import HandS.TupAny
import HandS.TupMul
import HandS.IsInst
import HandS.CallSlots
import HandS.StrMore
import HandS.ExcIs
import HandS.TryMany
import PyProof.ListStr
import HandS.Conv
import HandS.Style
import HandS.Ends
import HandS.ExcOwn
import HandS.Dict
import HandS.Iter
import KE.DataCmp
import PyProof.StrLawsIn
set_option Elab.async false
set_option linter.all false
set_option maxRecDepth 100000
set_option maxHeartbeats 4000000
/-! Eng1: data as trees, how a heap bears them, who owns what. -/
namespace Eng
open PySem L2

/-- where one stands: the module's names, the written part, the exception that is handled -/
structure Ev where
  mg : Str → Option Value
  K : PySem.W.Frag
  hd : Option Addr
def hdOf : Option Value → Option Addr
  | some (.ref a) => some a
  | _ => none
def _root_.L2.Cx.ev (X : Cx) : Ev := ⟨X.mg, X.K, hdOf X.A.handled⟩

/-- a datum: o tells whether the one who holds it may change it -/
inductive D where
  | non
  | bl (b : Bool)
  | int (i : Int)
  | str (s : List Nat)
  | ty (n : String)
  | scr (ns : List Int)
  | lst (o : Bool) (xs : List D)
  | tup (xs : List D)
  | dic (o : Bool) (kvs : List (D × D))
  | ins (o : Bool) (c : Str) (fs : List (Str × D))
  | exo (c : Str) (fs : List (Str × D))
  deriving Inhabited

mutual
def D.freeze : D → D
  | .lst _ xs => .lst false (freezes xs)
  | .tup xs => .tup (freezes xs)
  | .dic _ kvs => .dic false (freezeK kvs)
  | .ins _ c fs => .ins false c (freezeF fs)
  | .non => .non
  | .bl b => .bl b
  | .int i => .int i
  | .str s => .str s
  | .ty n => .ty n
  | .scr ns => .scr ns
  | .exo c fs => .exo c fs
def freezes : List D → List D
  | [] => []
  | d :: ds => d.freeze :: freezes ds
def freezeK : List (D × D) → List (D × D)
  | [] => []
  | (k, d) :: ds => (k, d.freeze) :: freezeK ds
def freezeF : List (Str × D) → List (Str × D)
  | [] => []
  | (k, d) :: ds => (k, d.freeze) :: freezeF ds
end
mutual
def D.frz : D → Bool
  | .lst o xs => !o && frzs xs
  | .tup xs => frzs xs
  | .dic o kvs => !o && frzK kvs
  | .ins o _ fs => !o && frzF fs
  | .non => true
  | .bl _ => true
  | .int _ => true
  | .str _ => true
  | .ty _ => true
  | .scr _ => true
  | .exo _ _ => true
def frzs : List D → Bool
  | [] => true
  | d :: ds => d.frz && frzs ds
def frzK : List (D × D) → Bool
  | [] => true
  | (_, d) :: ds => d.frz && frzK ds
def frzF : List (Str × D) → Bool
  | [] => true
  | (_, d) :: ds => d.frz && frzF ds
end
theorem freezeK_eq : ∀ l : List (D × D), freezeK l = (l.map (·.1)).zip (freezes (l.map (·.2)))
  | [] => rfl
  | (k, d) :: r => by simp [freezeK, freezes, freezeK_eq r]
theorem freezeF_eq : ∀ l : List (Str × D), freezeF l = (l.map (·.1)).zip (freezes (l.map (·.2)))
  | [] => rfl
  | (k, d) :: r => by simp [freezeF, freezes, freezeF_eq r]
theorem frzK_eq : ∀ l : List (D × D), frzK l = frzs (l.map (·.2))
  | [] => rfl
  | (k, d) :: r => by simp [frzK, frzs, frzK_eq r]
theorem frzF_eq : ∀ l : List (Str × D), frzF l = frzs (l.map (·.2))
  | [] => rfl
  | (k, d) :: r => by simp [frzF, frzs, frzF_eq r]

/-- a key as a datum -/
def keyD : Key → D
  | .inl i => .int i
  | .inr x => .str x.cps.toList

def D.kids : D → List D
  | .lst _ xs => xs
  | .tup xs => xs
  | .dic _ kvs => kvs.map (·.2)
  | .ins _ _ fs => fs.map (·.2)
  | _ => []
/-- may the one who holds it change it -/
def D.own : D → Bool
  | .lst o _ => o
  | .dic o _ => o
  | .ins o _ _ => o
  | _ => false
def D.isTup : D → Bool
  | .tup _ => true
  | _ => false

/-- a datum without parts (the script is one) -/
def Atom (mg : Ev) (B : Hp) : V → D → Prop
  | .non, .non => True
  | .bl b, .bl c => b = c
  | .int i, .int j => i = j
  | .str x, .str s => x.cps.toList = s
  | .ty n, .ty m => n = m
  | .ref a, .scr ns => SqL mg.K B a (ns.map V.int)
  | .ref a, .exo _ _ => mg.hd = some a
  | _, _ => False
/-- how the object of a datum with parts stands in a heap: vs its parts' values, A its addresses -/
def Shape (mg : Ev) (X : Hp) : V → D → List V → List Addr → Prop
  | .ref a, .lst _ _, vs, A => X a = some (.lst vs) ∧ A = [a]
  | .ref a, .tup _, vs, A => X a = some (.tup vs) ∧ A = []
  | .ref a, .dic _ kvs, vs, A => A = [a] ∧ vs.length = kvs.length ∧
      ((∃ ks : List Key, kvs.map (·.1) = ks.map keyD ∧ X a = some (.dK (ks.zip vs))) ∨ (∃ ks : List (List Key), kvs.map (·.1) = ks.map (fun k => D.tup (k.map keyD)) ∧ X a = some (.dT (ks.zip vs))))
  | .ref a, .ins _ c fs, vs, A => ∃ C dx, X a = some (.ins C dx ((fs.map (·.1)).zip vs)) ∧ X dx = some (.own a) ∧ mg.mg c = some (.ref C) ∧ vs.length = fs.length ∧ A = [dx, a]
  | _, _, _, _ => False
-- B: the part of the heap that nobody changes; H: the heap; F: the addresses that the one who holds the datum owns
mutual
inductive Own (mg : Ev) (B H : Hp) : V → D → List Addr → Prop where
  | atom {v d} : Atom mg B v d → Own mg B H v d []
  | fro {v d vs A F} : d.own = false → Shape mg B v d vs A → Owns mg B H vs d.kids F → (d.isTup = false → F = []) → Own mg B H v d F
  | own {v d vs A F} : d.own = true → Shape mg H v d vs A → Owns mg B H vs d.kids F → Own mg B H v d (A ++ F)
inductive Owns (mg : Ev) (B H : Hp) : List V → List D → List Addr → Prop where
  | nil : Owns mg B H [] [] []
  | cons {v d F vs ds G} : Own mg B H v d F → Owns mg B H vs ds G → Owns mg B H (v :: vs) (d :: ds) (F ++ G)
end

section
variable {mg : Ev} {B B' H H' X X' : Hp} {v : V} {d : D} {vs : List V} {ds : List D} {A F G U U' : List Addr}

theorem Owns.len : ∀ {vs ds F}, Owns mg B H vs ds F → vs.length = ds.length
  | _, _, _, .nil => rfl
  | _, _, _, .cons _ t => by simp [Owns.len t]
theorem sq_mono {K : PySem.W.Frag} {a : Addr} {xs : List V} (hB : ∀ a o, B a = some o → B' a = some o) (h : SqL K B a xs) : SqL K B' a xs := by
  rcases h with (h | ⟨o, h⟩) | h
  · exact .inl (.inl (hB _ _ h))
  · exact .inl (.inr ⟨o, hB _ _ h⟩)
  · exact .inr h
theorem Atom.mono (hB : ∀ a o, B a = some o → B' a = some o) (h : Atom mg B v d) : Atom mg B' v d := by
  cases v <;> cases d <;> simp only [Atom] at h ⊢ <;> first | exact h | exact sq_mono hB h
theorem Shape.mono (hB : ∀ a o, X a = some o → X' a = some o) (h : Shape mg X v d vs A) : Shape mg X' v d vs A := by
  cases v <;> cases d <;> simp only [Shape] at h ⊢
  · exact ⟨hB _ _ h.1, h.2⟩
  · exact ⟨hB _ _ h.1, h.2⟩
  · obtain ⟨e, l, h⟩ := h
    refine ⟨e, l, ?_⟩
    rcases h with ⟨ks, e, h⟩ | ⟨ks, e, h⟩
    · exact .inl ⟨ks, e, hB _ _ h⟩
    · exact .inr ⟨ks, e, hB _ _ h⟩
  · obtain ⟨C, dx, h1, h2, h3⟩ := h
    exact ⟨C, dx, hB _ _ h1, hB _ _ h2, h3⟩
/-- for an owned datum: only its own addresses matter -/
theorem Shape.at (ho : d.own = true) (h : Shape mg X v d vs A) (k : ∀ a ∈ A, X' a = X a) : Shape mg X' v d vs A := by
  cases v <;> cases d <;> simp only [Shape] at h ⊢ <;> simp only [D.own] at ho
  · obtain ⟨h1, rfl⟩ := h
    exact ⟨by rw [k _ (by simp)]; exact h1, rfl⟩
  · exact absurd ho (by simp)
  · obtain ⟨rfl, l, h⟩ := h
    refine ⟨rfl, l, ?_⟩
    rcases h with ⟨ks, e, h⟩ | ⟨ks, e, h⟩
    · exact .inl ⟨ks, e, by rw [k _ (by simp)]; exact h⟩
    · exact .inr ⟨ks, e, by rw [k _ (by simp)]; exact h⟩
  · obtain ⟨C, dx, h1, h2, h3, h4, rfl⟩ := h
    exact ⟨C, dx, by rw [k _ (by simp)]; exact h1, by rw [k _ (by simp)]; exact h2, h3, h4, rfl⟩
theorem Shape.there (h : Shape mg X v d vs A) : ∀ a ∈ A, X a ≠ none := by
  intro b hb
  cases v <;> cases d <;> simp only [Shape] at h
  · obtain ⟨h1, rfl⟩ := h
    simp at hb; subst hb; rw [h1]; simp
  · obtain ⟨h1, rfl⟩ := h
    simp at hb
  · obtain ⟨rfl, l, h⟩ := h
    simp at hb; subst hb
    rcases h with ⟨ks, e, h⟩ | ⟨ks, e, h⟩ <;> (rw [h]; simp)
  · obtain ⟨C, dx, h1, h2, h3, h4, rfl⟩ := h
    simp at hb
    rcases hb with rfl | rfl
    · rw [h2]; simp
    · rw [h1]; simp
theorem freezeK_keys : ∀ l : List (D × D), (freezeK l).map (·.1) = l.map (·.1)
  | [] => rfl
  | (k, d) :: r => by simp [freezeK, freezeK_keys r]
theorem freezeF_keys : ∀ l : List (Str × D), (freezeF l).map (·.1) = l.map (·.1)
  | [] => rfl
  | (k, d) :: r => by simp [freezeF, freezeF_keys r]
theorem freezeK_vals : ∀ l : List (D × D), (freezeK l).map (·.2) = freezes (l.map (·.2))
  | [] => rfl
  | (k, d) :: r => by simp [freezeK, freezes, freezeK_vals r]
theorem freezeF_vals : ∀ l : List (Str × D), (freezeF l).map (·.2) = freezes (l.map (·.2))
  | [] => rfl
  | (k, d) :: r => by simp [freezeF, freezes, freezeF_vals r]
theorem kids_freeze (d : D) : d.freeze.kids = freezes d.kids := by
  cases d <;> simp [D.freeze, D.kids, freezes, freezeK_vals, freezeF_vals]
theorem own_freeze (d : D) : d.freeze.own = false := by
  cases d <;> simp [D.freeze, D.own]
theorem freezeK_len (l : List (D × D)) : (freezeK l).length = l.length := by
  have := congrArg List.length (freezeK_keys l); simpa using this
theorem freezeF_len (l : List (Str × D)) : (freezeF l).length = l.length := by
  have := congrArg List.length (freezeF_keys l); simpa using this
theorem Shape.freeze (h : Shape mg X v d vs A) : Shape mg X v d.freeze vs A := by
  cases v <;> cases d <;> simp only [Shape, D.freeze] at h ⊢
  · exact h
  · exact h
  · rw [freezeK_keys, freezeK_len]; exact h
  · rw [freezeF_keys, freezeF_len]; exact h
theorem Atom.freeze (h : Atom mg B v d) : Atom mg B v d.freeze := by
  cases v <;> cases d <;> simp only [Atom, D.freeze] at h ⊢ <;> exact h
theorem frz_eq (d : D) : d.frz = (!d.own && frzs d.kids) := by
  cases d <;> simp [D.frz, D.own, D.kids, frzs, frzK_eq, frzF_eq]

-- the ground grows, what is owned stays
mutual
theorem Own.mono (hB : ∀ a o, B a = some o → B' a = some o) : ∀ {v d F}, (∀ a ∈ F, H' a = H a) → Own mg B H v d F → Own mg B' H' v d F
  | _, _, _, _, .atom h => .atom (h.mono hB)
  | _, _, _, k, .fro o s t e => .fro o (s.mono hB) (Owns.mono hB k t) e
  | _, _, _, k, .own o s t => .own o (s.at o fun a x => k a (by simp [x])) (Owns.mono hB (fun a x => k a (by simp [x])) t)
theorem Owns.mono (hB : ∀ a o, B a = some o → B' a = some o) : ∀ {vs ds F}, (∀ a ∈ F, H' a = H a) → Owns mg B H vs ds F → Owns mg B' H' vs ds F
  | _, _, _, _, .nil => .nil
  | _, _, _, k, .cons h t => .cons (Own.mono hB (fun a x => k a (by simp [x])) h) (Owns.mono hB (fun a x => k a (by simp [x])) t)
end
-- what is owned is there
mutual
theorem Own.there : ∀ {v d F}, Own mg B H v d F → ∀ a ∈ F, H a ≠ none
  | _, _, _, .atom _, a, x => absurd x (by simp)
  | _, _, _, .fro _ _ t _, a, x => Owns.there t a x
  | _, _, _, .own _ s t, a, x => by
    rcases List.mem_append.mp x with x | x
    · exact s.there a x
    · exact Owns.there t a x
theorem Owns.there : ∀ {vs ds F}, Owns mg B H vs ds F → ∀ a ∈ F, H a ≠ none
  | _, _, _, .nil, a, x => absurd x (by simp)
  | _, _, _, .cons h t, a, x => by
    rcases List.mem_append.mp x with x | x
    · exact Own.there h a x
    · exact Owns.there t a x
end
theorem Shape.ne (o : d.own = true) (h : Shape mg X v d vs A) : A ≠ [] := by
  cases v <;> cases d <;> simp only [Shape] at h <;> simp only [D.own] at o
  · rw [h.2]; simp
  · cases o
  · rw [h.1]; simp
  · obtain ⟨C, dx, _, _, _, _, rfl⟩ := h; simp
-- a frozen datum owns nothing
mutual
theorem Own.nil_of : ∀ {v d F}, Own mg B H v d F → d.frz = true → F = []
  | _, _, _, .atom _, _ => rfl
  | _, _, _, .fro _ _ t _, h => Owns.nil_of t (by rw [frz_eq] at h; simp at h; exact h.2)
  | _, _, _, .own o _ _, h => by rw [frz_eq, o] at h; simp at h
theorem Owns.nil_of : ∀ {vs ds F}, Owns mg B H vs ds F → frzs ds = true → F = []
  | _, _, _, .nil, _ => rfl
  | _, _, _, .cons h t, e => by
    simp [frzs] at e
    rw [Own.nil_of h e.1, Owns.nil_of t e.2]; rfl
end
theorem atom_kids (h : Atom mg B v d) : d.kids = [] := by
  cases v <;> cases d <;> simp only [Atom] at h <;> rfl
theorem atom_own (h : Atom mg B v d) : d.own = false := by
  cases v <;> cases d <;> simp only [Atom] at h <;> rfl
mutual
theorem Own.frz_of : ∀ {v d F}, Own mg B H v d F → F = [] → d.frz = true
  | _, _, _, .atom h, _ => by rw [frz_eq, atom_own h, atom_kids h]; rfl
  | _, _, _, .fro o _ t _, e => by rw [frz_eq, o, Owns.frz_of t e]; rfl
  | _, _, _, .own o s _, e => absurd (List.append_eq_nil_iff.mp e).1 (s.ne o)
theorem Owns.frz_of : ∀ {vs ds F}, Owns mg B H vs ds F → F = [] → frzs ds = true
  | _, _, _, .nil, _ => rfl
  | _, _, _, .cons h t, e => by
    obtain ⟨e1, e2⟩ := List.append_eq_nil_iff.mp e
    simp [frzs, Own.frz_of h e1, Owns.frz_of t e2]
end
-- what is owned goes into the ground
mutual
theorem Own.freeze (hB : ∀ a o, B a = some o → B' a = some o) : ∀ {v d F}, (∀ a ∈ F, B' a = H a) → Own mg B H v d F → Own mg B' H' v d.freeze []
  | _, _, _, _, .atom h => .atom (h.mono hB).freeze
  | _, _, _, k, .fro o s t e => .fro (own_freeze _) (s.mono hB).freeze (by rw [kids_freeze]; exact Owns.freeze hB k t) fun _ => rfl
  | _, _, _, k, .own o s t => .fro (own_freeze _) (s.at o fun a x => k a (by simp [x])).freeze (by rw [kids_freeze]; exact Owns.freeze hB (fun a x => k a (by simp [x])) t) fun _ => rfl
theorem Owns.freeze (hB : ∀ a o, B a = some o → B' a = some o) : ∀ {vs ds F}, (∀ a ∈ F, B' a = H a) → Owns mg B H vs ds F → Owns mg B' H' vs (freezes ds) []
  | _, _, _, _, .nil => .nil
  | _, _, _, k, .cons h t => .cons (F := []) (G := []) (Own.freeze hB (fun a x => k a (by simp [x])) h) (Owns.freeze hB (fun a x => k a (by simp [x])) t)
end
end
end Eng
/-! Eng2: steps, slots, states. -/
namespace Eng
open PySem L2

/-- from (B, H) to (B', H') by one who may change U: what else stood stands -/
structure Step (B H : Hp) (U : List Addr) (B' H' : Hp) (U' : List Addr) : Prop where
  sub : ∀ a o, B' a = some o → H' a = some o
  bs : ∀ a o, B a = some o → B' a = some o
  keep : ∀ a, H a ≠ none → a ∉ U → H' a = H a
  new : ∀ a ∈ U', a ∈ U ∨ H a = none
  bnew : ∀ a, B' a ≠ none → B a ≠ none ∨ a ∈ U ∨ H a = none
/-- F is owned beside U -/
structure Sep (B : Hp) (F U : List Addr) : Prop where
  nd : F.Nodup
  dj : ∀ a ∈ F, a ∉ U
  off : ∀ a ∈ F, B a = none

section
variable {mg : Ev} {B B' B1 B2 H H' H1 H2 : Hp} {v : V} {d d' : D} {vs : List V} {ds : List D} {A F F' G U U' U1 U2 : List Addr} {σ σ' : List (Option V)} {ρ ρ' : List (Option D)}
theorem Step.refl (s : ∀ a o, B a = some o → H a = some o) : Step B H U B H U :=
  ⟨s, fun _ _ h => h, fun _ _ _ => rfl, fun _ h => .inl h, fun _ h => .inl h⟩
theorem Step.trans (s : Step B H U B1 H1 U1) (t : Step B1 H1 U1 B2 H2 U2) : Step B H U B2 H2 U2 where
  sub := t.sub
  bs := fun a o h => t.bs a o (s.bs a o h)
  keep := fun a h n => by
    have e := s.keep a h n
    rw [← e]
    refine t.keep a (by rw [e]; exact h) fun z => ?_
    rcases s.new a z with z | z
    · exact n z
    · exact h z
  new := fun a z => by
    rcases t.new a z with z | z
    · exact s.new a z
    · by_cases y : H a = none
      · exact .inr y
      · by_cases x : a ∈ U
        · exact .inl x
        · rw [s.keep a y x] at z
          exact absurd z y
  bnew := fun a z => by
    rcases t.bnew a z with z | z | z
    · exact s.bnew a z
    · exact .inr (s.new a z)
    · by_cases y : H a = none
      · exact .inr (.inr y)
      · by_cases x : a ∈ U
        · exact .inr (.inl x)
        · rw [s.keep a y x] at z
          exact absurd z y
/-- may change more, owns less -/
theorem Step.weak (s : Step B H U B' H' U') (h : ∀ a ∈ U, a ∈ F) (h' : ∀ a ∈ G, a ∈ U' ∨ a ∈ F ∨ H a = none) : Step B H F B' H' G where
  sub := s.sub
  bs := s.bs
  keep := fun a x n => s.keep a x fun z => n (h a z)
  new := fun a z => by
    rcases h' a z with z | z | z
    · rcases s.new a z with z | z
      · exact .inl (h a z)
      · exact .inr z
    · exact .inl z
    · exact .inr z
  bnew := fun a z => by
    rcases s.bnew a z with z | z | z
    · exact .inl z
    · exact .inr (.inl (h a z))
    · exact .inr (.inr z)
/-- one who changes nothing, seen by one who owns U -/
theorem Step.none_of (s : Step B H [] B' H' []) : Step B H U B' H' U := s.weak (fun _ h => absurd h (by simp)) fun _ h => .inr (.inl h)
/-- what is owned elsewhere stays -/
theorem Own.step (h : Own mg B H v d F) (s : Step B H U B' H' U') (n : ∀ a ∈ F, a ∉ U) : Own mg B' H' v d F :=
  h.mono s.bs fun a x => s.keep a (h.there a x) (n a x)
theorem Owns.step (h : Owns mg B H vs ds F) (s : Step B H U B' H' U') (n : ∀ a ∈ F, a ∉ U) : Owns mg B' H' vs ds F :=
  h.mono s.bs fun a x => s.keep a (h.there a x) (n a x)
theorem Sep.step (k : Sep B F U) (t : ∀ a ∈ F, H a ≠ none) (s : Step B H U B' H' U') : Sep B' F U' where
  nd := k.nd
  dj := fun a x y => by
    rcases s.new a y with y | y
    · exact k.dj a x y
    · exact t a x y
  off := fun a x => by
    cases e : B' a with
    | none => rfl
    | some o =>
      rcases s.bnew a (by rw [e]; simp) with y | y | y
      · exact absurd (k.off a x) y
      · exact absurd y (k.dj a x)
      · exact absurd y (t a x)
theorem Sep.nil : Sep B [] U := ⟨List.nodup_nil, fun _ h => absurd h (by simp), fun _ h => absurd h (by simp)⟩
theorem Sep.mono (k : Sep B F U) (h : ∀ a ∈ U', a ∈ U) : Sep B F U' := ⟨k.nd, fun a x y => k.dj a x (h a y), k.off⟩

/-! ### slots -/
theorem set_self {α : Type} : ∀ {l : List α} {i : Nat} {x : α}, l[i]? = some x → l.set i x = l
  | [], _, _, h => by simp at h
  | y :: l, 0, x, h => by simp at h; simp [h]
  | y :: l, i + 1, x, h => by simp at h; simp [set_self h]
/-- H on F, else B -/
def lay (B H : Hp) (F : List Addr) : Hp := fun a => if a ∈ F then H a else B a
theorem lay_in {a : Addr} (h : a ∈ F) : lay B H F a = H a := if_pos h
theorem lay_out {a : Addr} (h : a ∉ F) : lay B H F a = B a := if_neg h
def Slots (mg : Ev) (B H : Hp) (σ : List (Option V)) (ρ : List (Option D)) (U : List Addr) : Prop :=
  σ.length = ρ.length ∧ ∃ Fs : List (List Addr), Fs.length = ρ.length ∧ U.Perm Fs.flatten ∧
    ∀ (i : Nat) (d : D), ρ[i]? = some (some d) → ∃ v F, σ[i]? = some (some v) ∧ Fs[i]? = some F ∧ Own mg B H v d F
theorem flatten_set {α : Type} : ∀ (Fs : List (List α)) (i : Nat) (F' : List α), i < Fs.length → (Fs.set i F').flatten.Perm (F' ++ (Fs.set i []).flatten)
  | [], i, _, h => absurd h (by simp)
  | F :: Fs, 0, F', _ => by simp
  | F :: Fs, i + 1, F', h => by
    have ih := flatten_set Fs i F' (by simpa using h)
    simp only [List.set_cons_succ, List.flatten_cons]
    refine (ih.append_left F).trans ?_
    rw [← List.append_assoc, ← List.append_assoc]
    exact List.perm_append_comm.append_right _
theorem Slots.take {i : Nat} (s : Slots mg B H σ ρ U) (h : ρ[i]? = some (some d)) :
    ∃ v F U', σ[i]? = some (some v) ∧ Own mg B H v d F ∧ U.Perm (F ++ U') ∧ Slots mg B H σ (ρ.set i none) U' := by
  obtain ⟨l, Fs, lf, pu, k⟩ := s
  obtain ⟨v, F, e1, e2, o⟩ := k i d h
  have hi : i < Fs.length := by
    rw [lf]; exact (List.getElem?_eq_some_iff.mp h).1
  have hs : Fs.set i F = Fs := set_self e2
  refine ⟨v, F, (Fs.set i []).flatten, e1, o, ?_, by simp [l], Fs.set i [], by simp [lf], List.Perm.refl _, fun j d' hj => ?_⟩
  · have := flatten_set Fs i F hi
    rw [hs] at this
    exact pu.trans this
  · by_cases e : j = i
    · subst e
      rw [List.getElem?_set_self (by rw [lf] at hi; exact hi)] at hj
      simp at hj
    · rw [List.getElem?_set_ne (Ne.symm e)] at hj
      obtain ⟨v', F', a, b, c⟩ := k j d' hj
      exact ⟨v', F', a, by rw [List.getElem?_set_ne (Ne.symm e)]; exact b, c⟩
theorem Slots.put {i : Nat} (s : Slots mg B H σ ρ U) (hi : i < ρ.length) :
    ∃ U', (∀ a ∈ U', a ∈ U) ∧ (U.Nodup → U'.Nodup) ∧ ∀ v d F, Own mg B H v d F → Slots mg B H (σ.set i (some v)) (ρ.set i (some d)) (F ++ U') := by
  obtain ⟨l, Fs, lf, pu, k⟩ := s
  have hif : i < Fs.length := by rw [lf]; exact hi
  have e : Fs[i]? = some Fs[i] := List.getElem?_eq_getElem hif
  have pf := flatten_set Fs i Fs[i] hif
  rw [set_self e] at pf
  have pu' := pu.trans pf
  refine ⟨(Fs.set i []).flatten, fun a h => pu'.mem_iff.mpr (List.mem_append.mpr (.inr h)), fun nd => (List.nodup_append.mp (pu'.nodup_iff.mp nd)).2.1, fun v d F o => ?_⟩
  refine ⟨by simp [l], Fs.set i F, by simp [lf], (flatten_set Fs i F hif).symm, fun j d' hj => ?_⟩
  by_cases ej : j = i
  · subst ej
    rw [List.getElem?_set_self hi] at hj
    simp at hj
    subst hj
    exact ⟨v, F, by rw [List.getElem?_set_self (by rw [l]; exact hi)], by rw [List.getElem?_set_self hif], o⟩
  · rw [List.getElem?_set_ne (Ne.symm ej)] at hj
    obtain ⟨v', F', a, b, c⟩ := k j d' hj
    exact ⟨v', F', by rw [List.getElem?_set_ne (Ne.symm ej)]; exact a, by rw [List.getElem?_set_ne (Ne.symm ej)]; exact b, c⟩
theorem Slots.mono (hB : ∀ a o, B a = some o → B' a = some o) (hH : ∀ a ∈ U, H' a = H a) (s : Slots mg B H σ ρ U) : Slots mg B' H' σ ρ U := by
  obtain ⟨l, Fs, lf, pu, k⟩ := s
  refine ⟨l, Fs, lf, pu, fun i d h => ?_⟩
  obtain ⟨v, F, a, b, c⟩ := k i d h
  refine ⟨v, F, a, b, c.mono hB fun x hx => hH x (pu.mem_iff.mpr (List.mem_flatten.mpr ⟨F, List.mem_of_getElem? b, hx⟩))⟩
theorem Slots.perm (s : Slots mg B H σ ρ U) (p : U'.Perm U) : Slots mg B H σ ρ U' := by
  obtain ⟨l, Fs, lf, pu, k⟩ := s
  exact ⟨l, Fs, lf, p.trans pu, k⟩
theorem Slots.lenEq (s : Slots mg B H σ ρ U) : σ.length = ρ.length := s.1

structure Sta (mg : Ev) (B H : Hp) (σ : List (Option V)) (ρ : List (Option D)) (U : List Addr) : Prop where
  sub : ∀ a o, B a = some o → H a = some o
  sl : Slots mg B H σ ρ U
  nd : U.Nodup
  off : ∀ a ∈ U, B a = none
  ex : ∀ a ∈ U, H a ≠ none
theorem Sta.take {i : Nat} (s : Sta mg B H σ ρ U) (h : ρ[i]? = some (some d)) :
    ∃ v F U', σ[i]? = some (some v) ∧ Own mg B H v d F ∧ Sep B F U' ∧ Sta mg B H σ (ρ.set i none) U' ∧ (∀ a, a ∈ U ↔ a ∈ F ∨ a ∈ U') := by
  obtain ⟨v, F, U', e, o, p, sl⟩ := s.sl.take h
  have nd := List.nodup_append.mp (p.nodup_iff.mp s.nd)
  have m : ∀ a, a ∈ U ↔ a ∈ F ∨ a ∈ U' := fun a => by rw [p.mem_iff, List.mem_append]
  exact ⟨v, F, U', e, o, ⟨nd.1, fun a x y => nd.2.2 a x a y rfl, fun a x => s.off a ((m a).mpr (.inl x))⟩,
    ⟨s.sub, sl, nd.2.1, fun a x => s.off a ((m a).mpr (.inr x)), fun a x => s.ex a ((m a).mpr (.inr x))⟩, m⟩
theorem Sta.put {i : Nat} (s : Sta mg B H σ ρ U) (hi : i < ρ.length) (o : Own mg B H v d F) (k : Sep B F U) :
    ∃ U', Sta mg B H (σ.set i (some v)) (ρ.set i (some d)) (F ++ U') ∧ (∀ a ∈ U', a ∈ U) := by
  obtain ⟨U', m, nd, h⟩ := s.sl.put hi
  refine ⟨U', ⟨s.sub, h v d F o, List.nodup_append.mpr ⟨k.nd, nd s.nd, fun a x b y e => ?_⟩, fun a x => ?_, fun a x => ?_⟩, m⟩
  · subst e; exact k.dj a x (m a y)
  · rcases List.mem_append.mp x with x | x
    · exact k.off a x
    · exact s.off a (m a x)
  · rcases List.mem_append.mp x with x | x
    · exact o.there a x
    · exact s.ex a (m a x)
/-- someone else makes a step -/
theorem Sta.step (s : Sta mg B H σ ρ U) (t : Step B H G B' H' F) (n : ∀ a ∈ U, a ∉ G) : Sta mg B' H' σ ρ U where
  sub := t.sub
  sl := s.sl.mono t.bs fun a x => t.keep a (s.ex a x) (n a x)
  nd := s.nd
  off := fun a x => by
    cases e : B' a with
    | none => rfl
    | some o =>
      rcases t.bnew a (by rw [e]; simp) with y | y | y
      · exact absurd (s.off a x) y
      · exact absurd y (n a x)
      · exact absurd y (s.ex a x)
  ex := fun a x => by rw [t.keep a (s.ex a x) (n a x)]; exact s.ex a x
theorem Sta.stepN (s : Sta mg B H σ ρ U) (t : Step B H [] B' H' []) : Sta mg B' H' σ ρ U := s.step t fun _ _ h => absurd h (by simp)
theorem Sta.len (s : Sta mg B H σ ρ U) : σ.length = ρ.length := s.sl.1
/-- forget a slot's datum -/
theorem Sta.drop {i : Nat} (s : Sta mg B H σ ρ U) : Sta mg B H σ (ρ.set i none) U := by
  obtain ⟨l, Fs, lf, pu, k⟩ := s.sl
  refine ⟨s.sub, ⟨by simp [l], Fs, by simp [lf], pu, fun j d h => ?_⟩, s.nd, s.off, s.ex⟩
  by_cases e : j = i
  · subst e
    by_cases hj : j < ρ.length
    · rw [List.getElem?_set_self hj] at h; simp at h
    · rw [List.getElem?_eq_none (by simp; omega)] at h; simp at h
  · rw [List.getElem?_set_ne (Ne.symm e)] at h
    exact k j d h
/-- freeze what is owned beside the slots -/
theorem freeze_sep (hs : ∀ a o, B a = some o → H a = some o) (o : Own mg B H v d F) (k : Sep B F U) :
    ∃ B', Step B H F B' H [] ∧ Own mg B' H v d.freeze [] ∧ (∀ a, B' a ≠ none → B a ≠ none ∨ a ∈ F) := by
  have out : ∀ a o, B a = some o → a ∉ F := fun a o h z => by rw [k.off a z] at h; cases h
  have lo : ∀ a, lay B H F a ≠ none → B a ≠ none ∨ a ∈ F := fun a h => by
    by_cases z : a ∈ F
    · exact .inr z
    · rw [lay_out z] at h; exact .inl h
  refine ⟨lay B H F, ⟨fun a o h => ?_, fun a o h => ?_, fun _ _ _ => rfl, fun _ h => absurd h (by simp), fun a h => ?_⟩, ?_, lo⟩
  · by_cases z : a ∈ F
    · rw [lay_in z] at h; exact h
    · rw [lay_out z] at h; exact hs a o h
  · rw [lay_out (out a o h)]; exact h
  · rcases lo a h with h | h
    · exact .inl h
    · exact .inr (.inl h)
  · exact o.freeze (fun a o h => by rw [lay_out (out a o h)]; exact h) fun a x => lay_in x
end
end Eng
/-! Eng3: what an expression does to trees; the judgements; operators. -/
namespace Eng
open PySem L2

abbrev Rho := List (Option D)
/-- an exception of the text's own: its class, its fields -/
structure Exc where
  cls : Str
  fs : List (Str × D)
inductive Res (α : Type) where
  | ok (a : α) (ρ : Rho)
  | exc (e : Exc) (ρ : Rho)
  | stuck
abbrev M (α : Type) := Rho → Res α
def Res.bind {α β : Type} (x : Res α) (f : α → M β) : Res β := match x with
  | .ok a ρ => f a ρ
  | .exc e ρ => .exc e ρ
  | .stuck => .stuck
def mBind {α β : Type} (m : M α) (f : α → M β) : M β := fun ρ => (m ρ).bind f
def mPure {α : Type} (a : α) : M α := fun ρ => .ok a ρ
def mOpt {α : Type} (x : Option α) : M α := fun ρ => match x with
  | some a => .ok a ρ
  | none => .stuck
def mStuck {α : Type} : M α := fun _ => .stuck
def noExc {α : Type} (m : M α) : M α := fun ρ => match m ρ with
  | .ok a ρ' => .ok a ρ'
  | _ => .stuck

/-- whose addresses are these -/
structure Rel (mg : Ev) where
  R : Hp → Hp → List Addr → Prop
  step : ∀ {B H B' H' U U' F}, R B H F → Step B H U B' H' U' → (∀ a ∈ F, a ∉ U) → R B' H' F
  there : ∀ {B H F}, R B H F → ∀ a ∈ F, H a ≠ none
def oV (mg : Ev) (v : V) (d : D) : Rel mg := ⟨fun B H F => Own mg B H v d F, fun h s n => h.step s n, fun h => h.there⟩
def oL (mg : Ev) (vs : List V) (ds : List D) : Rel mg := ⟨fun B H F => Owns mg B H vs ds F, fun h s n => h.step s n, fun h => h.there⟩
def oN (mg : Ev) : Rel mg := ⟨fun _ _ F => F = [], fun h _ _ => h, fun h a x => by subst h; simp at x⟩
def Rel.and {mg : Ev} (r s : Rel mg) : Rel mg := ⟨fun B H F => ∃ F1 F2, F = F1 ++ F2 ∧ r.R B H F1 ∧ s.R B H F2,
  fun ⟨F1, F2, e, h1, h2⟩ st n => ⟨F1, F2, e, r.step h1 st fun a x => n a (by rw [e]; simp [x]), s.step h2 st fun a x => n a (by rw [e]; simp [x])⟩,
  fun ⟨F1, F2, e, h1, h2⟩ a x => by
    rw [e] at x
    rcases List.mem_append.mp x with x | x
    · exact r.there h1 a x
    · exact s.there h2 a x⟩

/-- alt: may it have altered what the slots hold; sep: is what comes out owned beside the slots -/
structure Post (mg : Ev) (alt sep : Bool) (B H : Hp) (σ : St) (ρ : Rho) (U : List Addr) (ρ' : Rho) (r : Rel mg) (B' H' : Hp) (U' F : List Addr) : Prop where
  st : Eng.Sta mg B' H' σ ρ' U'
  own : r.R B' H' F
  sep : sep = true → Sep B' F U' ∧ ∀ a ∈ F, a ∈ U ∨ H a = none
  step : Step B H U B' H' U'
  alt : alt = false → ρ' = ρ ∧ U' = U ∧ Step B H [] B' H' []

section
variable {mg : Ev} {a1 a2 s1 s2 alt sep : Bool} {B B1 B2 B' H H1 H2 H' : Hp} {σ : St} {ρ ρ1 ρ2 ρ' : Rho} {U U1 U2 U' F F1 F2 : List Addr} {r r1 r2 : Rel mg}
theorem Post.comb (p : Post mg a1 s1 B H σ ρ U ρ1 r1 B1 H1 U1 F1) (q : Post mg a2 s2 B1 H1 σ ρ1 U1 ρ2 r2 B2 H2 U2 F2) (hc : a2 = false ∨ s1 = true) :
    Post mg (a1 || a2) (s1 && s2) B H σ ρ U ρ2 (r1.and r2) B2 H2 U2 (F1 ++ F2) where
  st := q.st
  own := by
    refine ⟨F1, F2, rfl, ?_, q.own⟩
    rcases hc with e | e
    · exact r1.step p.own (q.alt e).2.2 fun _ _ h => absurd h (by simp)
    · exact r1.step p.own q.step (p.sep e).1.dj
  sep := fun e => by
    simp only [Bool.and_eq_true] at e
    obtain ⟨k1, n1⟩ := p.sep e.1
    obtain ⟨k2, n2⟩ := q.sep e.2
    have th := r1.there p.own
    have k1' := k1.step th q.step
    refine ⟨⟨List.nodup_append.mpr ⟨k1'.nd, k2.nd, fun a x b y e => ?_⟩, fun a x => ?_, fun a x => ?_⟩, fun a x => ?_⟩
    · subst e
      rcases n2 a y with z | z
      · exact k1.dj a x z
      · exact th a x z
    · rcases List.mem_append.mp x with x | x
      · exact k1'.dj a x
      · exact k2.dj a x
    · rcases List.mem_append.mp x with x | x
      · exact k1'.off a x
      · exact k2.off a x
    · rcases List.mem_append.mp x with x | x
      · exact n1 a x
      · rcases n2 a x with z | z
        · exact p.step.new a z
        · by_cases y : H a = none
          · exact .inr y
          · by_cases w : a ∈ U
            · exact .inl w
            · rw [p.step.keep a y w] at z; exact absurd z y
  step := p.step.trans q.step
  alt := fun e => by
    simp only [Bool.or_eq_false_iff] at e
    obtain ⟨x1, x2, x3⟩ := p.alt e.1
    obtain ⟨y1, y2, y3⟩ := q.alt e.2
    exact ⟨y1.trans x1, y2.trans x2, x3.trans y3⟩

/-- a reading's end: something new, all else as it was -/
structure New (mg : Ev) (B H : Hp) (v : V) (d : D) (B' H' : Hp) (F : List Addr) : Prop where
  own : Own mg B' H' v d F
  step : Step B H [] B' H' []
  nd : F.Nodup
  nw : ∀ a ∈ F, H a = none ∧ B' a = none
theorem New.flat {v : V} {d : D} (hs : ∀ a o, B a = some o → H a = some o) (h : Own mg B H v d []) : New mg B H v d B H [] := ⟨h, Step.refl hs, List.nodup_nil, fun _ h => absurd h (by simp)⟩
theorem Post.fin {v : V} {d : D} (p : Post mg alt sep B H σ ρ U ρ1 r B1 H1 U1 F) (q : New mg B1 H1 v d B' H' F') : Post mg alt true B H σ ρ U ρ1 (oV mg v d) B' H' U1 F' where
  st := p.st.stepN q.step
  own := q.own
  sep := fun _ => ⟨⟨q.nd, fun a x y => p.st.ex a y (q.nw a x).1, fun a x => (q.nw a x).2⟩, fun a x => by
    by_cases y : H a = none
    · exact .inr y
    · by_cases w : a ∈ U
      · exact .inl w
      · have := p.step.keep a y w
        rw [(q.nw a x).1] at this
        exact absurd this.symm y⟩
  step := p.step.trans q.step.none_of
  alt := fun e => by
    obtain ⟨x, y, z⟩ := p.alt e
    exact ⟨x, y, z.trans q.step⟩
/-- less is told -/
theorem Post.weak (p : Post mg a1 s1 B H σ ρ U ρ' r B' H' U' F) (ha : a2 = false → a1 = false) (hs : s2 = true → s1 = true) : Post mg a2 s2 B H σ ρ U ρ' r B' H' U' F :=
  ⟨p.st, p.own, fun e => p.sep (hs e), p.step, fun e => p.alt (ha e)⟩
end

/-- how an exception lies -/
def ExcR (mg : Ev) (B H : Hp) (e : Exc) (cls : Value) (dx : Option Addr) : Prop :=
  ∃ C, mg.mg e.cls = some (.ref C) ∧ cls = .ref C ∧ ((e.fs = [] ∧ dx = none) ∨ ∃ a vs, e.fs ≠ [] ∧ dx = some a ∧ B a = some (.xd ((e.fs.map (·.1)).zip vs)) ∧ Owns mg B H vs (e.fs.map (·.2)) [])
def excW (mg : Ev) (W : WX) (B H : Hp) (σ : St) (U : List Addr) (e : Exc) (ρ' : Rho) : Prop :=
  ∀ B' H' U' cls dx, Eng.Sta mg B' H' σ ρ' U' → Step B H U B' H' U' → ExcR mg B' H' e cls dx → W cls dx σ H'

def tE (mg : Ev) (W : WX) (alt sep : Bool) (m : M D) : TE := fun σ H Q => ∃ B ρ U, Eng.Sta mg B H σ ρ U ∧ match m ρ with
  | .ok d ρ' => ∀ v B' H' U' F, Post mg alt sep B H σ ρ U ρ' (oV mg v d) B' H' U' F → Q v H'
  | .exc e ρ' => excW mg W B H σ U e ρ'
  | .stuck => False
def tT (mg : Ev) (W : WX) (alt : Bool) (m : M Bool) : TT := fun σ H Q => ∃ B ρ U, Eng.Sta mg B H σ ρ U ∧ match m ρ with
  | .ok b ρ' => ∀ B' H' U', Post mg alt true B H σ ρ U ρ' (oN mg) B' H' U' [] → Q b H'
  | .exc e ρ' => excW mg W B H σ U e ρ'
  | .stuck => False
def tL (mg : Ev) (W : WX) (alt sep : Bool) (m : M (List D)) : TA := fun σ H Q => ∃ B ρ U, Eng.Sta mg B H σ ρ U ∧ match m ρ with
  | .ok ds ρ' => ∀ vs B' H' U' F, Post mg alt sep B H σ ρ U ρ' (oL mg vs ds) B' H' U' F → Q vs H'
  | .exc e ρ' => excW mg W B H σ U e ρ'
  | .stuck => False
def PD (X : Cx) (W : WX) (alt sep : Bool) (e : Expr) (m : M D) : Prop := PE X e (tE X.ev W alt sep m)
def PDT (X : Cx) (W : WX) (alt : Bool) (e : Expr) (m : M Bool) : Prop := PT X e (tT X.ev W alt m)
def PDW (X : Cx) (W : WX) (alt : Bool) (e : Expr) (m : M Bool) : Prop := PW X e (tT X.ev W alt m)
def PDL (X : Cx) (W : WX) (alt sep : Bool) (es : List Expr) (m : M (List D)) : Prop := PA X es (tL X.ev W alt sep m)

theorem PE.weak {X : Cx} {e : Expr} {t t' : TE} (h : PE X e t) (w : ∀ σ H Q, t' σ H Q → t σ H Q) : PE X e t' := ⟨fun pins s σ H Q I q => h.run pins s σ H Q I (w _ _ _ q)⟩
theorem PT.weak {X : Cx} {e : Expr} {t t' : TT} (h : PT X e t) (w : ∀ σ H Q, t' σ H Q → t σ H Q) : PT X e t' := ⟨fun pins s σ H Q I q => h.run pins s σ H Q I (w _ _ _ q)⟩
theorem PW.weak {X : Cx} {e : Expr} {t t' : TT} (h : PW X e t) (w : ∀ σ H Q, t' σ H Q → t σ H Q) : PW X e t' := ⟨fun wh pins s σ H Q I q => h.run wh pins s σ H Q I (w _ _ _ q)⟩
theorem PA.weak {X : Cx} {e : List Expr} {t t' : TA} (h : PA X e t) (w : ∀ σ H Q, t' σ H Q → t σ H Q) : PA X e t' := ⟨fun pos pins s σ H Q I q => h.run pos pins s σ H Q I (w _ _ _ q)⟩
theorem PS.weak {X : Cx} {e : Stmt} {t t' : TS} (h : PS X e t) (w : ∀ D σ H, t' D σ H → t D σ H) : PS X e t' := ⟨fun pins s σ H D I q => h.run pins s σ H D I (w _ _ _ q)⟩
theorem PSs.weak {X : Cx} {e : List Stmt} {t t' : TS} (h : PSs X e t) (w : ∀ D σ H, t' D σ H → t D σ H) : PSs X e t' := ⟨fun pins s σ H D I q => h.run pins s σ H D I (w _ _ _ q)⟩

section
variable {X : Cx} {W : WX} {alt alt' sep sep' a1 a2 s1 s2 : Bool} {e ea eb : Expr} {es : List Expr} {m ma mb : M D} {ms : M (List D)} {mc : M Bool} {pos : Pos}

/-- the exception's wish goes back over a step -/
theorem excW.back {mg : Ev} {W : WX} {B H B' H' : Hp} {σ : St} {U U' : List Addr} {x : Exc} {ρ' : Rho} (h : excW mg W B H σ U x ρ') (s : Step B H U B' H' U') : excW mg W B' H' σ U' x ρ' :=
  fun B2 H2 U2 cls dx st t r => h B2 H2 U2 cls dx st (s.trans t) r

/-- less is told of an expression -/
theorem PD.to (h : PD X W a1 s1 e m) (ha : a2 = false → a1 = false := by decide) (hs : s2 = true → s1 = true := by decide) : PD X W a2 s2 e m := PE.weak h fun σ H Q ⟨B, ρ, U, st, k⟩ => by
  refine ⟨B, ρ, U, st, ?_⟩
  cases hm : m ρ with
  | ok d ρ' => rw [hm] at k; exact fun v B' H' U' F p => k v B' H' U' F (p.weak ha hs)
  | exc x ρ' => rw [hm] at k; exact k
  | stuck => rw [hm] at k; exact k
/-- it is frozen: so it is nobody's -/
def eFz (m : M D) : M D := fun ρ => match m ρ with
  | .ok d ρ' => if d.frz then .ok d ρ' else .stuck
  | .exc e ρ' => .exc e ρ'
  | .stuck => .stuck
theorem d_fz (h : PD X W alt sep e m) : PD X W alt true e (eFz m) := PE.weak h fun σ H Q ⟨B, ρ, U, st, k⟩ => by
  refine ⟨B, ρ, U, st, ?_⟩
  unfold eFz at k
  cases hm : m ρ with
  | ok d ρ' =>
    rw [hm] at k
    by_cases hf : d.frz = true
    · simp only [hf, if_true] at k
      intro v B' H' U' F p
      obtain rfl := Own.nil_of p.own hf
      exact k v B' H' U' [] ⟨p.st, p.own, fun _ => ⟨Sep.nil, fun _ h => absurd h (by simp)⟩, p.step, p.alt⟩
    · simp [hf] at k
  | exc x ρ' => rw [hm] at k; exact k
  | stuck => rw [hm] at k; exact k

/-! ### names and constants -/
def ePk (i : Nat) : M D := fun ρ => match ρ[i]? with
  | some (some d) => .ok d ρ
  | _ => .stuck
theorem d_pk (i : Nat) {x : Str} (hN : X.N[i]? = some x := by rfl) (hv : Vis X.env.scope x := by first | exact Or.inl rfl | exact Or.inr (Or.inl rfl) | exact Or.inr (Or.inr rfl)) (hd : (x == ("__debug__" : Str)) = false := by decide)
    (hcd : (x == ("__classdict__" : Str)) = false := by decide) : PD X W false false (.Name x pos) (ePk i) := PE.weak (pe_var (i := i) hN hv hd hcd) fun σ H Q ⟨B, ρ, U, st, k⟩ => by
  unfold ePk at k
  cases hr : ρ[i]? with
  | none => rw [hr] at k; exact k.elim
  | some o =>
    cases o with
    | none => rw [hr] at k; exact k.elim
    | some d =>
      rw [hr] at k
      obtain ⟨_, Fs, _, _, kk⟩ := st.sl
      obtain ⟨v, F, e1, e2, o⟩ := kk i d hr
      exact ⟨v, e1, k v B H U F ⟨st, o, fun h => by simp at h, Step.refl st.sub, fun _ => ⟨rfl, rfl, Step.refl st.sub⟩⟩⟩
def eVar (i : Nat) : M D := eFz (ePk i)
theorem d_var (i : Nat) {x : Str} (hN : X.N[i]? = some x := by rfl) (hv : Vis X.env.scope x := by first | exact Or.inl rfl | exact Or.inr (Or.inl rfl) | exact Or.inr (Or.inr rfl)) (hd : (x == ("__debug__" : Str)) = false := by decide)
    (hcd : (x == ("__classdict__" : Str)) = false := by decide) : PD X W false true (.Name x pos) (eVar i) := d_fz (d_pk i hN hv hd hcd)
/-- the slot gives it away -/
def eMov (i : Nat) : M D := fun ρ => match ρ[i]? with
  | some (some d) => .ok d (ρ.set i none)
  | _ => .stuck
theorem d_mov (i : Nat) {x : Str} (hN : X.N[i]? = some x := by rfl) (hv : Vis X.env.scope x := by first | exact Or.inl rfl | exact Or.inr (Or.inl rfl) | exact Or.inr (Or.inr rfl)) (hd : (x == ("__debug__" : Str)) = false := by decide)
    (hcd : (x == ("__classdict__" : Str)) = false := by decide) : PD X W true true (.Name x pos) (eMov i) := PE.weak (pe_var (i := i) hN hv hd hcd) fun σ H Q ⟨B, ρ, U, st, k⟩ => by
  unfold eMov at k
  cases hr : ρ[i]? with
  | none => rw [hr] at k; exact k.elim
  | some o =>
    cases o with
    | none => rw [hr] at k; exact k.elim
    | some d =>
      rw [hr] at k
      obtain ⟨v, F, U', e, o, sp, st', m⟩ := st.take hr
      refine ⟨v, e, k v B H U' F ⟨st', o, fun _ => ⟨sp, fun a x => .inl ((m a).mpr (.inl x))⟩, ?_, fun h => by simp at h⟩⟩
      exact (Step.refl (U := U) st.sub).weak (fun _ h => h) fun a x => .inl ((m a).mpr (.inr x))
def eK (d : D) : M D := mPure d
theorem d_atom {v : V} {d : D} (h : PE X e (tC v)) (ha : ∀ B, Atom X.ev B v d) : PD X W false true e (eK d) := PE.weak h fun σ H Q ⟨B, ρ, U, st, k⟩ =>
  k v B H U [] ⟨st, .atom (ha B), fun _ => ⟨Sep.nil, fun _ h => absurd h (by simp)⟩, Step.refl st.sub, fun _ => ⟨rfl, rfl, Step.refl st.sub⟩⟩
theorem d_int {i : Int} {j} : PD X W false true (.Constant (.int i) j pos) (eK (.int i)) := d_atom pe_int fun _ => rfl
theorem d_bl {b : Bool} {j} : PD X W false true (.Constant (.bool b) j pos) (eK (.bl b)) := d_atom pe_bl fun _ => rfl
theorem d_non {j} : PD X W false true (.Constant .none j pos) (eK .non) := d_atom pe_non fun _ => trivial
theorem d_str {x : Str} {j} {s : List Nat} (hs : x.cps.toList = s := by rfl) : PD X W false true (.Constant (.str x) j pos) (eK (.str s)) := d_atom pe_str fun _ => hs
/-- a module's constant -/
theorem d_glob {x : Str} {v : V} {u : Value} {d : D} (hg : Gl X x) (hm : X.mg x = some u) (r : RelV v u) (ha : ∀ B, Atom X.ev B v d) (hd : (x == ("__debug__" : Str)) = false := by decide) : PD X W false true (.Name x pos) (eK d) := d_atom (pe_glob hg hm r hd) ha

/-! ### two-place operators -/
/-- an operator on data that makes something new or nothing -/
def OpD (X : Cx) (g : Value → Value → Sem Value) (f : D → D → Option D) : Prop :=
  OpR X g fun x y H Q => ∃ B d e F G z, (∀ a o, B a = some o → H a = some o) ∧ Own X.ev B H x d F ∧ Own X.ev B H y e G ∧ f d e = some z ∧ ∀ w B' H' K, New X.ev B H w z B' H' K → Q w H'
def eOp (f : D → D → Option D) (ma mb : M D) : M D := mBind ma fun d => mBind mb fun e => mOpt (f d e)
theorem d_two {f : D → D → Option D} {r : R2} (t : PE X e (tOp r (tE X.ev W a1 s1 ma) (tE X.ev W a2 s2 mb)))
    (ho : ∀ x y H Q, (∃ B d e F G z, (∀ a o, B a = some o → H a = some o) ∧ Own X.ev B H x d F ∧ Own X.ev B H y e G ∧ f d e = some z ∧ ∀ w B' H' K, New X.ev B H w z B' H' K → Q w H') → r x y H Q)
    (hc : (!a2 || s1) = true := by decide) : PD X W (a1 || a2) true e (eOp f ma mb) := PE.weak t fun σ H Q ⟨B, ρ, U, st, k⟩ => by
  have hc' : a2 = false ∨ s1 = true := by cases a2 <;> simp_all
  refine ⟨B, ρ, U, st, ?_⟩
  unfold eOp mBind at k
  cases hm : ma ρ with
  | ok d ρ1 =>
    rw [hm] at k
    intro v B1 H1 U1 F1 p
    refine ⟨B1, ρ1, U1, p.st, ?_⟩
    dsimp only [Res.bind] at k
    cases hm2 : mb ρ1 with
    | ok d2 ρ2 =>
      rw [hm2] at k
      intro v2 B2 H2 U2 F2 q
      have pq := p.comb q hc'
      obtain ⟨G1, G2, _, o1, o2⟩ := pq.own
      dsimp only [mOpt] at k
      cases hf : f d d2 with
      | none => rw [hf] at k; exact k.elim
      | some z =>
        rw [hf] at k
        refine ho _ _ _ _ ⟨B2, d, d2, G1, G2, z, pq.st.sub, o1, o2, hf, fun w B' H' K nw => ?_⟩
        exact k w B' H' U2 K (pq.fin nw)
    | exc x ρ2 => rw [hm2] at k; exact k.back p.step
    | stuck => rw [hm2] at k; exact k
  | exc x ρ1 => rw [hm] at k; exact k
  | stuck => rw [hm] at k; exact k
theorem d_op {op : Operator} {f : D → D → Option D} (ho : OpD X (binaryOp op) f) (ha : PD X W a1 s1 ea ma) (hb : PD X W a2 s2 eb mb) (hc : (!a2 || s1) = true := by decide) : PD X W (a1 || a2) true (.BinOp ea op eb pos) (eOp f ma mb) :=
  d_two (pe_op ho ha hb) (fun _ _ _ _ h => h) hc
theorem d_cmp {op : CmpOp} {f : D → D → Option D} (ho : OpD X (compareOp op) f) (ha : PD X W a1 s1 ea ma) (hb : PD X W a2 s2 eb mb) (hm : behindInMarks op eb = false := by first | exact nomark _ | rfl) (hc : (!a2 || s1) = true := by decide) :
    PD X W (a1 || a2) true (.Compare ea [op] [eb] pos) (eOp f ma mb) :=
  d_two (pe_cmpR ho ha hb hm) (fun _ _ _ _ h => h) hc
theorem OpD.or {g : Value → Value → Sem Value} {f f' : D → D → Option D} (h : OpD X g f) (h' : OpD X g f') : OpD X g (fun d e => match f d e with | some z => some z | none => f' d e) := by
  intro pins s σ H x y v u Q I r1 r2 ⟨B, d, e, F, G, z, hs, o1, o2, hf, q⟩
  cases h1 : f d e with
  | some z' =>
    simp only [h1] at hf; cases hf
    exact h pins s σ H x y v u Q I r1 r2 ⟨B, d, e, F, G, _, hs, o1, o2, h1, q⟩
  | none =>
    simp only [h1] at hf
    exact h' pins s σ H x y v u Q I r1 r2 ⟨B, d, e, F, G, z, hs, o1, o2, hf, q⟩
end
end Eng
/-! Eng4: operators on data. -/
namespace Eng
open PySem PySem.Spec PyProof.Rows L2

def S (s : List Nat) : Str := ⟨s.toArray⟩
theorem S_list (s : List Nat) : (S s).cps.toList = s := by simp [S]
theorem S_of {x : Str} {s : List Nat} (h : x.cps.toList = s) : x = S s := by
  subst h; cases x; simp [S]
theorem S_len (s : List Nat) : (S s).length = s.length := by show (S s).cps.size = _; simp [S]
theorem S_app (s t : List Nat) : S s ++ S t = S (s ++ t) := by
  show (⟨(S s).cps ++ (S t).cps⟩ : Str) = _
  simp [S]

section
variable {mg : Ev} {B B' H H' : Hp} {v : V} {d : D} {vs : List V} {ds xs : List D} {F G : List Addr} {o : Bool}

theorem own_non (h : Own mg B H v .non F) : v = .non ∧ F = [] := by
  cases h with
  | atom h => cases v <;> simp [Atom] at h ⊢
  | fro h s t e => cases v <;> simp [Shape] at s
  | own h => simp [D.own] at h
theorem own_int {i : Int} (h : Own mg B H v (.int i) F) : v = .int i ∧ F = [] := by
  cases h with
  | atom h => cases v <;> simp [Atom] at h ⊢; exact h
  | fro h s t e => cases v <;> simp [Shape] at s
  | own h => simp [D.own] at h
theorem own_bl {i : Bool} (h : Own mg B H v (.bl i) F) : v = .bl i ∧ F = [] := by
  cases h with
  | atom h => cases v <;> simp [Atom] at h ⊢; exact h
  | fro h s t e => cases v <;> simp [Shape] at s
  | own h => simp [D.own] at h
theorem own_str {s : List Nat} (h : Own mg B H v (.str s) F) : v = .str (S s) ∧ F = [] := by
  cases h with
  | atom h => cases v <;> simp [Atom] at h ⊢; exact S_of h
  | fro h s t e => cases v <;> simp [Shape] at s
  | own h => simp [D.own] at h
theorem own_ty {n : String} (h : Own mg B H v (.ty n) F) : v = .ty n ∧ F = [] := by
  cases h with
  | atom h => cases v <;> simp [Atom] at h ⊢; exact h
  | fro h s t e => cases v <;> simp [Shape] at s
  | own h => simp [D.own] at h
theorem own_scr {ns : List Int} (h : Own mg B H v (.scr ns) F) : ∃ a, v = .ref a ∧ SqL mg.K B a (ns.map V.int) ∧ F = [] := by
  cases h with
  | atom h => cases v <;> simp [Atom] at h ⊢; exact h
  | fro h s t e => cases v <;> simp [Shape] at s
  | own h => simp [D.own] at h
theorem own_lst (hs : ∀ a u, B a = some u → H a = some u) (h : Own mg B H v (.lst o xs) F) : ∃ a vs G, v = .ref a ∧ H a = some (.lst vs) ∧ Owns mg B H vs xs G ∧ (o = false → B a = some (.lst vs) ∧ F = [] ∧ G = []) ∧ (o = true → F = a :: G) := by
  cases h with
  | atom h => cases v <;> simp [Atom] at h
  | fro h s t e =>
    cases v <;> simp [Shape] at s
    obtain ⟨s, rfl⟩ := s
    simp [D.own] at h; subst h
    have := e rfl; subst this
    exact ⟨_, _, [], rfl, hs _ _ s, t, fun _ => ⟨s, rfl, rfl⟩, fun h => by cases h⟩
  | own h s t =>
    cases v <;> simp [Shape] at s
    obtain ⟨s, rfl⟩ := s
    simp [D.own] at h; subst h
    exact ⟨_, _, _, rfl, s, t, ⟨fun h => by simp at h, fun _ => rfl⟩⟩
theorem own_tup (hs : ∀ a u, B a = some u → H a = some u) (h : Own mg B H v (.tup xs) F) : ∃ a vs, v = .ref a ∧ B a = some (.tup vs) ∧ H a = some (.tup vs) ∧ Owns mg B H vs xs F := by
  cases h with
  | atom h => cases v <;> simp [Atom] at h
  | fro h s t e =>
    cases v <;> simp [Shape] at s
    exact ⟨_, _, rfl, s.1, hs _ _ s.1, t⟩
  | own h => simp [D.own] at h
theorem lst_sql {K : PySem.W.Frag} (hs : ∀ a u, B a = some u → H a = some u) (h : Own mg B H v (.lst o xs) F) : ∃ a vs G, v = .ref a ∧ H a = some (.lst vs) ∧ SqL K H a vs ∧ Owns mg B H vs xs G := by
  obtain ⟨a, vs, G, e, h1, h2, _⟩ := own_lst hs h
  exact ⟨a, vs, G, e, h1, .inl (.inl h1), h2⟩
theorem tup_sqt {K : PySem.W.Frag} (hs : ∀ a u, B a = some u → H a = some u) (h : Own mg B H v (.tup xs) F) : ∃ a vs, v = .ref a ∧ SqT K H a vs ∧ Owns mg B H vs xs F := by
  obtain ⟨a, vs, e, _, h1, h2⟩ := own_tup hs h
  exact ⟨a, vs, e, .inl (.inl h1), h2⟩

theorem Owns.append : ∀ {vs ds F ws es G}, Owns mg B H vs ds F → Owns mg B H ws es G → Owns mg B H (vs ++ ws) (ds ++ es) (F ++ G)
  | _, _, _, _, _, _, .nil, t => t
  | _, _, _, _, _, _, .cons h r, t => by
    rw [List.append_assoc]
    exact .cons h (Owns.append r t)
theorem Owns.get : ∀ {vs ds F} (i : Nat) {d}, Owns mg B H vs ds F → ds[i]? = some d → ∃ v F1 F' F2, vs[i]? = some v ∧ Own mg B H v d F' ∧ F = F1 ++ (F' ++ F2)
  | _, _, _, i, _, .nil, h => by simp at h
  | _, _, _, 0, _, .cons h r, e => by
    simp at e; subst e
    exact ⟨_, [], _, _, rfl, h, rfl⟩
  | _, _, _, i + 1, _, .cons (F := F) h r, e => by
    simp at e
    obtain ⟨v, F1, F', F2, a, b, c⟩ := Owns.get i r e
    exact ⟨v, F ++ F1, F', F2, by simpa using a, b, by rw [c]; simp⟩
theorem Owns.take : ∀ {vs ds F} (n : Nat), Owns mg B H vs ds F → ∃ F1 F2, Owns mg B H (vs.take n) (ds.take n) F1 ∧ Owns mg B H (vs.drop n) (ds.drop n) F2 ∧ F = F1 ++ F2
  | _, _, _, 0, h => ⟨[], _, by simpa using .nil, by simpa using h, rfl⟩
  | _, _, _, n + 1, .nil => ⟨[], [], by simpa using .nil, by simpa using .nil, rfl⟩
  | _, _, _, n + 1, .cons (F := F) h r => by
    obtain ⟨F1, F2, a, b, c⟩ := Owns.take n r
    exact ⟨F ++ F1, F2, by simpa using .cons h a, by simpa using b, by rw [c]; simp⟩
theorem frzs_append {xs ys : List D} : frzs (xs ++ ys) = (frzs xs && frzs ys) := by
  induction xs with
  | nil => simp [frzs]
  | cons x r ih => simp [frzs, ih, Bool.and_assoc]
theorem frzs_get {xs : List D} {i : Nat} {d : D} (h : frzs xs = true) (e : xs[i]? = some d) : d.frz = true := by
  induction xs generalizing i with
  | nil => simp at e
  | cons x r ih =>
    simp [frzs] at h
    cases i with
    | zero => simp at e; subst e; exact h.1
    | succ i => simp at e; exact ih h.2 e
theorem frzs_iff {xs : List D} : frzs xs = true ↔ ∀ x ∈ xs, x.frz = true := by
  induction xs with
  | nil => simp [frzs]
  | cons x r ih => simp [frzs, ih]
/-- a new list of frozen data -/
theorem New.lst (hs : ∀ a o, B a = some o → H a = some o) (t : Owns mg B H vs ds []) {p : Addr} (hp : H p = none) : New mg B H (.ref p) (.lst true ds) B (upd H p (.lst vs)) [p] where
  own := by
    refine .own (A := [p]) (F := []) rfl ⟨upd_same, rfl⟩ (t.mono (fun _ _ h => h) fun _ h => absurd h (by simp))
  step := ⟨fun a o h => by rw [upd_ne (ne_of_none (hs a o h) hp)]; exact hs a o h, fun _ _ h => h, fun a h _ => by rw [upd_ne (fun z => h (by rw [z]; exact hp))], fun _ h => absurd h (by simp), fun a h => .inl h⟩
  nd := by simp
  nw := fun a h => by
    simp at h; subst h
    refine ⟨hp, ?_⟩
    cases e : B a with
    | none => rfl
    | some o => rw [hs _ _ e] at hp; cases hp
/-- a new tuple of frozen data -/
theorem New.tup (hs : ∀ a o, B a = some o → H a = some o) (t : Owns mg B H vs ds []) {p : Addr} (hp : H p = none) : New mg B H (.ref p) (.tup ds) (upd B p (.tup vs)) (upd H p (.tup vs)) [] where
  own := by
    have hb : B p = none := by
      cases e : B p with
      | none => rfl
      | some o => rw [hs _ _ e] at hp; cases hp
    refine .fro (A := []) rfl ⟨upd_same, rfl⟩ (t.mono (fun a o h => by rw [upd_ne (ne_of_none h hb)]; exact h) fun _ h => absurd h (by simp)) fun _ => rfl
  step := by
    have hb : B p = none := by
      cases e : B p with
      | none => rfl
      | some o => rw [hs _ _ e] at hp; cases hp
    refine ⟨fun a o h => ?_, fun a o h => by rw [upd_ne (ne_of_none h hb)]; exact h, fun a h _ => by rw [upd_ne (fun z => h (by rw [z]; exact hp))], fun _ h => absurd h (by simp), fun a h => ?_⟩
    · by_cases e : a = p
      · subst e; rw [upd_same] at h ⊢; exact h
      · rw [upd_ne e] at h ⊢; exact hs a o h
    · by_cases e : a = p
      · subst e; exact .inr (.inr hp)
      · rw [upd_ne e] at h; exact .inl h
  nd := by simp
  nw := fun a h => by simp at h
end

/-! ### arithmetic -/
def addD : D → D → Option D
  | .int i, .int j => some (.int (i + j))
  | .str s, .str t => if s.length + t.length ≤ 16777216 then some (.str (s ++ t)) else none
  | .lst _ xs, .lst _ ys => if frzs xs && frzs ys && decide (xs.length + ys.length ≤ 16777216) then some (.lst true (xs ++ ys)) else none
  | .tup xs, .tup ys => if frzs xs && frzs ys && decide (xs.length + ys.length ≤ 16777216) then some (.tup (xs ++ ys)) else none
  | _, _ => none
def IntMulE (i j : Int) : Bool := decide (i.natAbs.log2 + j.natAbs.log2 < 134000000)
def mulD : D → D → Option D
  | .int i, .int j => if IntMulE i j then some (.int (i * j)) else none
  | .str s, .int k => if decide (-(2 ^ 63) ≤ k ∧ k < 2 ^ 63 ∧ s.length * k.toNat ≤ 16777216) then some (.str (List.replicate k.toNat s).flatten) else none
  | .lst _ xs, .int k => if frzs xs && decide (-(2 ^ 63) ≤ k ∧ k < 2 ^ 63 ∧ xs.length * k.toNat ≤ 16777216) then some (.lst true (List.replicate k.toNat xs).flatten) else none
  | .tup xs, .int k => if frzs xs && decide (xs ≠ [] → 2 ≤ k ∧ k ≤ 1000 ∧ xs.length ≤ 1000) && !xs.isEmpty then some (.tup (List.replicate k.toNat xs).flatten) else none
  | _, _ => none
def subD : D → D → Option D
  | .int i, .int j => some (.int (i - j))
  | _, _ => none
def modD : D → D → Option D
  | .int i, .int j => if 0 < j then some (.int (i % j)) else none
  | _, _ => none
def fdivD : D → D → Option D
  | .int i, .int j => if 0 < j ∧ j.natAbs.log2 < 9000 then some (.int (i / j)) else none
  | _, _ => none
def powD : D → D → Option D
  | .int i, .int j => if 0 ≤ j ∧ j ≤ 1000000 ∧ i.natAbs < 2 ^ 64 then some (.int (i ^ j.toNat)) else none
  | _, _ => none
section
variable {X : Cx}
theorem mulE_ok {i j : Int} (h : IntMulE i j = true) : IntMulOk i j := by
  have b : ∀ x : Int, Builtin.Int.intBits x ≤ x.natAbs.log2 + 1 := fun x => by
    unfold Builtin.Int.intBits
    split <;> omega
  have h1 := b i
  have h2 := b j
  have h3 : i.natAbs.log2 + j.natAbs.log2 < 134000000 := of_decide_eq_true h
  have e : bitsLine = 134217728 := by decide
  unfold IntMulOk
  intro z
  rw [Bool.and_eq_true] at z
  have z2 := z.2
  unfold Builtin.Int.intTooBig at z2
  have z3 := of_decide_eq_true z2
  rw [e] at z3
  omega
theorem OpR.or3 {f : Value → Value → Sem Value} {r r' : R2} (h : OpR X f r) (h' : OpR X f r') : OpR X f (fun x y H Q => r x y H Q ∨ r' x y H Q) := L2.OpR.or h h'
theorem od_add : OpD X (binaryOp .Add) addD := by
  intro pins s σ H x y v u Q I r1 r2 ⟨B, d, e, F, G, z, hs, o1, o2, hf, q⟩
  unfold addD at hf
  split at hf
  · cases hf
    obtain ⟨rfl, rfl⟩ := own_int o1
    obtain ⟨rfl, rfl⟩ := own_int o2
    exact op_add pins s σ H _ _ v u Q I r1 r2 ⟨_, _, rfl, rfl, q _ B H [] (New.flat hs (.atom rfl))⟩
  · rename_i a b
    split at hf <;> cases hf
    obtain ⟨rfl, rfl⟩ := own_str o1
    obtain ⟨rfl, rfl⟩ := own_str o2
    refine op_add_str pins s σ H _ _ v u Q I r1 r2 ⟨S a, S b, rfl, rfl, by rw [S_len, S_len]; assumption, ?_⟩
    exact q _ B H [] (New.flat hs (.atom (by rw [S_app]; exact S_list _)))
  · rename_i o1' xs o2' ys
    split at hf <;> cases hf
    rename_i hc
    simp only [Bool.and_eq_true, decide_eq_true_eq] at hc
    obtain ⟨⟨c1, c2⟩, c3⟩ := hc
    obtain ⟨a, vs, K1, rfl, h1, t1, _⟩ := own_lst hs o1
    obtain ⟨b, ws, K2, rfl, h2, t2, _⟩ := own_lst hs o2
    obtain rfl := Owns.nil_of t1 c1
    obtain rfl := Owns.nil_of t2 c2
    refine op_cat pins s σ H _ _ v u Q I r1 r2 ⟨a, b, vs, ws, rfl, rfl, h1, h2, by rw [t1.len, t2.len]; exact c3, fun p hp => ?_⟩
    exact q _ _ _ _ (New.lst hs (t1.append t2) hp)
  · rename_i xs ys
    split at hf <;> cases hf
    rename_i hc
    simp only [Bool.and_eq_true, decide_eq_true_eq] at hc
    obtain ⟨⟨c1, c2⟩, c3⟩ := hc
    obtain ⟨a, vs, rfl, h1, t1⟩ := tup_sqt (K := X.K) hs o1
    obtain ⟨b, ws, rfl, h2, t2⟩ := tup_sqt (K := X.K) hs o2
    obtain rfl := Owns.nil_of t1 c1
    obtain rfl := Owns.nil_of t2 c2
    refine op_catA pins s σ H _ _ v u Q I r1 r2 ⟨a, b, vs, ws, rfl, rfl, h1, h2, by rw [t1.len, t2.len]; exact c3, fun e => ?_, fun _ e => ?_, fun _ _ p hp => ?_⟩
    · have : xs = [] := List.length_eq_zero_iff.mp (by rw [← t1.len, e]; rfl)
      subst this
      exact q _ _ _ _ (New.flat hs o2)
    · have : ys = [] := List.length_eq_zero_iff.mp (by rw [← t2.len, e]; rfl)
      subst this
      rw [List.append_nil] at q
      exact q _ _ _ _ (New.flat hs o1)
    · exact q _ _ _ _ (New.tup hs (t1.append t2) hp)
  · cases hf
theorem od_sub : OpD X (binaryOp .Sub) subD := by
  intro pins s σ H x y v u Q I r1 r2 ⟨B, d, e, F, G, z, hs, o1, o2, hf, q⟩
  unfold subD at hf
  split at hf <;> cases hf
  obtain ⟨rfl, rfl⟩ := own_int o1
  obtain ⟨rfl, rfl⟩ := own_int o2
  exact op_sub pins s σ H _ _ v u Q I r1 r2 ⟨_, _, rfl, rfl, q _ B H [] (New.flat hs (.atom rfl))⟩
theorem od_mod : OpD X (binaryOp .Mod) modD := by
  intro pins s σ H x y v u Q I r1 r2 ⟨B, d, e, F, G, z, hs, o1, o2, hf, q⟩
  unfold modD at hf
  split at hf
  · split at hf <;> cases hf
    obtain ⟨rfl, rfl⟩ := own_int o1
    obtain ⟨rfl, rfl⟩ := own_int o2
    exact op_mod pins s σ H _ _ v u Q I r1 r2 ⟨_, _, rfl, rfl, by assumption, q _ B H [] (New.flat hs (.atom rfl))⟩
  · cases hf
theorem od_fdiv : OpD X (binaryOp .FloorDiv) fdivD := by
  intro pins s σ H x y v u Q I r1 r2 ⟨B, d, e, F, G, z, hs, o1, o2, hf, q⟩
  unfold fdivD at hf
  split at hf
  · split at hf <;> cases hf
    obtain ⟨rfl, rfl⟩ := own_int o1
    obtain ⟨rfl, rfl⟩ := own_int o2
    exact op_fdivW pins s σ H _ _ v u Q I r1 r2 ⟨_, _, rfl, rfl, by assumption, q _ B H [] (New.flat hs (.atom rfl))⟩
  · cases hf
theorem od_pow : OpD X (binaryOp .Pow) powD := by
  intro pins s σ H x y v u Q I r1 r2 ⟨B, d, e, F, G, z, hs, o1, o2, hf, q⟩
  unfold powD at hf
  split at hf
  · split at hf <;> cases hf
    obtain ⟨rfl, rfl⟩ := own_int o1
    obtain ⟨rfl, rfl⟩ := own_int o2
    exact op_pow pins s σ H _ _ v u Q I r1 r2 ⟨_, _, rfl, rfl, by assumption, q _ B H [] (New.flat hs (.atom rfl))⟩
  · cases hf
/-- text * int -/
theorem op_mulS : OpR X (binaryOp .Mult) (fun x y H Q => ∃ (a : Str) (k : Int), x = .str a ∧ y = .int k ∧ -(2 ^ 63) ≤ k ∧ k < 2 ^ 63 ∧ a.length * k.toNat ≤ sizeLine ∧ Q (.str (S (List.replicate k.toNat a.cps.toList).flatten)) H) := by
  intro pins s σ H x y v u Q I r1 r2 ⟨a, k, e1, e2, h1, h2, h3, q⟩
  subst e1; subst e2
  obtain ⟨t, rfl⟩ := r1
  obtain ⟨t', rfl⟩ := r2
  have hz : sizeLine = 16777216 := sizeLine_eq
  refine PySem.P.mul_str (by rw [decide_eq_false (by omega), decide_eq_false (by omega)]; rfl) (fun n1 _ => ?_) (fun n1 _ => ?_) ?_
  · have hk : (k.toNat : Int) = k := by omega
    have hm : (a.length : Int) * k ≤ 16777216 := by
      have : ((a.length * k.toNat : Nat) : Int) ≤ 16777216 := by omega
      rw [Int.natCast_mul, hk] at this; exact this
    have h5 : (a.length : Int) ≤ (2 ^ 63 - 1) / k := by
      rw [Int.le_ediv_iff_mul_le (by omega)]; omega
    omega
  · exact PyProof.Rows.short24 (by omega)
  · by_cases c1 : k < 1
    · rw [if_pos c1]
      have : k.toNat = 0 := by omega
      rw [this] at q
      exact ⟨Nat.zero_le _, .str Str.empty, H, I.tok _, ⟨_, rfl⟩, q⟩
    · rw [if_neg c1]
      split
      · rename_i c2
        refine ⟨.str _, H, I, ⟨t, ?_⟩, q⟩
        simp only [Bool.or_eq_true, beq_iff_eq] at c2
        have e : (List.replicate k.toNat a.cps.toList).flatten = a.cps.toList := by
          rcases c2 with c2 | c2
          · subst c2; simp
          · have : a.cps.toList = [] := List.length_eq_zero_iff.mp (by rw [Array.length_toList]; exact c2)
            rw [this]; simp
        rw [e]
        exact congrArg (fun z => Value.str z t) (S_of rfl)
      · have e : ∀ (n : Nat) (z : Array Nat), ((List.replicate n a.cps).foldl (· ++ ·) z) = z ++ (List.replicate n a.cps.toList).flatten.toArray := by
          intro n
          induction n with
          | zero => intro z; simp
          | succ n ih => intro z; rw [List.replicate_succ, List.foldl_cons, ih, List.replicate_succ, List.flatten_cons]; apply Array.ext'; simp
        have e2 : (⟨(List.replicate k.toNat a.cps).foldl (· ++ ·) #[]⟩ : Str) = S (List.replicate k.toNat a.cps.toList).flatten := by
          rw [e]; simp [S]
        refine ⟨?_, .str _, H, I.tok _, ⟨_, rfl⟩, ?_⟩
        · rw [e2, S_len]
          have : ∀ n : Nat, (List.replicate n a.cps.toList).flatten.length = n * a.length := by
            intro n
            induction n with
            | zero => simp
            | succ n ih => rw [List.replicate_succ, List.flatten_cons, List.length_append, ih, Array.length_toList, Nat.succ_mul, Nat.add_comm]; rfl
          rw [this, Nat.mul_comm]; exact h3
        · rw [e2]; exact q
theorem od_mul : OpD X (binaryOp .Mult) mulD := by
  intro pins s σ H x y v u Q I r1 r2 ⟨B, d, e, F, G, z, hs, o1, o2, hf, q⟩
  unfold mulD at hf
  split at hf
  · split at hf <;> cases hf
    rename_i hc
    obtain ⟨rfl, rfl⟩ := own_int o1
    obtain ⟨rfl, rfl⟩ := own_int o2
    obtain ⟨t, rfl⟩ := r1
    obtain ⟨t', rfl⟩ := r2
    exact PyProof.Rows.mul_int ⟨.int _, H, I.tok _, ⟨_, rfl⟩, q _ B H [] (New.flat hs (.atom rfl))⟩ (mulE_ok hc)
  · rename_i a k
    split at hf <;> cases hf
    rename_i hc
    simp only [decide_eq_true_eq] at hc
    obtain ⟨rfl, rfl⟩ := own_str o1
    obtain ⟨rfl, rfl⟩ := own_int o2
    refine op_mulS pins s σ H _ _ v u Q I r1 r2 ⟨S a, k, rfl, rfl, hc.1, hc.2.1, by rw [S_len]; exact hc.2.2, ?_⟩
    refine q _ B H [] (New.flat hs (.atom ?_))
    rw [S_list]; exact S_list _
  · rename_i o' xs k
    split at hf <;> cases hf
    rename_i hc
    simp only [Bool.and_eq_true, decide_eq_true_eq] at hc
    obtain ⟨c1, c2, c3, c4⟩ := hc
    obtain ⟨a, vs, K1, rfl, h1, t1, _⟩ := own_lst hs o1
    obtain ⟨rfl, rfl⟩ := own_int o2
    obtain rfl := Owns.nil_of t1 c1
    refine op_rep pins s σ H _ _ v u Q I r1 r2 ⟨a, k, vs, rfl, rfl, h1, c2, c3, by rw [t1.len]; exact c4, fun p hp => ?_⟩
    refine q _ _ _ _ (New.lst hs ?_ hp)
    clear c4
    induction k.toNat with
    | zero => exact .nil
    | succ n ih => rw [List.replicate_succ, List.replicate_succ, List.flatten_cons, List.flatten_cons]; exact t1.append ih
  · rename_i xs k
    split at hf <;> cases hf
    rename_i hc
    simp only [Bool.and_eq_true, decide_eq_true_eq, Bool.not_eq_true', List.isEmpty_eq_false_iff] at hc
    obtain ⟨⟨c1, c2⟩, c3⟩ := hc
    obtain ⟨a, vs, rfl, h1, t1⟩ := tup_sqt (K := X.K) hs o1
    obtain ⟨rfl, rfl⟩ := own_int o2
    obtain rfl := Owns.nil_of t1 c1
    have c2 := c2 c3
    refine op_repT pins s σ H _ _ v u Q I r1 r2 ⟨a, k, vs, rfl, rfl, h1, fun e => c3 (List.length_eq_zero_iff.mp (by rw [← t1.len, e]; rfl)), c2.1, c2.2.1, by rw [t1.len]; exact c2.2.2, fun p hp => ?_⟩
    refine q _ _ _ _ (New.tup hs ?_ hp)
    induction k.toNat with
    | zero => exact .nil
    | succ n ih => rw [List.replicate_succ, List.replicate_succ, List.flatten_cons, List.flatten_cons]; exact t1.append ih
  · cases hf
end
end Eng
/-! Eng5: comparisons, tests, displays, items, slices. -/
namespace Eng
open PySem PySem.Spec PyProof.Rows L2

/-! ### equality -/
mutual
def toPy : D → PyData
  | .non => .none
  | .bl b => .bool b
  | .int i => .int i
  | .str s => .str (S s)
  | .lst _ xs => .list (toPys xs)
  | .tup xs => .tuple (toPys xs)
  | .ty _ => .dict []
  | .scr _ => .dict []
  | .dic _ _ => .dict []
  | .ins _ _ _ => .dict []
  | .exo _ _ => .dict []
def toPys : List D → List PyData
  | [] => []
  | d :: ds => toPy d :: toPys ds
end
def eqOk (d : D) : Bool := SeqAt.shaped (toPy d)
def eqB (d e : D) : Bool := PyData.eqv (toPy d) (toPy e)
def flatEq : D → D → Option Bool
  | .non, .non => some true
  | .non, .int _ => some false
  | .int _, .non => some false
  | .non, .bl _ => some false
  | .bl _, .non => some false
  | .non, .str _ => some false
  | .str _, .non => some false
  | .int i, .int j => some (decide (i = j))
  | .bl i, .bl j => some (decide (i = j))
  | .str i, .str j => some (decide (i = j))
  | .int _, .str _ => some false
  | .str _, .int _ => some false
  | .bl _, .str _ => some false
  | .str _, .bl _ => some false
  | _, _ => none
def eqD (d e : D) : Option D := match flatEq d e with
  | some b => some (.bl b)
  | none => if eqOk d && eqOk e then some (.bl (eqB d e)) else none
def neD (d e : D) : Option D := match flatEq d e with
  | some b => some (.bl !b)
  | none => if eqOk d && eqOk e then some (.bl !(eqB d e)) else none
section
variable {mg : Ev} {B H : Hp} {K : PySem.W.Frag}
theorem own_node_dp (hs : ∀ a o, B a = some o → H a = some o) {v : V} {d : D} {vs : List V} {A : List Addr} (hd : (toPy d).canLay0 = true) (ih : PyData.canLayAll0 (toPys d.kids) = true → DpAll K H vs (toPys d.kids)) :
    (Shape mg B v d vs A ∨ Shape mg H v d vs A) → Dp K H v (toPy d) := by
  intro h
  have h : Shape mg H v d vs A := by
    rcases h with h | h
    · exact h.mono hs
    · exact h
  cases v <;> cases d <;> simp only [Shape] at h <;> simp only [toPy] at hd ⊢
  · simp only [PyData.canLay0] at hd
    exact .lst (.inl (.inl h.1)) (ih hd)
  · simp only [PyData.canLay0] at hd
    exact .tup (.inl (.inl h.1)) (ih hd)
  · simp [PyData.canLay0] at hd
  · simp [PyData.canLay0] at hd
theorem atom_dp {v : V} {d : D} (hd : (toPy d).canLay0 = true) (h : Atom mg B v d) : Dp K H v (toPy d) := by
  cases v <;> cases d <;> simp only [Atom] at h <;> simp only [toPy] at hd ⊢
  · exact .non
  · subst h; exact .bl _
  · subst h; exact .int _
  · rw [← S_of h]; exact .str _
  · simp [PyData.canLay0] at hd
  · simp [PyData.canLay0] at hd
  · simp [PyData.canLay0] at hd
mutual
theorem own_dp (hs : ∀ a o, B a = some o → H a = some o) : ∀ {v d F}, Own mg B H v d F → (toPy d).canLay0 = true → Dp K H v (toPy d)
  | _, _, _, .atom h, hd => atom_dp hd h
  | _, _, _, .fro _ s t _, hd => own_node_dp hs hd (fun h => owns_dp hs t h) (.inl s)
  | _, _, _, .own _ s t, hd => own_node_dp hs hd (fun h => owns_dp hs t h) (.inr s)
theorem owns_dp (hs : ∀ a o, B a = some o → H a = some o) : ∀ {vs ds F}, Owns mg B H vs ds F → PyData.canLayAll0 (toPys ds) = true → DpAll K H vs (toPys ds)
  | _, _, _, .nil, _ => .nil
  | _, _, _, .cons h t, hd => by
    simp only [toPys, PyData.canLayAll0, Bool.and_eq_true] at hd
    exact .cons (own_dp hs h hd.1) (owns_dp hs t hd.2)
end
theorem flat_scal {v u : V} {d e : D} {b : Bool} {F G : List Addr} (o1 : Own mg B H v d F) (o2 : Own mg B H u e G) (h : flatEq d e = some b) : scal v u = true ∧ decide (v = u) = b := by
  unfold flatEq at h
  split at h <;> cases h
  · obtain ⟨rfl, _⟩ := own_non o1; obtain ⟨rfl, _⟩ := own_non o2; exact ⟨rfl, rfl⟩
  · obtain ⟨rfl, _⟩ := own_non o1; obtain ⟨rfl, _⟩ := own_int o2; exact ⟨rfl, rfl⟩
  · obtain ⟨rfl, _⟩ := own_int o1; obtain ⟨rfl, _⟩ := own_non o2; exact ⟨rfl, rfl⟩
  · obtain ⟨rfl, _⟩ := own_non o1; obtain ⟨rfl, _⟩ := own_bl o2; exact ⟨rfl, rfl⟩
  · obtain ⟨rfl, _⟩ := own_bl o1; obtain ⟨rfl, _⟩ := own_non o2; exact ⟨rfl, rfl⟩
  · obtain ⟨rfl, _⟩ := own_non o1; obtain ⟨rfl, _⟩ := own_str o2; exact ⟨rfl, rfl⟩
  · obtain ⟨rfl, _⟩ := own_str o1; obtain ⟨rfl, _⟩ := own_non o2; exact ⟨rfl, rfl⟩
  · obtain ⟨rfl, _⟩ := own_int o1; obtain ⟨rfl, _⟩ := own_int o2; exact ⟨rfl, by simp⟩
  · obtain ⟨rfl, _⟩ := own_bl o1; obtain ⟨rfl, _⟩ := own_bl o2; exact ⟨rfl, by simp⟩
  · obtain ⟨rfl, _⟩ := own_str o1; obtain ⟨rfl, _⟩ := own_str o2; exact ⟨rfl, by simp [S]⟩
  · obtain ⟨rfl, _⟩ := own_int o1; obtain ⟨rfl, _⟩ := own_str o2; exact ⟨rfl, rfl⟩
  · obtain ⟨rfl, _⟩ := own_str o1; obtain ⟨rfl, _⟩ := own_int o2; exact ⟨rfl, rfl⟩
  · obtain ⟨rfl, _⟩ := own_bl o1; obtain ⟨rfl, _⟩ := own_str o2; exact ⟨rfl, rfl⟩
  · obtain ⟨rfl, _⟩ := own_str o1; obtain ⟨rfl, _⟩ := own_bl o2; exact ⟨rfl, rfl⟩
end
section
variable {X : Cx}
theorem od_eq (hu : X.A.units + 64 < cLine) : OpD X (compareOp .Eq) eqD := by
  intro pins s σ H x y v u Q I r1 r2 ⟨B, d, e, F, G, z, hs, o1, o2, hf, q⟩
  unfold eqD at hf
  split at hf
  · rename_i b hb
    cases hf
    obtain ⟨h1, h2⟩ := flat_scal o1 o2 hb
    exact op_eq pins s σ H _ _ v u Q I r1 r2 ⟨h1, by rw [h2]; exact q _ B H [] (New.flat hs (.atom rfl))⟩
  · split at hf <;> cases hf
    rename_i hc
    simp only [Bool.and_eq_true, eqOk] at hc
    refine op_eqD hu pins s σ H _ _ v u Q I r1 r2 ⟨_, _, own_dp hs o1 (SeqAt.canLay_of_shaped hc.1), own_dp hs o2 (SeqAt.canLay_of_shaped hc.2), hc.1, hc.2, ?_⟩
    exact q _ B H [] (New.flat hs (.atom rfl))
theorem od_ne (hu : X.A.units + 64 < cLine) : OpD X (compareOp .NotEq) neD := by
  intro pins s σ H x y v u Q I r1 r2 ⟨B, d, e, F, G, z, hs, o1, o2, hf, q⟩
  unfold neD at hf
  split at hf
  · rename_i b hb
    cases hf
    obtain ⟨h1, h2⟩ := flat_scal o1 o2 hb
    exact op_ne pins s σ H _ _ v u Q I r1 r2 ⟨h1, by rw [h2]; exact q _ B H [] (New.flat hs (.atom rfl))⟩
  · split at hf <;> cases hf
    rename_i hc
    simp only [Bool.and_eq_true, eqOk] at hc
    refine op_neD hu pins s σ H _ _ v u Q I r1 r2 ⟨_, _, own_dp hs o1 (SeqAt.canLay_of_shaped hc.1), own_dp hs o2 (SeqAt.canLay_of_shaped hc.2), hc.1, hc.2, ?_⟩
    exact q _ B H [] (New.flat hs (.atom rfl))
end
/-! ### order -/
def ltD : D → D → Option D
  | .int i, .int j => some (.bl (decide (i < j)))
  | .str s, .str t => some (.bl (decide (s < t)))
  | _, _ => none
def leD : D → D → Option D
  | .int i, .int j => some (.bl (decide (i ≤ j)))
  | .str s, .str t => some (.bl (!decide (t < s)))
  | _, _ => none
def gtD (d e : D) : Option D := ltD e d
def geD (d e : D) : Option D := leD e d
section
variable {X : Cx}
theorem od_lt : OpD X (compareOp .Lt) ltD := by
  intro pins s σ H x y v u Q I r1 r2 ⟨B, d, e, F, G, z, hs, o1, o2, hf, q⟩
  unfold ltD at hf
  split at hf <;> cases hf
  · obtain ⟨rfl, rfl⟩ := own_int o1; obtain ⟨rfl, rfl⟩ := own_int o2
    exact op_lt pins s σ H _ _ v u Q I r1 r2 ⟨_, _, rfl, rfl, q _ B H [] (New.flat hs (.atom rfl))⟩
  · obtain ⟨rfl, rfl⟩ := own_str o1; obtain ⟨rfl, rfl⟩ := own_str o2
    exact op_lt_str pins s σ H _ _ v u Q I r1 r2 ⟨_, _, rfl, rfl, by rw [S_list, S_list]; exact q _ B H [] (New.flat hs (.atom rfl))⟩
theorem od_gt : OpD X (compareOp .Gt) gtD := by
  intro pins s σ H x y v u Q I r1 r2 ⟨B, d, e, F, G, z, hs, o1, o2, hf, q⟩
  unfold gtD ltD at hf
  split at hf <;> cases hf
  · obtain ⟨rfl, rfl⟩ := own_int o1; obtain ⟨rfl, rfl⟩ := own_int o2
    exact op_gt pins s σ H _ _ v u Q I r1 r2 ⟨_, _, rfl, rfl, q _ B H [] (New.flat hs (.atom rfl))⟩
  · obtain ⟨rfl, rfl⟩ := own_str o1; obtain ⟨rfl, rfl⟩ := own_str o2
    exact op_gt_str pins s σ H _ _ v u Q I r1 r2 ⟨_, _, rfl, rfl, by rw [S_list, S_list]; exact q _ B H [] (New.flat hs (.atom rfl))⟩
theorem od_le : OpD X (compareOp .LtE) leD := by
  intro pins s σ H x y v u Q I r1 r2 ⟨B, d, e, F, G, z, hs, o1, o2, hf, q⟩
  unfold leD at hf
  split at hf <;> cases hf
  · obtain ⟨rfl, rfl⟩ := own_int o1; obtain ⟨rfl, rfl⟩ := own_int o2
    exact op_le pins s σ H _ _ v u Q I r1 r2 ⟨_, _, rfl, rfl, q _ B H [] (New.flat hs (.atom rfl))⟩
  · obtain ⟨rfl, rfl⟩ := own_str o1; obtain ⟨rfl, rfl⟩ := own_str o2
    exact op_le_str pins s σ H _ _ v u Q I r1 r2 ⟨_, _, rfl, rfl, by rw [S_list, S_list]; exact q _ B H [] (New.flat hs (.atom rfl))⟩
theorem od_ge : OpD X (compareOp .GtE) geD := by
  intro pins s σ H x y v u Q I r1 r2 ⟨B, d, e, F, G, z, hs, o1, o2, hf, q⟩
  unfold geD leD at hf
  split at hf <;> cases hf
  · obtain ⟨rfl, rfl⟩ := own_int o1; obtain ⟨rfl, rfl⟩ := own_int o2
    exact op_ge pins s σ H _ _ v u Q I r1 r2 ⟨_, _, rfl, rfl, q _ B H [] (New.flat hs (.atom rfl))⟩
  · obtain ⟨rfl, rfl⟩ := own_str o1; obtain ⟨rfl, rfl⟩ := own_str o2
    exact op_ge_str pins s σ H _ _ v u Q I r1 r2 ⟨_, _, rfl, rfl, by rw [S_list, S_list]; exact q _ B H [] (New.flat hs (.atom rfl))⟩
end
/-! ### in, is -/
def flatD : D → Bool
  | .non => true
  | .bl _ => true
  | .int _ => true
  | .str _ => true
  | _ => false
/-- a part of a text -/
def isSub (s t : List Nat) : Bool := !(Builtin.Str.occurrences (S t) (S s) 0 (S t).length 1).isEmpty
def inB (d : D) : D → Option Bool
  | .str t => match d with
    | .str [c] => some (decide (c ∈ t))
    | .str s => some (isSub s t)
    | _ => none
  | .lst _ xs => if flatD d && xs.all flatD then some (xs.any fun x => eqB x d) else none
  | .tup xs => if flatD d && xs.all flatD then some (xs.any fun x => eqB x d) else none
  | _ => none
def inD (d e : D) : Option D := (inB d e).map D.bl
def ninD (d e : D) : Option D := (inB d e).map fun b => D.bl !b
section
variable {mg : Ev} {B H : Hp} {X : Cx}
theorem own_flat {v : V} {d : D} {F : List Addr} (o : Own mg B H v d F) (h : flatD d = true) : flatV v = true ∧ F = [] := by
  cases d <;> simp [flatD] at h
  · obtain ⟨rfl, e⟩ := own_non o; exact ⟨rfl, e⟩
  · obtain ⟨rfl, e⟩ := own_bl o; exact ⟨rfl, e⟩
  · obtain ⟨rfl, e⟩ := own_int o; exact ⟨rfl, e⟩
  · obtain ⟨rfl, e⟩ := own_str o; exact ⟨rfl, e⟩
theorem own_eqV {v u : V} {d e : D} {F G : List Addr} (o1 : Own mg B H v d F) (o2 : Own mg B H u e G) (h1 : flatD d = true) (h2 : flatD e = true) : eqV v u = eqB d e := by
  cases d <;> simp [flatD] at h1 <;> cases e <;> simp [flatD] at h2 <;>
    (first
      | obtain ⟨rfl, _⟩ := own_non o1 | obtain ⟨rfl, _⟩ := own_bl o1 | obtain ⟨rfl, _⟩ := own_int o1 | obtain ⟨rfl, _⟩ := own_str o1) <;>
    (first
      | obtain ⟨rfl, _⟩ := own_non o2 | obtain ⟨rfl, _⟩ := own_bl o2 | obtain ⟨rfl, _⟩ := own_int o2 | obtain ⟨rfl, _⟩ := own_str o2) <;> rfl
theorem owns_any {v : V} {d : D} {F : List Addr} (o : Own mg B H v d F) (h : flatD d = true) : ∀ {vs ds G}, Owns mg B H vs ds G → ds.all flatD = true → vs.all flatV = true ∧ inV v vs = ds.any fun x => eqB x d
  | _, _, _, .nil, _ => ⟨rfl, rfl⟩
  | _, _, _, .cons h1 t, e => by
    simp only [List.all_cons, Bool.and_eq_true] at e
    obtain ⟨a, b⟩ := owns_any o h t e.2
    refine ⟨by simp [(own_flat h1 e.1).1, List.all_eq_true.mp a]; exact fun x hx => List.all_eq_true.mp a x hx, ?_⟩
    show (eqV _ v || inV v _) = _
    rw [own_eqV h1 o e.1 h, b]; rfl
theorem in_core {neg : Bool} {g : Value → Value → Sem Value} (hseq : OpR X g (rIn X.K neg)) (hsig : OpR X g (fun x y H Q => ∃ (c : Nat) (z : Str), x = .str ⟨#[c]⟩ ∧ y = .str z ∧ Q (.bl (if neg then !decide (c ∈ z.cps.toList) else decide (c ∈ z.cps.toList))) H))
    (hstr : OpR X g (fun x y H Q => ∃ i j, x = .str i ∧ y = .str j ∧ Q (.bl (if neg then !(!(Builtin.Str.occurrences j i 0 j.length 1).isEmpty) else !(Builtin.Str.occurrences j i 0 j.length 1).isEmpty)) H)) :
    OpD X g (fun d e => (inB d e).map fun b => D.bl (if neg then !b else b)) := by
  intro pins s σ H x y v u Q I r1 r2 ⟨B, d, e, F, G, z, hs, o1, o2, hf, q⟩
  dsimp only at hf
  cases hi : inB d e with
  | none => rw [hi] at hf; cases hf
  | some b =>
    rw [hi] at hf
    cases hf
    have q' := q _ B H [] (New.flat hs (.atom (v := .bl (if neg then !b else b)) rfl))
    cases e <;> simp only [inB] at hi <;> try (cases hi; done)
    · rename_i t
      obtain ⟨rfl, rfl⟩ := own_str o2
      split at hi <;> cases hi
      · rename_i c
        obtain ⟨rfl, rfl⟩ := own_str o1
        exact hsig pins s σ H _ _ v u Q I r1 r2 ⟨c, S t, rfl, rfl, by rw [S_list]; exact q'⟩
      · rename_i s' _
        obtain ⟨rfl, rfl⟩ := own_str o1
        exact hstr pins s σ H _ _ v u Q I r1 r2 ⟨_, _, rfl, rfl, q'⟩
    · split at hi <;> cases hi
      rename_i hc
      simp only [Bool.and_eq_true] at hc
      obtain ⟨a, vs, K1, rfl, h1, h2, t⟩ := lst_sql (K := X.K) hs o2
      obtain ⟨e1, e2⟩ := owns_any o1 hc.1 t hc.2
      exact hseq pins s σ H _ _ v u Q I r1 r2 ⟨a, vs, rfl, .inl h2, (own_flat o1 hc.1).1, e1, by rw [e2]; exact q'⟩
    · split at hi <;> cases hi
      rename_i hc
      simp only [Bool.and_eq_true] at hc
      obtain ⟨a, vs, rfl, h2, t⟩ := tup_sqt (K := X.K) hs o2
      obtain ⟨e1, e2⟩ := owns_any o1 hc.1 t hc.2
      exact hseq pins s σ H _ _ v u Q I r1 r2 ⟨a, vs, rfl, .inr h2, (own_flat o1 hc.1).1, e1, by rw [e2]; exact q'⟩
theorem od_in : OpD X (compareOp .In) inD := in_core (neg := false) op_in_seq op_in_sign op_in_str
theorem od_nin : OpD X (compareOp .NotIn) ninD := in_core (neg := true) op_notIn_seq op_notIn_sign L2.op_notin_str
def isNonD : D → D → Option D
  | .non, .non => some (.bl true)
  | _, .non => some (.bl false)
  | _, _ => none
def notNonD : D → D → Option D
  | .non, .non => some (.bl false)
  | _, .non => some (.bl true)
  | _, _ => none
def isNonB : D → Bool
  | .non => true
  | _ => false
theorem own_isnon {v : V} {d : D} {F : List Addr} (o : Own mg B H v d F) : decide (v = .non) = isNonB d := by
  cases d <;> simp only [isNonB]
  · obtain ⟨rfl, _⟩ := own_non o; rfl
  all_goals
    refine decide_eq_false fun e => ?_
    subst e
    cases o with
    | atom h => exact h
    | fro _ s _ _ => exact s
    | own _ s _ => exact s
theorem od_is : OpD X (compareOp .Is) isNonD := by
  intro pins s σ H x y v u Q I r1 r2 ⟨B, d, e, F, G, z, hs, o1, o2, hf, q⟩
  have h := own_isnon o1
  unfold isNonD at hf
  split at hf <;> cases hf
  · obtain ⟨rfl, rfl⟩ := own_non o2
    exact op_isN pins s σ H _ _ v u Q I r1 r2 ⟨rfl, by rw [h]; exact q _ B H [] (New.flat hs (.atom rfl))⟩
  · rename_i hne
    obtain ⟨rfl, rfl⟩ := own_non o2
    refine op_isN pins s σ H _ _ v u Q I r1 r2 ⟨rfl, ?_⟩
    rw [h]
    have e2 : isNonB d = false := by
      cases d <;> simp [isNonB] at hne ⊢
    rw [e2]
    exact q _ B H [] (New.flat hs (.atom rfl))
theorem od_isnot : OpD X (compareOp .IsNot) notNonD := by
  intro pins s σ H x y v u Q I r1 r2 ⟨B, d, e, F, G, z, hs, o1, o2, hf, q⟩
  have h := own_isnon o1
  unfold notNonD at hf
  split at hf <;> cases hf
  · obtain ⟨rfl, rfl⟩ := own_non o2
    exact op_notN pins s σ H _ _ v u Q I r1 r2 ⟨rfl, by rw [h]; exact q _ B H [] (New.flat hs (.atom rfl))⟩
  · rename_i hne
    obtain ⟨rfl, rfl⟩ := own_non o2
    refine op_notN pins s σ H _ _ v u Q I r1 r2 ⟨rfl, ?_⟩
    rw [h]
    have e2 : isNonB d = false := by
      cases d <;> simp [isNonB] at hne ⊢
    rw [e2]
    exact q _ B H [] (New.flat hs (.atom rfl))
end
end Eng
/-! Eng6: tests, and, or, not, if; displays; items; slices. -/
namespace Eng
open PySem PySem.Spec PyProof.Rows L2

def mB (m : M D) : M Bool := fun ρ => match m ρ with
  | .ok (.bl b) ρ' => .ok b ρ'
  | .ok _ _ => .stuck
  | .exc e ρ' => .exc e ρ'
  | .stuck => .stuck
def eBo (m : M Bool) : M D := mBind m fun b => mPure (.bl b)
def mAnd (m n : M Bool) : M Bool := mBind m fun b => if b then n else mPure false
def mOr (m n : M Bool) : M Bool := mBind m fun b => if b then mPure true else n
def mNot (m : M Bool) : M Bool := mBind m fun b => mPure (!b)
def eIf (c : M Bool) (m n : M D) : M D := mBind c fun b => if b then m else n

section
variable {mg : Ev} {a1 a2 s1 s2 alt sep : Bool} {B B1 B2 B' H H1 H2 H' : Hp} {σ : L2.St} {ρ ρ1 ρ2 ρ' : Rho} {U U1 U2 U' F F1 F2 : List Addr} {r r1 r2 : Rel mg}
/-- the first one alone, behind the second -/
theorem Post.comb1 (p : Post mg a1 s1 B H σ ρ U ρ1 r1 B1 H1 U1 F1) (q : Post mg a2 s2 B1 H1 σ ρ1 U1 ρ2 r2 B2 H2 U2 F2) (hc : a2 = false ∨ s1 = true) :
    Post mg (a1 || a2) s1 B H σ ρ U ρ2 r1 B2 H2 U2 F1 where
  st := q.st
  own := by
    rcases hc with e | e
    · exact r1.step p.own (q.alt e).2.2 fun _ _ h => absurd h (by simp)
    · exact r1.step p.own q.step (p.sep e).1.dj
  sep := fun e => by
    obtain ⟨k1, n1⟩ := p.sep e
    exact ⟨k1.step (r1.there p.own) q.step, n1⟩
  step := p.step.trans q.step
  alt := fun e => by
    simp only [Bool.or_eq_false_iff] at e
    obtain ⟨x1, x2, x3⟩ := p.alt e.1
    obtain ⟨y1, y2, y3⟩ := q.alt e.2
    exact ⟨y1.trans x1, y2.trans x2, x3.trans y3⟩
/-- the second one alone: what the first gave is dropped -/
theorem Post.comb2 (p : Post mg a1 s1 B H σ ρ U ρ1 r1 B1 H1 U1 F1) (q : Post mg a2 s2 B1 H1 σ ρ1 U1 ρ2 r2 B2 H2 U2 F2) :
    Post mg (a1 || a2) s2 B H σ ρ U ρ2 r2 B2 H2 U2 F2 where
  st := q.st
  own := q.own
  sep := fun e => by
    obtain ⟨k1, n1⟩ := q.sep e
    refine ⟨k1, fun a x => ?_⟩
    rcases n1 a x with z | z
    · exact p.step.new a z
    · by_cases y : H a = none
      · exact .inr y
      · by_cases w : a ∈ U
        · exact .inl w
        · rw [p.step.keep a y w] at z; exact absurd z y
  step := p.step.trans q.step
  alt := fun e => by
    simp only [Bool.or_eq_false_iff] at e
    obtain ⟨x1, x2, x3⟩ := p.alt e.1
    obtain ⟨y1, y2, y3⟩ := q.alt e.2
    exact ⟨y1.trans x1, y2.trans x2, x3.trans y3⟩
end

section
variable {X : Cx} {W : WX} {alt sep a1 a2 a3 s1 s2 s3 : Bool} {e ea eb ec : Expr} {es : List Expr} {m ma mb mc : M D} {ms : M (List D)} {m1 m2 : M Bool} {pos : Pos}

theorem bool_core {t : TT} (w : ∀ σ H Q, (tE X.ev W alt sep m) σ H (fun x H1 => ∃ b, x = .bl b ∧ Q b H1) → t σ H Q) : ∀ σ H Q, tT X.ev W alt (mB m) σ H Q → t σ H Q := by
  intro σ H Q ⟨B, ρ, U, st, k⟩
  refine w σ H Q ⟨B, ρ, U, st, ?_⟩
  unfold mB at k
  cases hm : m ρ with
  | ok d ρ' =>
    rw [hm] at k
    intro v B' H' U' F p
    cases d with
    | bl b =>
      obtain ⟨rfl, rfl⟩ := own_bl p.own
      exact ⟨b, rfl, k B' H' U' ⟨p.st, rfl, fun _ => ⟨Sep.nil, fun _ h => absurd h (by simp)⟩, p.step, p.alt⟩⟩
    | _ => exact k.elim
  | exc x ρ' => rw [hm] at k; exact k
  | stuck => rw [hm] at k; exact k
/-- a bool as a test -/
theorem t_val (h : PD X W alt sep e m) (he : ∀ whole, isTrue e X.env whole = (do let v ← whole; standAt e.pos; holding [v] (truthy v)) := by intro _; rfl) : PDT X W alt e (mB m) :=
  PT.weak (pt_val h he) (bool_core fun _ _ _ h => h)
theorem t_cmp {op : CmpOp} {f : D → D → Option D} (ho : OpD X (compareOp op) f) (ha : PD X W a1 s1 ea ma) (hb : PD X W a2 s2 eb mb) (hm : behindInMarks op eb = false := by first | exact nomark _ | rfl) (hc : (!a2 || s1) = true := by decide) :
    PDT X W (a1 || a2) (.Compare ea [op] [eb] pos) (mB (eOp f ma mb)) := by
  refine PT.weak (pt_cmpR ho ha hb hm) (bool_core (sep := true) fun σ H Q h => ?_)
  obtain ⟨B, ρ, U, st, k⟩ := h
  -- the very proof of d_two
  have hc' : a2 = false ∨ s1 = true := by cases a2 <;> simp_all
  refine ⟨B, ρ, U, st, ?_⟩
  unfold eOp mBind at k
  cases hm : ma ρ with
  | ok d ρ1 =>
    rw [hm] at k
    intro v B1 H1 U1 F1 p
    refine ⟨B1, ρ1, U1, p.st, ?_⟩
    dsimp only [Res.bind] at k
    cases hm2 : mb ρ1 with
    | ok d2 ρ2 =>
      rw [hm2] at k
      intro v2 B2 H2 U2 F2 q
      have pq := p.comb q hc'
      obtain ⟨G1, G2, _, o1, o2⟩ := pq.own
      dsimp only [mOpt] at k
      cases hf : f d d2 with
      | none => rw [hf] at k; exact k.elim
      | some z =>
        rw [hf] at k
        exact ⟨B2, d, d2, G1, G2, z, pq.st.sub, o1, o2, hf, fun w B' H' K nw => k w B' H' U2 K (pq.fin nw)⟩
    | exc x ρ2 => rw [hm2] at k; exact k.back p.step
    | stuck => rw [hm2] at k; exact k
  | exc x ρ1 => rw [hm] at k; exact k
  | stuck => rw [hm] at k; exact k
theorem PDT.to (h : PDT X W a1 e m1) (ha : a2 = false → a1 = false := by decide) : PDT X W a2 e m1 := PT.weak h fun σ H Q ⟨B, ρ, U, st, k⟩ => by
  refine ⟨B, ρ, U, st, ?_⟩
  cases hm : m1 ρ with
  | ok d ρ' => rw [hm] at k; exact fun B' H' U' p => k B' H' U' (p.weak ha fun h => h)
  | exc x ρ' => rw [hm] at k; exact k
  | stuck => rw [hm] at k; exact k
theorem PDW.pt (h : PDW X W a1 e m1) : PDT X W a1 e m1 := L2.PW.pt h
theorem w_and1 (h : PDT X W a1 e m1) : PDW X W a1 (.BoolOp .And [e] pos) m1 := pw_and1 h
theorem w_or1 (h : PDT X W a1 e m1) : PDW X W a1 (.BoolOp .Or [e] pos) m1 := pw_or1 h
theorem w_and {rest : List Expr} (ha : PDT X W a1 ea m1) (hb : PDW X W a2 (.BoolOp .And (eb :: rest) pos) m2) : PDW X W (a1 || a2) (.BoolOp .And (ea :: eb :: rest) pos) (mAnd m1 m2) := PW.weak (pw_and ha hb) fun σ H Q ⟨B, ρ, U, st, k⟩ => by
  refine ⟨B, ρ, U, st, ?_⟩
  unfold mAnd mBind at k
  cases hm : m1 ρ with
  | ok b ρ1 =>
    rw [hm] at k
    intro B1 H1 U1 p
    dsimp only [Res.bind] at k
    cases b with
    | true =>
      simp only [if_true] at k ⊢
      refine ⟨B1, ρ1, U1, p.st, ?_⟩
      cases hm2 : m2 ρ1 with
      | ok b2 ρ2 => rw [hm2] at k; exact fun B2 H2 U2 q => k B2 H2 U2 (p.comb2 q)
      | exc x ρ2 => rw [hm2] at k; exact k.back p.step
      | stuck => rw [hm2] at k; exact k
    | false =>
      exact k B1 H1 U1 (p.weak (fun e => by simp only [Bool.or_eq_false_iff] at e; exact e.1) fun h => h)
  | exc x ρ1 => rw [hm] at k; exact k
  | stuck => rw [hm] at k; exact k
theorem w_or {rest : List Expr} (ha : PDT X W a1 ea m1) (hb : PDW X W a2 (.BoolOp .Or (eb :: rest) pos) m2) : PDW X W (a1 || a2) (.BoolOp .Or (ea :: eb :: rest) pos) (mOr m1 m2) := PW.weak (pw_or ha hb) fun σ H Q ⟨B, ρ, U, st, k⟩ => by
  refine ⟨B, ρ, U, st, ?_⟩
  unfold mOr mBind at k
  cases hm : m1 ρ with
  | ok b ρ1 =>
    rw [hm] at k
    intro B1 H1 U1 p
    dsimp only [Res.bind] at k
    cases b with
    | false =>
      refine ⟨B1, ρ1, U1, p.st, ?_⟩
      simp only [Bool.false_eq_true, if_false] at k
      cases hm2 : m2 ρ1 with
      | ok b2 ρ2 => rw [hm2] at k; exact fun B2 H2 U2 q => k B2 H2 U2 (p.comb2 q)
      | exc x ρ2 => rw [hm2] at k; exact k.back p.step
      | stuck => rw [hm2] at k; exact k
    | true =>
      exact k B1 H1 U1 (p.weak (fun e => by simp only [Bool.or_eq_false_iff] at e; exact e.1) fun h => h)
  | exc x ρ1 => rw [hm] at k; exact k
  | stuck => rw [hm] at k; exact k
theorem t_not (h : PDT X W alt e m1) : PDT X W alt (.UnaryOp .Not e pos) (mNot m1) := PT.weak (pt_not h) fun σ H Q ⟨B, ρ, U, st, k⟩ => by
  refine ⟨B, ρ, U, st, ?_⟩
  unfold mNot mBind at k
  cases hm : m1 ρ with
  | ok b ρ1 => rw [hm] at k; exact k
  | exc x ρ1 => rw [hm] at k; exact k
  | stuck => rw [hm] at k; exact k
/-! as values -/
theorem d_not (h : PD X W alt sep e m) : PD X W alt true (.UnaryOp .Not e pos) (eBo (mNot (mB m))) := PE.weak (pe_not h) fun σ H Q ⟨B, ρ, U, st, k⟩ => by
  refine ⟨B, ρ, U, st, ?_⟩
  dsimp only [eBo, mNot, mB, mBind] at k
  cases hm : m ρ with
  | ok d ρ' =>
    rw [hm] at k
    intro v B' H' U' F p
    cases d with
    | bl b =>
      obtain ⟨rfl, rfl⟩ := own_bl p.own
      exact ⟨b, rfl, k _ B' H' U' [] ⟨p.st, .atom rfl, fun _ => ⟨Sep.nil, fun _ h => absurd h (by simp)⟩, p.step, p.alt⟩⟩
    | _ => exact k.elim
  | exc x ρ' => rw [hm] at k; exact k
  | stuck => rw [hm] at k; exact k
/-- one operand alone -/
theorem d_one {op} (h : PD X W alt sep e m) : PD X W alt true (.BoolOp op [e] pos) (eBo (mB m)) := PE.weak (pe_one h) fun σ H Q ⟨B, ρ, U, st, k⟩ => by
  refine ⟨B, ρ, U, st, ?_⟩
  dsimp only [eBo, mB, mBind] at k
  cases hm : m ρ with
  | ok d ρ' =>
    rw [hm] at k
    intro v B' H' U' F p
    cases d with
    | bl b =>
      obtain ⟨rfl, rfl⟩ := own_bl p.own
      exact k _ B' H' U' [] ⟨p.st, .atom rfl, fun _ => ⟨Sep.nil, fun _ h => absurd h (by simp)⟩, p.step, p.alt⟩
    | _ => exact k.elim
  | exc x ρ' => rw [hm] at k; exact k
  | stuck => rw [hm] at k; exact k
theorem d_and {rest : List Expr} (ha : PD X W a1 s1 ea ma) (hb : PD X W a2 s2 (.BoolOp .And (eb :: rest) pos) (eBo m2)) : PD X W (a1 || a2) true (.BoolOp .And (ea :: eb :: rest) pos) (eBo (mAnd (mB ma) m2)) := PE.weak (pe_and ha hb) fun σ H Q ⟨B, ρ, U, st, k⟩ => by
  refine ⟨B, ρ, U, st, ?_⟩
  dsimp only [eBo, mAnd, mB, mBind] at k
  cases hm : ma ρ with
  | ok d ρ1 =>
    rw [hm] at k
    intro v B1 H1 U1 F1 p
    cases d with
    | bl b =>
      obtain ⟨rfl, rfl⟩ := own_bl p.own
      refine ⟨b, rfl, ?_⟩
      dsimp only [Res.bind] at k
      cases b with
      | true =>
        simp only [if_true] at k ⊢
        refine ⟨B1, ρ1, U1, p.st, ?_⟩
        unfold eBo mBind
        cases hm2 : m2 ρ1 with
        | ok b2 ρ2 =>
          rw [hm2] at k
          intro v2 B2 H2 U2 F2 q
          obtain ⟨rfl, rfl⟩ := own_bl q.own
          have pq := p.comb2 q
          exact k _ B2 H2 U2 [] ⟨pq.st, .atom rfl, fun _ => ⟨Sep.nil, fun _ h => absurd h (by simp)⟩, pq.step, pq.alt⟩
        | exc x ρ2 => rw [hm2] at k; exact k.back p.step
        | stuck => rw [hm2] at k; exact k
      | false =>
        exact k _ B1 H1 U1 [] ⟨p.st, .atom rfl, fun _ => ⟨Sep.nil, fun _ h => absurd h (by simp)⟩, p.step, fun e => p.alt (by simp only [Bool.or_eq_false_iff] at e; exact e.1)⟩
    | _ => exact k.elim
  | exc x ρ1 => rw [hm] at k; exact k
  | stuck => rw [hm] at k; exact k
theorem d_or {rest : List Expr} (ha : PD X W a1 s1 ea ma) (hb : PD X W a2 s2 (.BoolOp .Or (eb :: rest) pos) (eBo m2)) : PD X W (a1 || a2) true (.BoolOp .Or (ea :: eb :: rest) pos) (eBo (mOr (mB ma) m2)) := PE.weak (pe_or ha hb) fun σ H Q ⟨B, ρ, U, st, k⟩ => by
  refine ⟨B, ρ, U, st, ?_⟩
  dsimp only [eBo, mOr, mB, mBind] at k
  cases hm : ma ρ with
  | ok d ρ1 =>
    rw [hm] at k
    intro v B1 H1 U1 F1 p
    cases d with
    | bl b =>
      obtain ⟨rfl, rfl⟩ := own_bl p.own
      refine ⟨b, rfl, ?_⟩
      dsimp only [Res.bind] at k
      cases b with
      | false =>
        simp only [Bool.false_eq_true, if_false] at k ⊢
        refine ⟨B1, ρ1, U1, p.st, ?_⟩
        unfold eBo mBind
        cases hm2 : m2 ρ1 with
        | ok b2 ρ2 =>
          rw [hm2] at k
          intro v2 B2 H2 U2 F2 q
          obtain ⟨rfl, rfl⟩ := own_bl q.own
          have pq := p.comb2 q
          exact k _ B2 H2 U2 [] ⟨pq.st, .atom rfl, fun _ => ⟨Sep.nil, fun _ h => absurd h (by simp)⟩, pq.step, pq.alt⟩
        | exc x ρ2 => rw [hm2] at k; exact k.back p.step
        | stuck => rw [hm2] at k; exact k
      | true =>
        exact k _ B1 H1 U1 [] ⟨p.st, .atom rfl, fun _ => ⟨Sep.nil, fun _ h => absurd h (by simp)⟩, p.step, fun e => p.alt (by simp only [Bool.or_eq_false_iff] at e; exact e.1)⟩
    | _ => exact k.elim
  | exc x ρ1 => rw [hm] at k; exact k
  | stuck => rw [hm] at k; exact k
theorem d_if (hc : PDT X W a1 ec m1) (ha : PD X W a2 s2 ea ma) (hb : PD X W a3 s3 eb mb) : PD X W (a1 || (a2 || a3)) (s2 && s3) (.IfExp ec ea eb pos) (eIf m1 ma mb) := PE.weak (pe_ifExp hc ha hb) fun σ H Q ⟨B, ρ, U, st, k⟩ => by
  refine ⟨B, ρ, U, st, ?_⟩
  unfold eIf mBind at k
  cases hm : m1 ρ with
  | ok b ρ1 =>
    rw [hm] at k
    intro B1 H1 U1 p
    dsimp only [Res.bind] at k
    have go : ∀ {a s : Bool} {mm : M D}, (a = false ∨ (a2 || a3) = true) → ((s2 && s3) = true → s = true) → (match mm ρ1 with | .ok d ρ' => ∀ v B' H' U' F, Post X.ev (a1 || (a2 || a3)) (s2 && s3) B H σ ρ U ρ' (oV X.ev v d) B' H' U' F → Q v H' | .exc e ρ' => excW X.ev W B H σ U e ρ' | .stuck => False) →
        tE X.ev W a s mm σ H1 Q := fun {a s mm} ha hs k => by
      refine ⟨B1, ρ1, U1, p.st, ?_⟩
      cases hm2 : mm ρ1 with
      | ok d ρ2 =>
        rw [hm2] at k
        intro v B2 H2 U2 F2 q
        exact k v B2 H2 U2 F2 ((p.comb2 q).weak (fun e => by
          simp only [Bool.or_eq_false_iff] at e ⊢
          refine ⟨e.1, ?_⟩
          rcases ha with z | z
          · exact z
          · simp [e.2.1, e.2.2] at z) hs)
      | exc x ρ2 => rw [hm2] at k; exact k.back p.step
      | stuck => rw [hm2] at k; exact k
    cases b with
    | true =>
      simp only [if_true] at k ⊢
      exact go (by cases a2 <;> simp) (fun e => by simp only [Bool.and_eq_true] at e; exact e.1) k
    | false =>
      simp only [Bool.false_eq_true, if_false] at k ⊢
      exact go (by cases a3 <;> simp) (fun e => by simp only [Bool.and_eq_true] at e; exact e.2) k
  | exc x ρ1 => rw [hm] at k; exact k
  | stuck => rw [hm] at k; exact k
end
end Eng
/-! Eng7: lists of arguments, displays, items, slices, calls of built-ins. -/
namespace Eng
open PySem PySem.Spec PyProof.Rows L2

def lNil : M (List D) := mPure []
def lCons (m : M D) (ms : M (List D)) : M (List D) := mBind m fun d => mBind ms fun ds => mPure (d :: ds)
def lstD (ds : List D) : Option D := if ds.length ≤ 100000 then some (.lst true ds) else none
def tupD (ds : List D) : Option D := if ds.length ≤ 100000 then some (.tup ds) else none
def eLst (ms : M (List D)) : M D := mBind ms fun ds => mOpt (lstD ds)
def eTup (ms : M (List D)) : M D := mBind ms fun ds => mOpt (tupD ds)
def eUn (f : D → Option D) (m : M D) : M D := mBind m fun d => mOpt (f d)
def eFn (f : List D → Option D) (ms : M (List D)) : M D := mBind ms fun ds => mOpt (f ds)

section
variable {mg : Ev} {a1 a2 s1 s2 alt sep : Bool} {B B1 B2 B' H H1 H2 H' : Hp} {σ : L2.St} {ρ ρ1 ρ2 ρ' : Rho} {U U1 U2 U' F F1 F2 : List Addr} {r r1 r2 : Rel mg}
theorem Post.rel {r' : Rel mg} (p : Post mg alt sep B H σ ρ U ρ' r B' H' U' F) (h : r.R B' H' F → r'.R B' H' F) : Post mg alt sep B H σ ρ U ρ' r' B' H' U' F := ⟨p.st, h p.own, p.sep, p.step, p.alt⟩
theorem Post.newLst {vs : List V} {ds : List D} {q : Addr} (p : Post mg alt true B H σ ρ U ρ' (oL mg vs ds) B1 H1 U1 F) (hq : H1 q = none) : Post mg alt true B H σ ρ U ρ' (oV mg (.ref q) (.lst true ds)) B1 (upd H1 q (.lst vs)) U1 (q :: F) := by
  have hB : B1 q = none := by
    cases e : B1 q with
    | none => rfl
    | some o => rw [p.st.sub _ _ e] at hq; cases hq
  have st : Step B1 H1 [] B1 (upd H1 q (.lst vs)) [] := ⟨fun a o h => by rw [upd_ne (ne_of_none (p.st.sub a o h) hq)]; exact p.st.sub a o h, fun _ _ h => h, fun a h _ => by rw [upd_ne (fun z => h (by rw [z]; exact hq))], fun _ h => absurd h (by simp), fun a h => .inl h⟩
  have o := Owns.step p.own st fun _ _ h => absurd h (by simp)
  obtain ⟨k, n⟩ := p.sep rfl
  have th := Owns.there p.own
  refine ⟨p.st.stepN st, .own (A := [q]) rfl ⟨upd_same, rfl⟩ o, fun _ => ⟨⟨List.nodup_cons.mpr ⟨fun z => th q z hq, k.nd⟩, fun a x y => ?_, fun a x => ?_⟩, fun a x => ?_⟩, p.step.trans st.none_of, fun e => ?_⟩
  · rcases List.mem_cons.mp x with rfl | x
    · exact p.st.ex a y hq
    · exact k.dj a x y
  · rcases List.mem_cons.mp x with rfl | x
    · exact hB
    · exact k.off a x
  · rcases List.mem_cons.mp x with rfl | x
    · by_cases w : a ∈ U
      · exact .inl w
      · refine .inr ?_
        cases e : H a with
        | none => rfl
        | some o => rw [p.step.keep a (by rw [e]; simp) w, e] at hq; cases hq
    · exact n a x
  · obtain ⟨x, y, z⟩ := p.alt e
    exact ⟨x, y, z.trans st⟩
theorem Post.newTup {vs : List V} {ds : List D} {q : Addr} (p : Post mg alt sep B H σ ρ U ρ' (oL mg vs ds) B1 H1 U1 F) (hq : H1 q = none) : Post mg alt sep B H σ ρ U ρ' (oV mg (.ref q) (.tup ds)) (upd B1 q (.tup vs)) (upd H1 q (.tup vs)) U1 F := by
  have hB : B1 q = none := by
    cases e : B1 q with
    | none => rfl
    | some o => rw [p.st.sub _ _ e] at hq; cases hq
  have st : Step B1 H1 [] (upd B1 q (.tup vs)) (upd H1 q (.tup vs)) [] := by
    refine ⟨fun a o h => ?_, fun a o h => by rw [upd_ne (ne_of_none h hB)]; exact h, fun a h _ => by rw [upd_ne (fun z => h (by rw [z]; exact hq))], fun _ h => absurd h (by simp), fun a h => ?_⟩
    · by_cases e : a = q
      · subst e; rw [upd_same] at h ⊢; exact h
      · rw [upd_ne e] at h ⊢; exact p.st.sub a o h
    · by_cases e : a = q
      · subst e; exact .inr (.inr hq)
      · rw [upd_ne e] at h; exact .inl h
  have o := Owns.step p.own st fun _ _ h => absurd h (by simp)
  have th := Owns.there p.own
  refine ⟨p.st.stepN st, .fro (A := []) rfl ⟨upd_same, rfl⟩ o (fun e => by cases e), fun e => ?_, p.step.trans st.none_of, fun e => ?_⟩
  · obtain ⟨k, n⟩ := p.sep e
    exact ⟨⟨k.nd, k.dj, fun a x => by rw [upd_ne (fun z => th a x (by rw [z]; exact hq))]; exact k.off a x⟩, n⟩
  · obtain ⟨x, y, z⟩ := p.alt e
    exact ⟨x, y, z.trans st⟩
end

section
variable {X : Cx} {W : WX} {alt sep a1 a2 a3 s1 s2 s3 : Bool} {e ea eb ec : Expr} {es : List Expr} {m ma mb mc : M D} {ms : M (List D)} {m1 m2 : M Bool} {pos : Pos}
theorem l_nil : PDL X W false true [] lNil := PA.weak pa_nil fun σ H Q ⟨B, ρ, U, st, k⟩ =>
  k [] B H U [] ⟨st, .nil, fun _ => ⟨Sep.nil, fun _ h => absurd h (by simp)⟩, Step.refl st.sub, fun _ => ⟨rfl, rfl, Step.refl st.sub⟩⟩
theorem l_cons (h : PD X W a1 s1 e m) (t : PDL X W a2 s2 es ms) (hs : starEach (e :: es) X.env = (false, eval e X.env) :: starEach es X.env := by rfl) (hc : (!a2 || s1) = true := by decide) : PDL X W (a1 || a2) (s1 && s2) (e :: es) (lCons m ms) :=
  PA.weak (pa_cons h t hs) fun σ H Q ⟨B, ρ, U, st, k⟩ => by
    have hc' : a2 = false ∨ s1 = true := by cases a2 <;> simp_all
    refine ⟨B, ρ, U, st, ?_⟩
    dsimp only [lCons, mBind] at k
    cases hm : m ρ with
    | ok d ρ1 =>
      rw [hm] at k
      intro v B1 H1 U1 F1 p
      refine ⟨B1, ρ1, U1, p.st, ?_⟩
      dsimp only [Res.bind, mBind] at k
      cases hm2 : ms ρ1 with
      | ok d2 ρ2 =>
        rw [hm2] at k
        intro v2 B2 H2 U2 F2 q
        refine k _ B2 H2 U2 _ ((p.comb q hc').rel fun ⟨G1, G2, e, o1, o2⟩ => ?_)
        rw [e]
        exact .cons o1 o2
      | exc x ρ2 => rw [hm2] at k; exact k.back p.step
      | stuck => rw [hm2] at k; exact k
    | exc x ρ1 => rw [hm] at k; exact k
    | stuck => rw [hm] at k; exact k
theorem d_lst (h : PDL X W alt true es ms) : PD X W alt true (.List es pos) (eLst ms) := PE.weak (pe_lst h) fun σ H Q ⟨B, ρ, U, st, k⟩ => by
  refine ⟨B, ρ, U, st, ?_⟩
  dsimp only [eLst, mBind] at k
  cases hm : ms ρ with
  | ok ds ρ1 =>
    rw [hm] at k
    intro vs B1 H1 U1 F1 p
    dsimp only [Res.bind, mBind, mOpt] at k
    unfold lstD at k
    by_cases hl : ds.length ≤ 100000
    · simp only [if_pos hl] at k
      refine ⟨by rw [Owns.len p.own]; exact Nat.le_trans hl (by decide), fun q hq => k _ B1 _ U1 _ (p.newLst hq)⟩
    · simp only [if_neg hl] at k
  | exc x ρ1 => rw [hm] at k; exact k
  | stuck => rw [hm] at k; exact k
theorem d_tup {x1} (h : PDL X W alt sep es ms) : PD X W alt sep (.Tuple es x1 pos) (eTup ms) := PE.weak (pe_tup h) fun σ H Q ⟨B, ρ, U, st, k⟩ => by
  refine ⟨B, ρ, U, st, ?_⟩
  dsimp only [eTup, mBind] at k
  cases hm : ms ρ with
  | ok ds ρ1 =>
    rw [hm] at k
    intro vs B1 H1 U1 F1 p
    dsimp only [Res.bind, mBind, mOpt] at k
    unfold tupD at k
    by_cases hl : ds.length ≤ 100000
    · simp only [if_pos hl] at k
      refine ⟨by rw [Owns.len p.own]; exact Nat.le_trans hl (by decide), fun q hq => k _ _ _ U1 _ (p.newTup hq)⟩
    · simp only [if_neg hl] at k
  | exc x ρ1 => rw [hm] at k; exact k
  | stuck => rw [hm] at k; exact k

/-! ### unary minus -/
def negD : D → Option D
  | .int i => some (.int (-i))
  | _ => none
theorem d_neg (h : PD X W alt sep e m) : PD X W alt true (.UnaryOp .USub e pos) (eUn negD m) := PE.weak (pe_un un_neg h) fun σ H Q ⟨B, ρ, U, st, k⟩ => by
  refine ⟨B, ρ, U, st, ?_⟩
  dsimp only [eUn, mBind] at k
  cases hm : m ρ with
  | ok d ρ1 =>
    rw [hm] at k
    intro v B1 H1 U1 F1 p
    dsimp only [Res.bind, mBind] at k
    cases d with
    | int i =>
      obtain ⟨rfl, rfl⟩ := own_int p.own
      exact ⟨i, rfl, k _ B1 H1 U1 [] ⟨p.st, .atom rfl, fun _ => ⟨Sep.nil, fun _ h => absurd h (by simp)⟩, p.step, p.alt⟩⟩
    | _ => exact k.elim
  | exc x ρ1 => rw [hm] at k; exact k
  | stuck => rw [hm] at k; exact k

/-! ### items -/
def idxD : D → D → Option D
  | .lst _ xs, .int i => atI xs i
  | .tup xs, .int i => atI xs i
  | .str s, .int i => if s.length ≤ 16777216 then (atI s i).map fun c => .str [c] else none
  | _, _ => none
def IxD (X : Cx) (f : D → D → Option D) : Prop := IxR X fun x y H Q => ∃ B d e F G z, (∀ a o, B a = some o → H a = some o) ∧ Own X.ev B H x d F ∧ Own X.ev B H y e G ∧ f d e = some z ∧
  ∀ w F', Own X.ev B H w z F' → (∀ a ∈ F', a ∈ F) → (F.Nodup → F'.Nodup) → Q w H
theorem owns_at {mg : Ev} {B H : Hp} {vs : List V} {ds : List D} {F : List Addr} {i : Int} {d : D} (o : Owns mg B H vs ds F) (h : atI ds i = some d) :
    ∃ v F', atI vs i = some v ∧ Own mg B H v d F' ∧ (∀ a ∈ F', a ∈ F) ∧ (F.Nodup → F'.Nodup) := by
  unfold atI at h ⊢
  rw [o.len]
  cases hi : ixN ds.length i with
  | none => rw [hi] at h; cases h
  | some j =>
    rw [hi] at h
    obtain ⟨v, F1, F', F2, e1, o1, e2⟩ := o.get j h
    exact ⟨v, F', e1, o1, fun a x => by rw [e2]; simp [x], fun nd => by rw [e2] at nd; exact (List.nodup_append.mp (List.nodup_append.mp nd).2.1).1⟩
theorem ix_D : IxD X idxD := by
  intro value slice pins s σ H x y v u Q I rx ry ⟨B, d, e, F, G, z, hs, o1, o2, hf, q⟩ hsub
  unfold idxD at hf
  split at hf
  · obtain ⟨a, vs, K1, rfl, h1, t1, hz, ho⟩ := own_lst hs o1
    obtain ⟨rfl, rfl⟩ := own_int o2
    obtain ⟨w, F', e1, ow, sub, nd⟩ := owns_at t1 hf
    refine ix_list value slice pins s σ H _ _ v u Q I rx ry ⟨a, vs, _, w, rfl, rfl, .inl (.inl h1), e1, q w F' ow ?_ ?_⟩ hsub
    · rename_i o _ _
      intro b hb
      cases o with
      | false => obtain ⟨_, _, e⟩ := hz rfl; have := sub b hb; rw [e] at this; simp at this
      | true => rw [ho rfl]; exact List.mem_cons_of_mem _ (sub b hb)
    · rename_i o _ _
      intro nd'
      cases o with
      | false => obtain ⟨_, _, e⟩ := hz rfl; exact nd (by rw [e]; exact List.nodup_nil)
      | true => rw [ho rfl] at nd'; exact nd (List.nodup_cons.mp nd').2
  · obtain ⟨a, vs, rfl, h1, t1⟩ := tup_sqt (K := X.K) hs o1
    obtain ⟨rfl, rfl⟩ := own_int o2
    obtain ⟨w, F', e1, ow, sub, nd⟩ := owns_at t1 hf
    exact ix_tup value slice pins s σ H _ _ v u Q I rx ry ⟨a, vs, _, w, rfl, rfl, h1, e1, q w F' ow sub nd⟩ hsub
  · rename_i s' i
    split at hf
    · rename_i hl
      obtain ⟨rfl, rfl⟩ := own_str o1
      obtain ⟨rfl, rfl⟩ := own_int o2
      cases hc : atI s' i with
      | none => rw [hc] at hf; cases hf
      | some c =>
        rw [hc] at hf; cases hf
        exact ix_str value slice pins s σ H _ _ v u Q I rx ry ⟨_, _, c, rfl, rfl, by rw [S_len]; exact hl, by rw [S_list]; exact hc, q _ [] (.atom rfl) (fun _ h => absurd h (by simp)) fun _ => List.nodup_nil⟩ hsub
    · cases hf
  · cases hf
theorem d_ixG {f : D → D → Option D} (hx : IxD X f) (ha : PD X W a1 s1 ea ma) (hb : PD X W a2 s2 eb mb) (hc : (!a2 || s1) = true := by decide) (hp : PlainIx eb := by exact fun _ _ => rfl) : PD X W (a1 || a2) s1 (.Subscript ea eb pos) (eOp f ma mb) :=
  PE.weak (pe_ix hx ha hb hp) fun σ H Q ⟨B, ρ, U, st, k⟩ => by
    have hc' : a2 = false ∨ s1 = true := by cases a2 <;> simp_all
    refine ⟨B, ρ, U, st, ?_⟩
    dsimp only [eOp, mBind] at k
    cases hm : ma ρ with
    | ok d ρ1 =>
      rw [hm] at k
      intro v B1 H1 U1 F1 p
      refine ⟨B1, ρ1, U1, p.st, ?_⟩
      dsimp only [Res.bind, mBind] at k
      cases hm2 : mb ρ1 with
      | ok d2 ρ2 =>
        rw [hm2] at k
        intro v2 B2 H2 U2 F2 q
        have pq := p.comb1 q hc'
        dsimp only [Res.bind, mBind, mOpt] at k
        cases hf : f d d2 with
        | none => rw [hf] at k; exact k.elim
        | some z =>
          rw [hf] at k
          refine ⟨B2, d, d2, F1, F2, z, pq.st.sub, pq.own, q.own, hf, fun w F' ow sub nd => ?_⟩
          refine k w B2 H2 U2 F' ⟨pq.st, ow, fun e => ?_, pq.step, pq.alt⟩
          obtain ⟨k1, n1⟩ := pq.sep e
          exact ⟨⟨nd k1.nd, fun a x => k1.dj a (sub a x), fun a x => k1.off a (sub a x)⟩, fun a x => n1 a (sub a x)⟩
      | exc x ρ2 => rw [hm2] at k; exact k.back p.step
      | stuck => rw [hm2] at k; exact k
    | exc x ρ1 => rw [hm] at k; exact k
    | stuck => rw [hm] at k; exact k
theorem d_ix (ha : PD X W a1 s1 ea ma) (hb : PD X W a2 s2 eb mb) (hc : (!a2 || s1) = true := by decide) (hp : PlainIx eb := by exact fun _ _ => rfl) : PD X W (a1 || a2) s1 (.Subscript ea eb pos) (eOp idxD ma mb) := d_ixG ix_D ha hb hc hp

/-! ### slices -/
def cutL {α : Type} (xs : List α) (lo hi : Option Int) : List α := (xs.drop (HT.sIx xs.length 0 lo)).take (HT.sIx xs.length xs.length hi - HT.sIx xs.length 0 lo)
def slD (d : D) (lo hi : Option Int) : Option D := match d with
  | .lst _ xs => if frzs (cutL xs lo hi) then some (.lst true (cutL xs lo hi)) else none
  | .tup xs => if frzs xs then some (.tup (cutL xs lo hi)) else none
  | .str s => if s.length ≤ 16777216 then some (.str (cutL s lo hi)) else none
  | .scr ns => some (.lst true ((cutL ns lo hi).map D.int))
  | _ => none
def oNone : M (Option Int) := mPure none
def oSome (m : M D) : M (Option Int) := fun ρ => match m ρ with
  | .ok (.int i) ρ' => .ok (some i) ρ'
  | .ok _ _ => .stuck
  | .exc e ρ' => .exc e ρ'
  | .stuck => .stuck
def eSl (m : M D) (lo hi : M (Option Int)) : M D := mBind m fun d => mBind lo fun l => mBind hi fun h => mOpt (slD d l h)
def tO (mg : Ev) (W : WX) (alt : Bool) (m : M (Option Int)) : TO := fun σ H Q => ∃ B ρ U, Sta mg B H σ ρ U ∧ match m ρ with
  | .ok b ρ' => ∀ B' H' U', Post mg alt true B H σ ρ U ρ' (oN mg) B' H' U' [] → Q b H'
  | .exc e ρ' => excW mg W B H σ U e ρ'
  | .stuck => False
def PDO (X : Cx) (W : WX) (alt : Bool) (e : Option Expr) (m : M (Option Int)) : Prop := PO X e (tO X.ev W alt m)
theorem PO.weak {X : Cx} {e : Option Expr} {t t' : TO} (h : PO X e t) (w : ∀ σ H Q, t' σ H Q → t σ H Q) : PO X e t' := ⟨fun pins s σ H Q I q => h.run pins s σ H Q I (w _ _ _ q)⟩
theorem o_none : PDO X W false none oNone := PO.weak po_none fun σ H Q ⟨B, ρ, U, st, k⟩ =>
  k B H U ⟨st, rfl, fun _ => ⟨Sep.nil, fun _ h => absurd h (by simp)⟩, Step.refl st.sub, fun _ => ⟨rfl, rfl, Step.refl st.sub⟩⟩
theorem o_some (h : PD X W alt sep e m) : PDO X W alt (some e) (oSome m) := PO.weak (po_some h) fun σ H Q ⟨B, ρ, U, st, k⟩ => by
  refine ⟨B, ρ, U, st, ?_⟩
  dsimp only [oSome] at k
  cases hm : m ρ with
  | ok d ρ1 =>
    rw [hm] at k
    intro v B1 H1 U1 F1 p
    cases d with
    | int i =>
      obtain ⟨rfl, rfl⟩ := own_int p.own
      exact ⟨i, rfl, k B1 H1 U1 ⟨p.st, rfl, fun _ => ⟨Sep.nil, fun _ h => absurd h (by simp)⟩, p.step, p.alt⟩⟩
    | _ => exact k.elim
  | exc x ρ1 => rw [hm] at k; exact k
  | stuck => rw [hm] at k; exact k
theorem cutS_S (s : List Nat) (lo hi : Option Int) : cutS (S s) lo hi = S (cutL s lo hi) := by
  show (⟨(((S s).cps.toList.drop (HT.sIx (S s).length 0 lo)).take (HT.sIx (S s).length (S s).length hi - HT.sIx (S s).length 0 lo)).toArray⟩ : Str) = _
  rw [S_list, S_len]; rfl
theorem owns_cut {mg : Ev} {B H : Hp} {vs : List V} {ds : List D} {F : List Addr} (lo hi : Option Int) (o : Owns mg B H vs ds F) (h : frzs (cutL ds lo hi) = true) : Owns mg B H (cutV vs lo hi) (cutL ds lo hi) [] := by
  unfold cutV cutL at *
  rw [o.len]
  obtain ⟨_, F1, _, o1, _⟩ := o.take (HT.sIx ds.length 0 lo)
  obtain ⟨F2, _, o2, _, _⟩ := o1.take (HT.sIx ds.length ds.length hi - HT.sIx ds.length 0 lo)
  obtain rfl := o2.nil_of h
  exact o2
theorem frzs_cut {xs : List D} (lo hi : Option Int) (h : frzs xs = true) : frzs (cutL xs lo hi) = true := by
  rw [frzs_iff] at h ⊢
  intro x hx
  exact h x (List.mem_of_mem_drop (List.mem_of_mem_take hx))
def rSlD (mg : Ev) : V → Option Int → Option Int → Hp → VK → Prop := fun x lo hi H Q => ∃ B d F z, (∀ a o, B a = some o → H a = some o) ∧ Own mg B H x d F ∧ slD d lo hi = some z ∧ ∀ w B' H' K, New mg B H w z B' H' K → Q w H'
theorem sl_or : SlR X (fun x lo hi H Q => rSlL X.K x lo hi H Q ∨ (rSlA X.K x lo hi H Q ∨ rSlS x lo hi H Q)) := sl_list.or (sl_tupA.or sl_str)
theorem sl_D : SlR X (rSlD X.ev) := by
  intro pins s σ H x v vl vu lo hi sl Q I rx hs pl pu ⟨B, d, F, z, hsub, o1, hf, q⟩
  refine sl_or pins s σ H x v vl vu lo hi sl Q I rx hs pl pu ?_
  unfold slD at hf
  split at hf
  · split at hf <;> cases hf
    rename_i hz
    obtain ⟨a, vs, K1, rfl, h1, h2, t1⟩ := lst_sql (K := X.K) hsub o1
    exact .inl ⟨a, vs, rfl, h2, fun p hp => q _ _ _ _ (New.lst hsub (owns_cut lo hi t1 hz) hp)⟩
  · split at hf <;> cases hf
    rename_i xs hz
    obtain ⟨a, vs, rfl, h2, t1⟩ := tup_sqt (K := X.K) hsub o1
    refine .inr (.inl ⟨a, vs, rfl, h2, fun e => ?_, fun _ p hp => q _ _ _ _ (New.tup hsub (owns_cut lo hi t1 (frzs_cut lo hi hz)) hp)⟩)
    have e3 : cutL xs lo hi = xs := by
      unfold cutL
      rw [t1.len] at e
      rw [e.1, e.2]; simp
    rw [e3] at q
    obtain rfl := t1.nil_of hz
    exact q _ B H [] (New.flat hsub o1)
  · split at hf <;> cases hf
    rename_i hz
    obtain ⟨rfl, rfl⟩ := own_str o1
    exact .inr (.inr ⟨_, rfl, by rw [S_len]; exact hz, by rw [cutS_S]; exact q _ B H [] (New.flat hsub (.atom (S_list _)))⟩)
  · cases hf
    obtain ⟨a, rfl, hb, rfl⟩ := own_scr o1
    rename_i ns
    refine .inl ⟨a, ns.map V.int, rfl, sq_mono hsub hb, fun p hp => q _ _ _ _ (New.lst hsub ?_ hp)⟩
    have : cutV (ns.map V.int) lo hi = (cutL ns lo hi).map V.int := by
      unfold cutV cutL; rw [List.length_map, List.map_take, List.map_drop]
    rw [this]
    generalize cutL ns lo hi = l
    induction l with
    | nil => exact .nil
    | cons i r ih => exact .cons (F := []) (.atom rfl) ih
  · cases hf
theorem d_sl {lo hi : Option Expr} {p2 : Pos} {al ah : Bool} {ml mh : M (Option Int)} (h : PD X W a1 s1 e m) (hl : PDO X W al lo ml) (hh : PDO X W ah hi mh) (hc : (!(al || ah) || s1) = true := by decide) : PD X W (a1 || (al || ah)) true (.Subscript e (.Slice lo hi none p2) pos) (eSl m ml mh) :=
  PE.weak (pe_slice sl_D h hl hh) fun σ H Q ⟨B, ρ, U, st, k⟩ => by
    have hc' : (al || ah) = false ∨ s1 = true := by cases hx : (al || ah) <;> simp_all
    refine ⟨B, ρ, U, st, ?_⟩
    dsimp only [eSl, mBind] at k
    cases hm : m ρ with
    | ok d ρ1 =>
      rw [hm] at k
      intro v B1 H1 U1 F1 p
      refine ⟨B1, ρ1, U1, p.st, ?_⟩
      dsimp only [Res.bind, mBind] at k
      cases hm2 : ml ρ1 with
      | ok d2 ρ2 =>
        rw [hm2] at k
        intro B2 H2 U2 q
        refine ⟨B2, ρ2, U2, q.st, ?_⟩
        dsimp only [Res.bind, mBind] at k
        cases hm3 : mh ρ2 with
        | ok d3 ρ3 =>
          rw [hm3] at k
          intro B3 H3 U3 q3
          dsimp only [Res.bind, mBind, mOpt] at k
          have pq := p.comb1 (q.comb1 q3 (.inr rfl)) hc'
          cases hf : slD d d2 d3 with
          | none => rw [hf] at k; exact k.elim
          | some z =>
            rw [hf] at k
            exact ⟨B3, d, F1, z, pq.st.sub, pq.own, hf, fun w B' H' K nw => k w B' H' U3 K (pq.fin nw)⟩
        | exc x ρ3 => rw [hm3] at k; exact (k.back p.step).back q.step
        | stuck => rw [hm3] at k; exact k
      | exc x ρ2 => rw [hm2] at k; exact k.back p.step
      | stuck => rw [hm2] at k; exact k
    | exc x ρ1 => rw [hm] at k; exact k
    | stuck => rw [hm] at k; exact k

/-! ### calls of built-ins, by values -/
/-- a built-in of data that makes something new or nothing -/
def FnD (X : Cx) (f : Value) (g : List D → Option D) : Prop := CallR X f fun xs H Q => ∃ B ds F z, (∀ a o, B a = some o → H a = some o) ∧ Owns X.ev B H xs ds F ∧ g ds = some z ∧ ∀ w B' H' K, New X.ev B H w z B' H' K → Q w H'
theorem fn_core {g : List D → Option D} {t : TE} (ht : ∀ σ H Q, (tCB (fun xs H Q => ∃ B ds F z, (∀ a o, B a = some o → H a = some o) ∧ Owns X.ev B H xs ds F ∧ g ds = some z ∧ ∀ w B' H' K, New X.ev B H w z B' H' K → Q w H') (tL X.ev W alt sep ms)) σ H Q → t σ H Q) :
    ∀ σ H Q, tE X.ev W alt true (eFn g ms) σ H Q → t σ H Q := fun σ H Q ⟨B, ρ, U, st, k⟩ => by
  refine ht σ H Q ⟨B, ρ, U, st, ?_⟩
  dsimp only [eFn, mBind] at k
  cases hm : ms ρ with
  | ok ds ρ1 =>
    rw [hm] at k
    intro vs B1 H1 U1 F1 p
    dsimp only [Res.bind, mBind, mOpt] at k
    cases hf : g ds with
    | none => rw [hf] at k; exact k.elim
    | some z =>
      rw [hf] at k
      exact ⟨B1, ds, F1, z, p.st.sub, p.own, hf, fun w B' H' K nw => k w B' H' U1 K (p.fin nw)⟩
  | exc x ρ1 => rw [hm] at k; exact k
  | stuck => rw [hm] at k; exact k
theorem d_bi {id : String} {x : Str} {g : List D → Option D} {p : Pos} (hc : FnD X (.builtin id) g) (hg : Gl X x) (hm : X.mg x = none) (hv : bootBuiltins x = some (.builtin id)) (ha : PDL X W alt sep (e :: es) ms) (hn : x ≠ "__name__" := by decide) (hdb : (x == ("__debug__" : Str)) = false := by decide)
    (he : starEach (e :: es) X.env = (false, eval e X.env) :: starEach es X.env := by rfl) (hpl : (backTo pos (starEach es X.env)).any (·.1) = false := by rfl) : PD X W alt true (.Call (.Name x p) (e :: es) [] pos) (eFn g ms) :=
  PE.weak (pe_callB hc hg hm hv ha hn hdb he hpl) (fn_core fun _ _ _ h => h)
theorem d_bt {T : String} {x : Str} {g : List D → Option D} {p : Pos} (hc : FnD X (.type T) g) (hg : Gl X x) (hm : X.mg x = none) (hv : bootBuiltins x = some (.type T)) (ha : PDL X W alt sep (e :: es) ms) (hn : x ≠ "__name__" := by decide) (hdb : (x == ("__debug__" : Str)) = false := by decide)
    (he : starEach (e :: es) X.env = (false, eval e X.env) :: starEach es X.env := by rfl) (hpl : (backTo pos (starEach es X.env)).any (·.1) = false := by rfl) : PD X W alt true (.Call (.Name x p) (e :: es) [] pos) (eFn g ms) :=
  PE.weak (pe_callTy hc hg hm hv ha hn hdb he hpl) (fn_core fun _ _ _ h => h)
end
end Eng
/-! Eng8: what a slot holds is changed; statements. -/
namespace Eng
open PySem PySem.Spec PyProof.Rows L2

section
variable {mg : Ev} {a1 a2 s1 s2 alt sep : Bool} {B B1 B2 B' H H1 H2 H' : Hp} {σ σ' : L2.St} {ρ ρ1 ρ2 ρ' : Rho} {U U1 U2 U' F F1 F2 : List Addr} {r r1 r2 : Rel mg}
theorem set_same {α : Type} {l : List α} {i : Nat} {x : α} (h : l[i]? = some x) : l.set i x = l := set_self h
/-- what a slot owns is changed by its holder, who may take in what F owns and give out Fr -/
theorem mut_slot {i : Nat} {d0 : D} (p : Post mg alt true B H σ ρ U ρ1 r B1 H1 U1 F) (hi : ρ1[i]? = some (some d0)) :
    ∃ v0 G, σ[i]? = some (some v0) ∧ Own mg B1 H1 v0 d0 G ∧ G.Nodup ∧ (∀ x ∈ G, x ∉ F) ∧ (∀ x ∈ F, x ∉ G) ∧ (∀ x ∈ G, B1 x = none) ∧
      ∀ H2 d2 G2 w e Fr, (∀ x, x ∉ G → H2 x = H1 x) → Own mg B1 H2 v0 d2 G2 → Own mg B1 H2 w e Fr → (∀ x ∈ G2 ++ Fr, x ∈ G ∨ x ∈ F) → (G2 ++ Fr).Nodup →
        ∃ U2, Post mg true true B H σ ρ U (ρ1.set i (some d2)) (oV mg w e) B1 H2 U2 Fr := by
  obtain ⟨k, n⟩ := p.sep rfl
  obtain ⟨v0, G, U', e0, o0, sp, st', mem⟩ := p.st.take hi
  have thF := r.there p.own
  have hlt : i < ρ1.length := (List.getElem?_eq_some_iff.mp hi).1
  refine ⟨v0, G, e0, o0, sp.nd, fun x hx hf => k.dj x hf ((mem x).mpr (.inl hx)), fun x hf hx => k.dj x hf ((mem x).mpr (.inl hx)), sp.off, fun H2 d2 G2 w e Fr hk o2 ow hsub hnd => ?_⟩
  have hsubB : ∀ a o, B1 a = some o → H2 a = some o := fun a o h => by
    rw [hk a fun z => by rw [sp.off a z] at h; cases h]
    exact p.st.sub a o h
  have st1 : Step B1 H1 G B1 H2 [] := ⟨hsubB, fun _ _ h => h, fun a _ x => hk a x, fun _ h => absurd h (by simp), fun _ h => .inl h⟩
  have st2 := st'.step st1 fun a x y => sp.dj a y x
  have nd2 := List.nodup_append.mp hnd
  have gU : ∀ x ∈ G, x ∈ U1 := fun x h => (mem x).mpr (.inl h)
  have offG : ∀ x, x ∈ G ∨ x ∈ F → B1 x = none := fun x h => h.elim (sp.off x) (k.off x)
  have djU : ∀ x, x ∈ G ∨ x ∈ F → x ∉ U' := fun x h y => h.elim (fun h => sp.dj x h y) (fun h => k.dj x h ((mem x).mpr (.inr y)))
  have sp2 : Sep B1 G2 U' := ⟨nd2.1, fun x h => djU x (hsub x (by simp [h])), fun x h => offG x (hsub x (by simp [h]))⟩
  obtain ⟨U'', st3, sub3⟩ := st2.put (i := i) (by simpa using hlt) o2 sp2
  rw [set_self e0, List.set_set] at st3
  have newF : ∀ x ∈ F, x ∈ U ∨ H x = none := n
  have newG : ∀ x ∈ U1, x ∈ U ∨ H x = none := p.step.new
  refine ⟨G2 ++ U'', st3, ow, fun _ => ⟨⟨nd2.2.1, fun x h y => ?_, fun x h => offG x (hsub x (by simp [h]))⟩, fun x h => ?_⟩, ?_, fun h => by cases h⟩
  · rcases List.mem_append.mp y with y | y
    · exact nd2.2.2 x y x h rfl
    · exact djU x (hsub x (by simp [h])) (sub3 x y)
  · rcases hsub x (by simp [h]) with z | z
    · exact newG x (gU x z)
    · exact newF x z
  · refine ⟨hsubB, p.step.bs, fun x hx hn => ?_, fun x h => ?_, p.step.bnew⟩
    · have e1 := p.step.keep x hx hn
      rw [hk x, e1]
      intro z
      rcases newG x (gU x z) with y | y
      · exact hn y
      · exact hx y
    · rcases List.mem_append.mp h with h | h
      · rcases hsub x (by simp [h]) with z | z
        · exact newG x (gU x z)
        · exact newF x z
      · exact newG x ((mem x).mpr (.inr (sub3 x h)))
end

/-! ### statements -/
inductive Out where
  | nx (ρ : Rho)
  | rt (d : D) (ρ : Rho)
  | bk (ρ : Rho)
  | ct (ρ : Rho)
  | exc (e : Exc) (ρ : Rho)
  | stuck
abbrev MS := Rho → Out
structure PostS (mg : Ev) (kp : List Nat) (B H : Hp) (σ : L2.St) (U : List Addr) (σ' : L2.St) (ρ' : Rho) (B' H' : Hp) (U' : List Addr) : Prop where
  st : Sta mg B' H' σ' ρ' U'
  step : Step B H U B' H' U'
  kp : ∀ i ∈ kp, σ'[i]? = σ[i]?
structure PostR (mg : Ev) (kp : List Nat) (B H : Hp) (σ : L2.St) (U : List Addr) (v : V) (d : D) (σ' : L2.St) (ρ' : Rho) (B' H' : Hp) (U' F : List Addr) : Prop where
  st : Sta mg B' H' σ' ρ' U'
  own : Own mg B' H' v d F
  sep : Sep B' F U'
  new : ∀ a ∈ F, a ∈ U ∨ H a = none
  step : Step B H U B' H' U'
  kp : ∀ i ∈ kp, σ'[i]? = σ[i]?
def excS (mg : Ev) (W : WX) (kp : List Nat) (B H : Hp) (σ : L2.St) (U : List Addr) (e : Exc) (ρ' : Rho) : Prop :=
  ∀ σ' B' H' U' cls dx, PostS mg kp B H σ U σ' ρ' B' H' U' → ExcR mg B' H' e cls dx → W cls dx σ' H'
def tS (mg : Ev) (W : WX) (kp : List Nat) (m : MS) : TS := fun D σ H => ∃ B ρ U, Sta mg B H σ ρ U ∧ match m ρ with
  | .nx ρ' => ∀ σ' B' H' U', PostS mg kp B H σ U σ' ρ' B' H' U' → D.nx σ' H'
  | .bk ρ' => ∀ σ' B' H' U', PostS mg kp B H σ U σ' ρ' B' H' U' → D.bk σ' H'
  | .ct ρ' => ∀ σ' B' H' U', PostS mg kp B H σ U σ' ρ' B' H' U' → D.ct σ' H'
  | .rt d ρ' => ∀ v σ' B' H' U' F, PostR mg kp B H σ U v d σ' ρ' B' H' U' F → D.rt v H'
  | .exc e ρ' => excS mg W kp B H σ U e ρ'
  | .stuck => False
def PDS (X : Cx) (W : WX) (kp : List Nat) (st : Stmt) (m : MS) : Prop := PS X st (tS X.ev W kp m)
def PDSs (X : Cx) (W : WX) (kp : List Nat) (st : List Stmt) (m : MS) : Prop := PSs X st (tS X.ev W kp m)

section
variable {mg : Ev} {kp : List Nat} {B B1 B2 B' H H1 H2 H' : Hp} {σ σ1 σ2 σ' : L2.St} {ρ ρ1 ρ2 ρ' : Rho} {U U1 U2 U' F F1 F2 : List Addr} {r : Rel mg} {W : WX} {alt sep : Bool}
theorem PostS.trans (p : PostS mg kp B H σ U σ1 ρ1 B1 H1 U1) (q : PostS mg kp B1 H1 σ1 U1 σ2 ρ2 B2 H2 U2) : PostS mg kp B H σ U σ2 ρ2 B2 H2 U2 :=
  ⟨q.st, p.step.trans q.step, fun i h => (q.kp i h).trans (p.kp i h)⟩
theorem PostS.transR {v : V} {d : D} (p : PostS mg kp B H σ U σ1 ρ1 B1 H1 U1) (q : PostR mg kp B1 H1 σ1 U1 v d σ2 ρ2 B2 H2 U2 F) : PostR mg kp B H σ U v d σ2 ρ2 B2 H2 U2 F :=
  ⟨q.st, q.own, q.sep, fun a x => by
    rcases q.new a x with z | z
    · exact p.step.new a z
    · by_cases y : H a = none
      · exact .inr y
      · by_cases w : a ∈ U
        · exact .inl w
        · rw [p.step.keep a y w] at z; exact absurd z y, p.step.trans q.step, fun i h => (q.kp i h).trans (p.kp i h)⟩
theorem PostS.refl (s : Sta mg B H σ ρ U) : PostS mg kp B H σ U σ ρ B H U := ⟨s, Step.refl s.sub, fun _ _ => rfl⟩
theorem Post.toS (p : Post mg alt sep B H σ ρ U ρ' r B' H' U' F) : PostS mg kp B H σ U σ ρ' B' H' U' := ⟨p.st, p.step, fun _ _ => rfl⟩
theorem excS.back {e : Exc} (k : excS mg W kp B H σ U e ρ') (p : PostS mg kp B H σ U σ1 ρ1 B1 H1 U1) : excS mg W kp B1 H1 σ1 U1 e ρ' :=
  fun σ' B' H' U' cls dx q r => k σ' B' H' U' cls dx (p.trans q) r
theorem excS.toW {e : Exc} (k : excS mg W kp B H σ U e ρ') : excW mg W B H σ U e ρ' := fun B' H' U' cls dx st t r => k σ B' H' U' cls dx ⟨st, t, fun _ _ => rfl⟩ r
/-- an outcome's wish, seen from a later state -/
theorem tS_back {m : MS} {D : Ends} (p : PostS mg kp B H σ U σ1 ρ1 B1 H1 U1)
    (k : match m ρ1 with
      | .nx ρ' => ∀ σ' B' H' U', PostS mg kp B H σ U σ' ρ' B' H' U' → D.nx σ' H'
      | .bk ρ' => ∀ σ' B' H' U', PostS mg kp B H σ U σ' ρ' B' H' U' → D.bk σ' H'
      | .ct ρ' => ∀ σ' B' H' U', PostS mg kp B H σ U σ' ρ' B' H' U' → D.ct σ' H'
      | .rt d ρ' => ∀ v σ' B' H' U' F, PostR mg kp B H σ U v d σ' ρ' B' H' U' F → D.rt v H'
      | .exc e ρ' => excS mg W kp B H σ U e ρ'
      | .stuck => False) : tS mg W kp m D σ1 H1 := by
  refine ⟨B1, ρ1, U1, p.st, ?_⟩
  cases hm : m ρ1 with
  | nx ρ' => rw [hm] at k; exact fun σ' B' H' U' q => k σ' B' H' U' (p.trans q)
  | bk ρ' => rw [hm] at k; exact fun σ' B' H' U' q => k σ' B' H' U' (p.trans q)
  | ct ρ' => rw [hm] at k; exact fun σ' B' H' U' q => k σ' B' H' U' (p.trans q)
  | rt d ρ' => rw [hm] at k; exact fun v σ' B' H' U' F q => k v σ' B' H' U' F (p.transR q)
  | exc e ρ' => rw [hm] at k; exact k.back p
  | stuck => rw [hm] at k; exact k
end

def sSeq (m n : MS) : MS := fun ρ => match m ρ with
  | .nx ρ1 => n ρ1
  | x => x
def sNext : MS := fun ρ => .nx ρ
def ofRes {α : Type} (x : Res α) (f : α → Rho → Out) : Out := match x with
  | .ok a ρ => f a ρ
  | .exc e ρ => .exc e ρ
  | .stuck => .stuck
def sSet (i : Nat) (m : M D) : MS := fun ρ => ofRes (m ρ) fun d ρ1 => .nx (ρ1.set i (some d))
def sEx (m : M D) : MS := fun ρ => ofRes (m ρ) fun _ ρ1 => .nx ρ1
def sRet (m : M D) : MS := fun ρ => ofRes (m ρ) fun d ρ1 => .rt d ρ1
def sRetN : MS := fun ρ => .rt .non ρ
def sIf (c : M Bool) (m n : MS) : MS := fun ρ => ofRes (c ρ) fun b ρ1 => if b then m ρ1 else n ρ1
def sFrz (i : Nat) (m : MS) : MS := fun ρ => match ρ[i]? with
  | some (some d) => m (ρ.set i (some d.freeze))
  | _ => m ρ
def sBrk : MS := fun ρ => .bk ρ
def sCnt : MS := fun ρ => .ct ρ

section
variable {X : Cx} {W : WX} {kp : List Nat} {alt sep a1 a2 a3 s1 s2 s3 : Bool} {e ea eb ec : Expr} {es : List Expr} {m ma mb mc : M D} {ms : M (List D)} {m1 m2 : MS} {c : M Bool} {pos : Pos} {st : Stmt} {rest : List Stmt}
theorem s_nil : PDSs X W kp [] sNext := PSs.weak pss_nil fun D σ H ⟨B, ρ, U, st, k⟩ => k σ B H U (PostS.refl st)
theorem s_one (h : PDS X W kp st m1) : PDSs X W kp [st] m1 := pss_one h
theorem s_cons (h : PDS X W kp st m1) (t : PDSs X W kp rest m2) : PDSs X W kp (st :: rest) (sSeq m1 m2) := PSs.weak (pss_cons h t) fun D σ H ⟨B, ρ, U, st, k⟩ => by
  refine ⟨B, ρ, U, st, ?_⟩
  unfold sSeq at k
  cases hm : m1 ρ with
  | nx ρ1 => rw [hm] at k; exact fun σ1 B1 H1 U1 p => tS_back p k
  | bk ρ' => rw [hm] at k; exact k
  | ct ρ' => rw [hm] at k; exact k
  | rt d ρ' => rw [hm] at k; exact k
  | exc e ρ' => rw [hm] at k; exact k
  | stuck => rw [hm] at k; exact k
theorem s_pass : PDS X W kp (.Pass pos) sNext := PS.weak ps_pass fun D σ H ⟨B, ρ, U, st, k⟩ => k σ B H U (PostS.refl st)
theorem s_brk : PDS X W kp (.Break pos) sBrk := PS.weak ps_break fun D σ H ⟨B, ρ, U, st, k⟩ => k σ B H U (PostS.refl st)
theorem s_cnt : PDS X W kp (.Continue pos) sCnt := PS.weak ps_continue fun D σ H ⟨B, ρ, U, st, k⟩ => k σ B H U (PostS.refl st)
theorem s_expr (h : PD X W alt sep e m) (hs : swapsWith e none pos.line X.env = pure false := by rfl) : PDS X W kp (.Expr e pos) (sEx m) := PS.weak (ps_expr h hs) fun D σ H ⟨B, ρ, U, st, k⟩ => by
  refine ⟨B, ρ, U, st, ?_⟩
  dsimp only [sEx] at k
  cases hm : m ρ with
  | ok d ρ1 => rw [hm] at k; exact fun v B1 H1 U1 F p => k σ B1 H1 U1 p.toS
  | exc x ρ1 => rw [hm] at k; exact excS.toW k
  | stuck => rw [hm] at k; exact k
theorem s_ret (h : PD X W alt true e m) : PDS X W kp (.Return (some e) pos) (sRet m) := PS.weak (ps_ret h) fun D σ H ⟨B, ρ, U, st, k⟩ => by
  refine ⟨B, ρ, U, st, ?_⟩
  dsimp only [sRet] at k
  cases hm : m ρ with
  | ok d ρ1 =>
    rw [hm] at k
    exact fun v B1 H1 U1 F p => k v σ B1 H1 U1 F ⟨p.st, p.own, (p.sep rfl).1, (p.sep rfl).2, p.step, fun _ _ => rfl⟩
  | exc x ρ1 => rw [hm] at k; exact excS.toW k
  | stuck => rw [hm] at k; exact k
theorem s_retN : PDS X W kp (.Return none pos) sRetN := PS.weak ps_retN fun D σ H ⟨B, ρ, U, st, k⟩ =>
  k .non σ B H U [] ⟨st, .atom trivial, Sep.nil, fun _ h => absurd h (by simp), Step.refl st.sub, fun _ _ => rfl⟩
theorem s_if {a b : List Stmt} (h : PDT X W alt ec c) (ha : PDSs X W kp a m1) (hb : PDSs X W kp b m2) : PDS X W kp (.If ec a b pos) (sIf c m1 m2) := PS.weak (ps_if h ha hb) fun D σ H ⟨B, ρ, U, st, k⟩ => by
  refine ⟨B, ρ, U, st, ?_⟩
  dsimp only [sIf] at k
  cases hm : c ρ with
  | ok b ρ1 =>
    rw [hm] at k
    intro B1 H1 U1 p
    dsimp only [ofRes] at k
    cases b with
    | true =>
      simp only [if_true] at k ⊢
      exact tS_back p.toS k
    | false =>
      simp only [Bool.false_eq_true, if_false] at k ⊢
      exact tS_back p.toS k
  | exc x ρ1 => rw [hm] at k; exact excS.toW k
  | stuck => rw [hm] at k; exact k
/-- a slot gets a datum -/
theorem put_slot {mg : Ev} {B H B1 H1 : Hp} {σ : L2.St} {ρ ρ1 : Rho} {U U1 F : List Addr} {v : V} {d : D} {i : Nat} (p : Post mg alt true B H σ ρ U ρ1 (oV mg v d) B1 H1 U1 F) (hk : i ∉ kp) :
    ∃ U2, PostS mg kp B H σ U (σ.set i (some v)) (ρ1.set i (some d)) B1 H1 U2 := by
  obtain ⟨k, n⟩ := p.sep rfl
  have hkp : ∀ j ∈ kp, (σ.set i (some v))[j]? = σ[j]? := fun j hj => List.getElem?_set_ne fun e => hk (by rw [e]; exact hj)
  by_cases hi : i < ρ1.length
  · obtain ⟨U', st, sub⟩ := p.st.put hi p.own k
    refine ⟨F ++ U', st, p.step.weak (fun _ h => h) (fun a h => ?_), hkp⟩
    rcases List.mem_append.mp h with h | h
    · rcases n a h with z | z
      · exact .inr (.inl z)
      · exact .inr (.inr z)
    · exact .inl (sub a h)
  · rw [List.set_eq_of_length_le (by rw [p.st.len]; omega), List.set_eq_of_length_le (by omega)]
    exact ⟨U1, p.st, p.step, fun _ _ => rfl⟩
theorem s_set {i : Nat} {x : Str} {pos' : Pos} (hs : PS X (.Assign [.Name x pos'] e pos) (tAsg (tE X.ev W alt true m) (gName i))) (hk : i ∉ kp := by decide) : PDS X W kp (.Assign [.Name x pos'] e pos) (sSet i m) := PS.weak hs fun D σ H ⟨B, ρ, U, st, k⟩ => by
  refine ⟨B, ρ, U, st, ?_⟩
  dsimp only [sSet] at k
  cases hm : m ρ with
  | ok d ρ1 =>
    rw [hm] at k
    intro v B1 H1 U1 F p
    obtain ⟨U2, q⟩ := put_slot p hk
    exact k _ B1 H1 U2 q
  | exc x ρ1 => rw [hm] at k; exact excS.toW k
  | stuck => rw [hm] at k; exact k
theorem s_frz {i : Nat} {sts : List Stmt} (h : PDSs X W kp sts m1) : PDSs X W kp sts (sFrz i m1) := PSs.weak h fun D σ H ⟨B, ρ, U, st, k⟩ => by
  unfold sFrz at k
  cases hr : ρ[i]? with
  | none => rw [hr] at k; exact ⟨B, ρ, U, st, k⟩
  | some o =>
    cases o with
    | none => rw [hr] at k; exact ⟨B, ρ, U, st, k⟩
    | some d =>
      rw [hr] at k
      obtain ⟨v, F, U', e, o, sp, st', mem⟩ := st.take hr
      obtain ⟨B', t, o', _⟩ := freeze_sep st.sub o sp
      have st2 := st'.step t fun a x y => sp.dj a y x
      have hlt : i < ρ.length := (List.getElem?_eq_some_iff.mp hr).1
      obtain ⟨U'', st3, sub⟩ := st2.put (i := i) (by simpa using hlt) o' Sep.nil
      rw [set_self e, List.set_set] at st3
      refine tS_back (mg := X.ev) (kp := kp) (W := W) (B := B) (H := H) (σ := σ) (U := U) ⟨st3, ?_, fun _ _ => rfl⟩ k
      refine t.weak (fun a x => (mem a).mpr (.inl x)) fun a x => .inr (.inl ((mem a).mpr (.inr (sub a (by simpa using x)))))
end
end Eng
/-! Eng9: defs: their promises, their calls. -/
namespace Eng
open PySem PySem.Spec PyProof.Rows L2

inductive Fo where
  | ok (d : D) (ps : List (Option D))
  | exc (e : Exc) (ps : List (Option D))
  | stuck
/-- what the slots of the parameters hold at the end, of those that are never stored anew -/
def pick (kp : List Nat) : Nat → Nat → Rho → List (Option D)
  | _, 0, _ => []
  | i, n + 1, [] => none :: pick kp (i + 1) n []
  | i, n + 1, o :: ρ => (if i ∈ kp then o else none) :: pick kp (i + 1) n ρ
def runF (kp : List Nat) (np nl : Nat) (m : MS) : List D → Fo := fun ds => if ds.length = np then match m (ds.map some ++ List.replicate nl none) with
    | .nx ρ => .ok .non (pick kp 0 np ρ)
    | .rt d ρ => .ok d (pick kp 0 np ρ)
    | .exc e ρ => .exc e (pick kp 0 np ρ)
    | _ => .stuck
  else .stuck
def spD (mg : Ev) (np : Nat) (f : List D → Fo) : Sp := fun vs H Q E => vs.length = np ∧ ∃ B ds U, Sta mg B H (vs.map some) (ds.map some) U ∧ match f ds with
  | .ok d ps => ∀ v B' H' U' F, Sta mg B' H' (vs.map some) ps U' → Own mg B' H' v d F → Sep B' F U' → (∀ a ∈ F, a ∈ U ∨ H a = none) → Step B H U B' H' U' → Q v H'
  | .exc e ps => ∀ B' H' U' cls dx, Sta mg B' H' (vs.map some) ps U' → Step B H U B' H' U' → ExcR mg B' H' e cls dx → E cls dx H'
  | .stuck => False

section
variable {mg : Ev} {kp : List Nat} {B B1 B2 B' H H1 H2 H' : Hp} {σ σ1 σ2 σ' : L2.St} {ρ ρ1 ρ2 ρ' : Rho} {U U1 U2 U' F F1 F2 : List Addr} {vs : List V} {ds : List D}
theorem pick_len : ∀ (i n : Nat) (ρ : Rho), (pick kp i n ρ).length = n
  | _, 0, _ => rfl
  | i, n + 1, [] => by simp [pick, pick_len (i + 1) n]
  | i, n + 1, o :: ρ => by simp [pick, pick_len (i + 1) n]
theorem pick_get : ∀ (i n j : Nat) (ρ : Rho) (d : D), (pick kp i n ρ)[j]? = some (some d) → ρ[j]? = some (some d) ∧ (i + j) ∈ kp
  | _, 0, _, _, _, h => by simp [pick] at h
  | i, n + 1, 0, [], d, h => by simp [pick] at h
  | i, n + 1, j + 1, [], d, h => by
    simp only [pick, List.getElem?_cons_succ] at h
    have := pick_get (i + 1) n j [] d h
    simp at this
  | i, n + 1, 0, o :: ρ, d, h => by
    simp only [pick, List.getElem?_cons_zero, Option.some.injEq] at h
    split at h
    · rename_i hi
      exact ⟨by simpa using h, by simpa using hi⟩
    · cases h
  | i, n + 1, j + 1, o :: ρ, d, h => by
    simp only [pick, List.getElem?_cons_succ] at h
    obtain ⟨a, b⟩ := pick_get (i + 1) n j ρ d h
    exact ⟨by simpa using a, by rw [show i + (j + 1) = i + 1 + j by omega]; exact b⟩
theorem flatten_take {α : Type} (n : Nat) : ∀ (Fs : List (List α)), (Fs.take n).flatten.Sublist Fs.flatten := fun Fs => by
  conv => rhs; rw [← List.take_append_drop n Fs, List.flatten_append]
  exact List.sublist_append_left _ _
/-- fewer slots, the same values -/
theorem Sta.fewer (s : Sta mg B H σ ρ U) (hl : σ2.length = ρ2.length) (hn : ρ2.length ≤ ρ.length) (h : ∀ (i : Nat) (d : D), ρ2[i]? = some (some d) → ρ[i]? = some (some d) ∧ σ2[i]? = σ[i]?) : ∃ U2, Sta mg B H σ2 ρ2 U2 ∧ ∀ a ∈ U2, a ∈ U := by
  obtain ⟨l, Fs, lf, pu, k⟩ := s.sl
  have sub := flatten_take ρ2.length Fs
  have m : ∀ a ∈ (Fs.take ρ2.length).flatten, a ∈ U := fun a x => pu.mem_iff.mpr (sub.subset x)
  refine ⟨(Fs.take ρ2.length).flatten, ⟨s.sub, ⟨hl, Fs.take ρ2.length, by rw [List.length_take]; omega, List.Perm.refl _, fun i d hi => ?_⟩, (pu.nodup_iff.mp s.nd).sublist sub, fun a x => s.off a (m a x), fun a x => s.ex a (m a x)⟩, m⟩
  obtain ⟨h1, h2⟩ := h i d hi
  obtain ⟨v, F, a, b, c⟩ := k i d h1
  exact ⟨v, F, h2.trans a, by rw [List.getElem?_take_of_lt (List.getElem?_eq_some_iff.mp hi).1]; exact b, c⟩
theorem Step.less (s : Step B H U B' H' U') (h : ∀ a ∈ U2, a ∈ U') : Step B H U B' H' U2 := s.weak (fun _ h => h) fun a x => .inl (h a x)
theorem start_eq (N : List Str) (vs : List V) : start N vs = vs.map some ++ List.replicate (N.length - vs.length) none := rfl
/-- more slots, empty -/
theorem Sta.grow (s : Sta mg B H σ ρ U) (n : Nat) : Sta mg B H (σ ++ List.replicate n none) (ρ ++ List.replicate n none) U := by
  obtain ⟨l, Fs, lf, pu, k⟩ := s.sl
  refine ⟨s.sub, ⟨by simp [l], Fs ++ List.replicate n [], by simp [lf], ?_, fun i d h => ?_⟩, s.nd, s.off, s.ex⟩
  · rw [List.flatten_append]
    have : (List.replicate n ([] : List Addr)).flatten = [] := by
      induction n with
      | zero => rfl
      | succ n ih => rw [List.replicate_succ, List.flatten_cons, ih]; rfl
    rw [this, List.append_nil]; exact pu
  · by_cases hi : i < ρ.length
    · rw [List.getElem?_append_left hi] at h
      obtain ⟨v, F, a, b, c⟩ := k i d h
      exact ⟨v, F, by rw [List.getElem?_append_left (by omega)]; exact a, by rw [List.getElem?_append_left (by omega)]; exact b, c⟩
    · rw [List.getElem?_append_right (by omega), List.getElem?_replicate] at h
      split at h <;> simp at h
end

theorem ev_eq {X : Cx} (h : X.A.handled = none) : X.ev = ⟨X.mg, X.K, none⟩ := by
  unfold Cx.ev; rw [h]; rfl
/-- a def keeps its promise if its body does -/
theorem def_ok {P : Program} {w : World} {K : PySem.W.Frag} {mg : Str → Option Value} {base : Heap} {x qual : Str} {st : Stmt} {f : Addr} {fd : FuncData} {N ps : List Str} {k np nl : Nat} {kp : List Nat} {m : MS}
    (F : Fun K x qual st f fd) (S : FnScope N ps (defScope st)) (hp : ps.length = np) (hN : N.length = np + nl)
    (hbody : ∀ (cdv : Value) (A : Around) (outer : List Env) (s : Shared) (H : Hp) (E : XK), Room k (A.deeper (envOfC qual (defScope st) s.heap.objs.size f cdv)) →
      PDSs (cxOf (L2.CX P w) P w K mg base N qual (defScope st) f cdv A outer s H E) (fun cls d _ H => E cls d H) kp (defBody st) m) : FnOk P w K mg base (L2.CX P w) (k + 1) f fd ps (spD ⟨mg, K, none⟩ np (runF kp np nl m)) := by
  refine F.okX S (fun vs H Q E h => by rw [hp]; exact h.1) fun cdv A outer s H vs Q E hr h => ?_
  refine ⟨_, hbody cdv A outer s H E hr, ?_⟩
  rw [ev_eq (X := cxOf (L2.CX P w) P w K mg base N qual (defScope st) f cdv A outer s H E) hr.hd]
  show tS ⟨mg, K, none⟩ _ kp m _ _ _
  obtain ⟨hl, B, ds, U, st, h⟩ := h
  have hlen : ds.length = np := by have := st.len; simp at this; omega
  have e1 : start N vs = vs.map some ++ List.replicate nl none := by rw [start_eq, hN, hl]; congr 2; omega
  rw [e1]
  refine ⟨B, ds.map some ++ List.replicate nl none, U, st.grow nl, ?_⟩
  unfold runF at h
  rw [if_pos hlen] at h
  have back : ∀ {σ' : L2.St} {ρ' : Rho} {B' H' : Hp} {U' : List Addr}, PostS ⟨mg, K, none⟩ kp B H (vs.map some ++ List.replicate nl none) U σ' ρ' B' H' U' → ∃ U2, Sta ⟨mg, K, none⟩ B' H' (vs.map some) (pick kp 0 np ρ') U2 ∧ ∀ a ∈ U2, a ∈ U' := fun {σ' ρ' B' H' U'} p => by
    refine (p.st.grow np).fewer (by rw [pick_len]; simp [hl]) (by rw [pick_len]; simp) fun i d hi => ?_
    obtain ⟨a, b⟩ := pick_get 0 np i ρ' d hi
    have hi' : i < np := by have := (List.getElem?_eq_some_iff.mp hi).1; rw [pick_len] at this; exact this
    have hr : i < ρ'.length := (List.getElem?_eq_some_iff.mp a).1
    refine ⟨by rw [List.getElem?_append_left hr]; exact a, ?_⟩
    rw [List.getElem?_append_left (by rw [p.st.len]; exact hr), p.kp i (by simpa using b), List.getElem?_append_left (by simp [hl]; exact hi')]
  dsimp only [] at h ⊢
  cases hm : m (ds.map some ++ List.replicate nl none) with
  | nx ρ' =>
    rw [hm] at h
    intro σ' B' H' U' p
    obtain ⟨U2, s2, sub⟩ := back p
    exact h .non B' H' U2 [] s2 (.atom trivial) Sep.nil (fun _ h => absurd h (by simp)) (p.step.less sub)
  | rt d ρ' =>
    rw [hm] at h
    intro v σ' B' H' U' F p
    obtain ⟨U2, s2, sub⟩ := back ⟨p.st, p.step, p.kp⟩
    exact h v B' H' U2 F s2 p.own (p.sep.mono sub) p.new (p.step.less sub)
  | bk ρ' => rw [hm] at h; exact h.elim
  | ct ρ' => rw [hm] at h; exact h.elim
  | exc e ρ' =>
    rw [hm] at h
    intro σ' B' H' U' cls dx p r
    obtain ⟨U2, s2, sub⟩ := back p
    exact h B' H' U2 cls dx s2 (p.step.less sub) r
  | stuck => rw [hm] at h; exact h.elim
end Eng
/-! Eng10: calls: arguments given or lent. -/
namespace Eng
open PySem PySem.Spec PyProof.Rows L2

inductive ArgV where
  | val (d : D)
  | lend (i : Nat)
def aNil : M (List ArgV) := mPure []
def aVal (m : M D) (ms : M (List ArgV)) : M (List ArgV) := mBind m fun d => mBind ms fun as => mPure (.val d :: as)
def aLend (i : Nat) (ms : M (List ArgV)) : M (List ArgV) := fun ρ => match ρ[i]? with
  | some (some _) => mBind ms (fun as => mPure (.lend i :: as)) ρ
  | _ => .stuck
def takeAll : List ArgV → Rho → Option (List D × Rho)
  | [], ρ => some ([], ρ)
  | .val d :: as, ρ => match takeAll as ρ with
    | some (ds, ρ') => some (d :: ds, ρ')
    | none => none
  | .lend i :: as, ρ => match ρ[i]? with
    | some (some d) => if d.frz then (match takeAll as ρ with
        | some (ds, ρ') => some (d :: ds, ρ')
        | none => none)
      else (match takeAll as (ρ.set i none) with
        | some (ds, ρ') => some (d :: ds, ρ')
        | none => none)
    | _ => none
def putBack : List ArgV → List D → List (Option D) → Rho → Rho
  | .val _ :: as, _ :: ds, _ :: ps, ρ => putBack as ds ps ρ
  | .lend i :: as, d :: ds, p :: ps, ρ => if d.frz then putBack as ds ps ρ else putBack as ds ps (ρ.set i p)
  | _, _, _, ρ => ρ
def eCall (f : List D → Fo) (ms : M (List ArgV)) : M D := mBind ms fun as ρ => match takeAll as ρ with
  | some (ds, ρ1) => match f ds with
    | .ok d ps => .ok d (putBack as ds ps ρ1)
    | .exc e ps => .exc e (putBack as ds ps ρ1)
    | .stuck => .stuck
  | none => .stuck

section
variable {mg : Ev} {kp : List Nat} {alt sep a1 s1 a2 : Bool} {B B1 B2 B' H H1 H2 H' : Hp} {σ σ1 σ2 σ' : L2.St} {ρ ρ1 ρ2 ρ' : Rho} {U U1 U2 U' F F1 F2 : List Addr} {v : V} {d : D} {vs : List V} {ds : List D} {as : List ArgV}

inductive ArgsR (mg : Ev) (B H : Hp) (σ : L2.St) : List V → List ArgV → List Addr → Prop where
  | nil : ArgsR mg B H σ [] [] []
  | val {v d F vs as G} : Own mg B H v d F → ArgsR mg B H σ vs as G → ArgsR mg B H σ (v :: vs) (.val d :: as) (F ++ G)
  | lend {v i vs as G} : σ[i]? = some (some v) → ArgsR mg B H σ vs as G → ArgsR mg B H σ (v :: vs) (.lend i :: as) G
theorem ArgsR.step : ∀ {vs as F}, ArgsR mg B H σ vs as F → Step B H U B' H' U' → (∀ a ∈ F, a ∉ U) → ArgsR mg B' H' σ vs as F
  | _, _, _, .nil, _, _ => .nil
  | _, _, _, .val h t, s, n => .val (h.step s fun a x => n a (by simp [x])) (ArgsR.step t s fun a x => n a (by simp [x]))
  | _, _, _, .lend h t, s, n => .lend h (ArgsR.step t s n)
theorem ArgsR.there : ∀ {vs as F}, ArgsR mg B H σ vs as F → ∀ a ∈ F, H a ≠ none
  | _, _, _, .nil, a, x => absurd x (by simp)
  | _, _, _, .val h t, a, x => by
    rcases List.mem_append.mp x with x | x
    · exact h.there a x
    · exact ArgsR.there t a x
  | _, _, _, .lend _ t, a, x => ArgsR.there t a x
def oA (mg : Ev) (σ : L2.St) (vs : List V) (as : List ArgV) : Rel mg := ⟨fun B H F => ArgsR mg B H σ vs as F, fun h s n => h.step s n, fun h => h.there⟩

def tAr (mg : Ev) (W : WX) (alt : Bool) (m : M (List ArgV)) : TA := fun σ H Q => ∃ B ρ U, Sta mg B H σ ρ U ∧ match m ρ with
  | .ok as ρ' => ∀ vs B' H' U' F, Post mg alt true B H σ ρ U ρ' (oA mg σ vs as) B' H' U' F → Q vs H'
  | .exc e ρ' => excW mg W B H σ U e ρ'
  | .stuck => False
def PDA (X : Cx) (W : WX) (alt : Bool) (es : List Expr) (m : M (List ArgV)) : Prop := PA X es (tAr X.ev W alt m)

/-- slots: one more at the front -/
theorem Sta.push (s : Sta mg B H σ ρ U) (o : Own mg B H v d F) (k : Sep B F U) : Sta mg B H (some v :: σ) (some d :: ρ) (F ++ U) := by
  obtain ⟨l, Fs, lf, pu, kk⟩ := s.sl
  refine ⟨s.sub, ⟨by simp [l], F :: Fs, by simp [lf], by rw [List.flatten_cons]; exact pu.append_left F, fun i d' h => ?_⟩, List.nodup_append.mpr ⟨k.nd, s.nd, fun a x b y e => k.dj a x (by rw [e]; exact y)⟩, fun a x => ?_, fun a x => ?_⟩
  · cases i with
    | zero => simp at h; subst h; exact ⟨v, F, rfl, rfl, o⟩
    | succ i => simp at h; obtain ⟨w, G, a, b, c⟩ := kk i d' h; exact ⟨w, G, by simpa using a, by simpa using b, c⟩
  · rcases List.mem_append.mp x with x | x
    · exact k.off a x
    · exact s.off a x
  · rcases List.mem_append.mp x with x | x
    · exact o.there a x
    · exact s.ex a x
theorem Sta.nil (h : ∀ a o, B a = some o → H a = some o) : Sta mg B H [] [] [] := ⟨h, ⟨rfl, [], rfl, List.Perm.refl _, fun i d e => by simp at e⟩, List.nodup_nil, fun _ h => absurd h (by simp), fun _ h => absurd h (by simp)⟩
theorem Sta.pop {x : Option V} {o : Option D} (s : Sta mg B H (x :: σ) (o :: ρ) U) : ∃ F U', Sta mg B H σ ρ U' ∧ Sep B F U' ∧ (∀ a, a ∈ U ↔ a ∈ F ∨ a ∈ U') ∧ ∀ d, o = some d → ∃ v, x = some v ∧ Own mg B H v d F := by
  obtain ⟨l, Fs, lf, pu, kk⟩ := s.sl
  cases Fs with
  | nil => simp at lf
  | cons F Fs =>
    rw [List.flatten_cons] at pu
    have nd := List.nodup_append.mp (pu.nodup_iff.mp s.nd)
    have m : ∀ a, a ∈ U ↔ a ∈ F ∨ a ∈ Fs.flatten := fun a => by rw [pu.mem_iff, List.mem_append]
    refine ⟨F, Fs.flatten, ⟨s.sub, ⟨by simpa using l, Fs, by simpa using lf, List.Perm.refl _, fun i d h => ?_⟩, nd.2.1, fun a x => s.off a ((m a).mpr (.inr x)), fun a x => s.ex a ((m a).mpr (.inr x))⟩,
      ⟨nd.1, fun a x y => nd.2.2 a x a y rfl, fun a x => s.off a ((m a).mpr (.inl x))⟩, m, fun d e => ?_⟩
    · obtain ⟨w, G, a, b, c⟩ := kk (i + 1) d (by simpa using h)
      exact ⟨w, G, by simpa using a, by simpa using b, c⟩
    · subst e
      obtain ⟨w, G, a, b, c⟩ := kk 0 d rfl
      simp at a b
      subst b
      exact ⟨w, a, c⟩
/-- the arguments are taken together -/
theorem take_all : ∀ {as vs F} {ρ ρ2 : Rho} {U ds}, ArgsR mg B H σ vs as F → Sta mg B H σ ρ U → Sep B F U → takeAll as ρ = some (ds, ρ2) →
    ∃ Ua U2, Sta mg B H (vs.map some) (ds.map some) Ua ∧ Sta mg B H σ ρ2 U2 ∧ (∀ a ∈ Ua, a ∉ U2) ∧ (∀ a ∈ Ua, a ∈ U ∨ a ∈ F) ∧ (∀ a ∈ U2, a ∈ U)
  | _, _, _, ρ, ρ2, U, ds, .nil, s, _, e => by
    simp [takeAll] at e
    obtain ⟨rfl, rfl⟩ := e
    exact ⟨[], U, Sta.nil s.sub, s, fun _ h => absurd h (by simp), fun _ h => absurd h (by simp), fun _ h => h⟩
  | _, _, _, ρ, ρ2, U, ds, .val (F := F1) (G := G) o t, s, k, e => by
    simp only [takeAll] at e
    split at e <;> cases e
    rename_i ds' _ e'
    have ndk := List.nodup_append.mp k.nd
    have k2 : Sep B G U := ⟨ndk.2.1, fun a x => k.dj a (by simp [x]), fun a x => k.off a (by simp [x])⟩
    obtain ⟨Ua, U2, sa, s2, dj, m1, m2⟩ := take_all t s k2 e'
    have k1 : Sep B F1 Ua := ⟨ndk.1, fun a x y => by
      rcases m1 a y with z | z
      · exact k.dj a (by simp [x]) z
      · exact ndk.2.2 a x a z rfl, fun a x => k.off a (by simp [x])⟩
    refine ⟨F1 ++ Ua, U2, sa.push o k1, s2, fun a x y => ?_, fun a x => ?_, m2⟩
    · rcases List.mem_append.mp x with x | x
      · exact k.dj a (by simp [x]) (m2 a y)
      · exact dj a x y
    · rcases List.mem_append.mp x with x | x
      · exact .inr (by simp [x])
      · rcases m1 a x with z | z
        · exact .inl z
        · exact .inr (by simp [z])
  | _, _, _, ρ, ρ2, U, ds, .lend (i := i) hv t, s, k, e => by
    simp only [takeAll] at e
    split at e
    · rename_i d hd
      obtain ⟨v', F1, U', e1, o, sp, st', mem⟩ := s.take hd
      rw [hv] at e1; cases e1
      split at e
      · rename_i hf
        split at e <;> cases e
        rename_i ds' _ e'
        obtain ⟨Ua, U2, sa, s2, dj, m1, m2⟩ := take_all t s k e'
        obtain rfl := o.nil_of hf
        exact ⟨Ua, U2, by simpa using sa.push o Sep.nil, s2, dj, m1, m2⟩
      · split at e <;> cases e
        rename_i ds' _ e'
        obtain ⟨Ua, U2, sa, s2, dj, m1, m2⟩ := take_all t st' (k.mono fun a x => (mem a).mpr (.inr x)) e'
        have k1 : Sep B F1 Ua := ⟨sp.nd, fun a x y => by
          rcases m1 a y with z | z
          · exact sp.dj a x z
          · exact k.dj a z ((mem a).mpr (.inl x)), sp.off⟩
        refine ⟨F1 ++ Ua, U2, sa.push o k1, s2, fun a x y => ?_, fun a x => ?_, fun a x => (mem a).mpr (.inr (m2 a x))⟩
        · rcases List.mem_append.mp x with x | x
          · exact sp.dj a x (m2 a y)
          · exact dj a x y
        · rcases List.mem_append.mp x with x | x
          · exact .inl ((mem a).mpr (.inl x))
          · rcases m1 a x with z | z
            · exact .inl ((mem a).mpr (.inr z))
            · exact .inr z
    · cases e
/-- and given back -/
theorem put_back : ∀ {as vs ds ps} {ρ : Rho} {Ua U2 F}, ArgsR mg B H σ vs as F → Sta mg B' H' (vs.map some) ps Ua → Sta mg B' H' σ ρ U2 → (∀ a ∈ Ua, a ∉ U2) → ds.length = as.length →
    ∃ U3, Sta mg B' H' σ (putBack as ds ps ρ) U3 ∧ (∀ a ∈ U3, a ∈ Ua ∨ a ∈ U2)
  | _, _, _, _, ρ, Ua, U2, _, .nil, sa, s2, dj, hl => ⟨U2, by unfold putBack; exact s2, fun _ h => .inr h⟩
  | _, _, [], _, ρ, Ua, U2, _, .val _ _, sa, s2, dj, hl => by simp at hl
  | _, _, [], _, ρ, Ua, U2, _, .lend _ _, sa, s2, dj, hl => by simp at hl
  | _, _, _, [], ρ, Ua, U2, _, .val _ _, sa, s2, dj, hl => by have := sa.len; simp at this
  | _, _, _, [], ρ, Ua, U2, _, .lend _ _, sa, s2, dj, hl => by have := sa.len; simp at this
  | _, _, d :: ds, p :: ps, ρ, Ua, U2, _, .val o t, sa, s2, dj, hl => by
    obtain ⟨F1, U', s', sp, mem, _⟩ := sa.pop
    obtain ⟨U3, s3, m3⟩ := put_back (ds := ds) t s' s2 (fun a x => dj a ((mem a).mpr (.inr x))) (by simpa using hl)
    refine ⟨U3, by unfold putBack; exact s3, fun a x => ?_⟩
    rcases m3 a x with z | z
    · exact .inl ((mem a).mpr (.inr z))
    · exact .inr z
  | _, _, d :: ds, p :: ps, ρ, Ua, U2, _, .lend (i := i) hv t, sa, s2, dj, hl => by
    obtain ⟨F1, U', s', sp, mem, ho⟩ := sa.pop
    unfold putBack
    by_cases hf : d.frz = true
    · rw [if_pos hf]
      obtain ⟨U3, s3, m3⟩ := put_back (ds := ds) t s' s2 (fun a x => dj a ((mem a).mpr (.inr x))) (by simpa using hl)
      refine ⟨U3, s3, fun a x => ?_⟩
      rcases m3 a x with z | z
      · exact .inl ((mem a).mpr (.inr z))
      · exact .inr z
    · rw [if_neg hf]
      have key : ∃ U4, Sta mg B' H' σ (ρ.set i p) U4 ∧ (∀ a ∈ U4, a ∈ F1 ∨ a ∈ U2) := by
        cases p with
        | none => exact ⟨U2, s2.drop, fun _ h => .inr h⟩
        | some d' =>
          obtain ⟨w, ew, ow⟩ := ho d' rfl
          cases ew
          by_cases hi : i < ρ.length
          · obtain ⟨U'', st, sub⟩ := s2.put hi ow ⟨sp.nd, fun a x y => dj a ((mem a).mpr (.inl x)) y, sp.off⟩
            rw [set_self hv] at st
            refine ⟨F1 ++ U'', st, fun a x => ?_⟩
            rcases List.mem_append.mp x with x | x
            · exact .inl x
            · exact .inr (sub a x)
          · rw [List.set_eq_of_length_le (by omega)]
            exact ⟨U2, s2, fun _ h => .inr h⟩
      obtain ⟨U4, s4, m4⟩ := key
      obtain ⟨U3, s3, m3⟩ := put_back (ds := ds) t s' s4 (fun a x y => by
        rcases m4 a y with z | z
        · exact sp.dj a z x
        · exact dj a ((mem a).mpr (.inr x)) z) (by simpa using hl)
      refine ⟨U3, s3, fun a x => ?_⟩
      rcases m3 a x with z | z
      · exact .inl ((mem a).mpr (.inr z))
      · rcases m4 a z with y | y
        · exact .inl ((mem a).mpr (.inl y))
        · exact .inr y
theorem takeAll_len : ∀ {as : List ArgV} {ρ ρ2 : Rho} {ds}, takeAll as ρ = some (ds, ρ2) → ds.length = as.length
  | [], _, _, _, h => by simp [takeAll] at h; simp [h.1]
  | .val d :: as, _, _, _, h => by
    simp only [takeAll] at h
    split at h <;> cases h
    rename_i e
    simp [takeAll_len e]
  | .lend i :: as, _, _, _, h => by
    simp only [takeAll] at h
    split at h
    · split at h
      · split at h <;> cases h
        rename_i e
        simp [takeAll_len e]
      · split at h <;> cases h
        rename_i e
        simp [takeAll_len e]
    · cases h
end

section
variable {X : Cx} {W : WX} {alt sep a1 a2 s1 : Bool} {e : Expr} {es : List Expr} {m : M D} {ms : M (List ArgV)} {pos : Pos} {mg : Ev}
theorem a_nil : PDA X W false [] aNil := PA.weak pa_nil fun σ H Q ⟨B, ρ, U, st, k⟩ =>
  k [] B H U [] ⟨st, .nil, fun _ => ⟨Sep.nil, fun _ h => absurd h (by simp)⟩, Step.refl st.sub, fun _ => ⟨rfl, rfl, Step.refl st.sub⟩⟩
theorem a_val (h : PD X W a1 true e m) (t : PDA X W a2 es ms) (hs : starEach (e :: es) X.env = (false, eval e X.env) :: starEach es X.env := by rfl) : PDA X W (a1 || a2) (e :: es) (aVal m ms) :=
  PA.weak (pa_cons h t hs) fun σ H Q ⟨B, ρ, U, st, k⟩ => by
    refine ⟨B, ρ, U, st, ?_⟩
    dsimp only [aVal, mBind] at k
    cases hm : m ρ with
    | ok d ρ1 =>
      rw [hm] at k
      intro v B1 H1 U1 F1 p
      refine ⟨B1, ρ1, U1, p.st, ?_⟩
      dsimp only [Res.bind, mBind] at k
      cases hm2 : ms ρ1 with
      | ok d2 ρ2 =>
        rw [hm2] at k
        intro v2 B2 H2 U2 F2 q
        refine k _ B2 H2 U2 _ ((p.comb q (.inr rfl)).rel fun ⟨G1, G2, e, o1, o2⟩ => ?_)
        rw [e]
        exact .val o1 o2
      | exc x ρ2 => rw [hm2] at k; exact k.back p.step
      | stuck => rw [hm2] at k; exact k
    | exc x ρ1 => rw [hm] at k; exact k
    | stuck => rw [hm] at k; exact k
theorem a_lend (i : Nat) {x : Str} (t : PDA X W a2 es ms) (hN : X.N[i]? = some x := by rfl) (hv : Vis X.env.scope x := by first | exact Or.inl rfl | exact Or.inr (Or.inl rfl) | exact Or.inr (Or.inr rfl)) (hd : (x == ("__debug__" : Str)) = false := by decide)
    (hcd : (x == ("__classdict__" : Str)) = false := by decide) (hs : starEach (.Name x pos :: es) X.env = (false, eval (.Name x pos) X.env) :: starEach es X.env := by rfl) : PDA X W a2 (.Name x pos :: es) (aLend i ms) :=
  PA.weak (pa_cons (pe_var (i := i) hN hv hd hcd) t hs) fun σ H Q ⟨B, ρ, U, st, k⟩ => by
    dsimp only [aLend] at k
    cases hr : ρ[i]? with
    | none => rw [hr] at k; exact k.elim
    | some o =>
      cases o with
      | none => rw [hr] at k; exact k.elim
      | some d =>
        rw [hr] at k
        obtain ⟨_, Fs, _, _, kk⟩ := st.sl
        obtain ⟨v, F, e1, e2, o⟩ := kk i d hr
        refine ⟨v, e1, B, ρ, U, st, ?_⟩
        dsimp only [mBind] at k
        cases hm : ms ρ with
        | ok as ρ1 =>
          rw [hm] at k
          exact fun vs B1 H1 U1 F1 p => k _ B1 H1 U1 F1 (p.rel fun h => .lend e1 h)
        | exc x ρ1 => rw [hm] at k; exact k
        | stuck => rw [hm] at k; exact k
/-- f(..) -/
theorem call_core {f : List D → Fo} {np : Nat} {t : TE} (ht : ∀ σ H Q, (tCallS (spD X.ev np f) (WE W) (tAr X.ev W true ms)) σ H Q → t σ H Q) (hnp : ∀ ds : List D, ds.length ≠ np → f ds = .stuck) : ∀ σ H Q, tE X.ev W true true (eCall f ms) σ H Q → t σ H Q := fun σ H Q ⟨B, ρ, U, st, k⟩ => by
  refine ht σ H Q ⟨B, ρ, U, st, ?_⟩
  dsimp only [eCall, mBind] at k
  cases hm : ms ρ with
  | ok as ρ1 =>
    rw [hm] at k
    intro vs B1 H1 U1 F p
    dsimp only [Res.bind, mBind] at k
    cases ht : takeAll as ρ1 with
    | none => rw [ht] at k; exact k.elim
    | some q =>
      obtain ⟨ds, ρ2⟩ := q
      rw [ht] at k
      dsimp only at k
      obtain ⟨sp, nw⟩ := p.sep rfl
      obtain ⟨Ua, U2, sa, s2, dj, m1, m2⟩ := take_all p.own p.st sp ht
      have hl := takeAll_len ht
      by_cases hq : ds.length = np
      case neg => rw [hnp ds hq] at k; exact k.elim
      have hv : vs.length = np := by
        have := sa.len; simp at this
        rw [this]; exact hq
      have anew : ∀ a ∈ Ua, a ∈ U ∨ H a = none := fun a x => by
        rcases m1 a x with z | z
        · exact p.step.new a z
        · exact nw a z
      -- the callee's step, seen from the entry
      have big : ∀ {B' H' : Hp} {U'a U3 : List Addr}, Step B1 H1 Ua B' H' U'a → (∀ a ∈ U3, a ∈ U'a ∨ a ∈ U2) → Step B H U B' H' U3 := fun {B' H' U'a U3} sc m3 => by
        have s1 : Step B H U B1 H1 (Ua ++ U2) := p.step.weak (fun _ h => h) fun a x => by
          rcases List.mem_append.mp x with x | x
          · rcases anew a x with z | z
            · exact .inr (.inl z)
            · exact .inr (.inr z)
          · exact .inl (m2 a x)
        have s3 : Step B1 H1 (Ua ++ U2) B' H' U3 := sc.weak (fun a x => by simp [x]) fun a x => by
          rcases m3 a x with z | z
          · exact .inl z
          · exact .inr (.inl (by simp [z]))
        exact s1.trans s3
      have s2' : ∀ {B' H' : Hp} {U'a : List Addr}, Step B1 H1 Ua B' H' U'a → Sta X.ev B' H' σ ρ2 U2 := fun sc => s2.step sc fun a x y => dj a y x
      have dj' : ∀ {B' H' : Hp} {U'a : List Addr}, Step B1 H1 Ua B' H' U'a → ∀ a ∈ U'a, a ∉ U2 := fun sc a x y => by
        rcases sc.new a x with z | z
        · exact dj a z y
        · exact s2.ex a y z
      refine ⟨hv, B1, ds, Ua, sa, ?_⟩
      cases hf : f ds with
      | ok d ps =>
        rw [hf] at k
        intro v B' H' U'a Fv sv ov spv nwv sc
        obtain ⟨U3, s3, m3⟩ := put_back p.own sv (s2' sc) (dj' sc) hl
        have st3 := big sc m3
        refine k v B' H' U3 Fv ⟨s3, ov, fun _ => ⟨⟨spv.nd, fun a x y => ?_, spv.off⟩, fun a x => ?_⟩, st3, fun h => by cases h⟩
        · rcases m3 a y with z | z
          · exact spv.dj a x z
          · rcases nwv a x with w | w
            · exact dj a w z
            · exact s2.ex a z w
        · rcases nwv a x with w | w
          · exact anew a w
          · by_cases y : H a = none
            · exact .inr y
            · by_cases w' : a ∈ U
              · exact .inl w'
              · rw [p.step.keep a y w'] at w; exact absurd w y
      | exc e ps =>
        rw [hf] at k
        intro B' H' U'a cls dx sv sc er
        obtain ⟨U3, s3, m3⟩ := put_back p.own sv (s2' sc) (dj' sc) hl
        exact k B' H' U3 cls dx s3 (big sc m3) er
      | stuck => rw [hf] at k; exact k.elim
  | exc x ρ1 => rw [hm] at k; exact k
  | stuck => rw [hm] at k; exact k
theorem runF_len {kp : List Nat} {np nl : Nat} {m : MS} (ds : List D) (h : ds.length ≠ np) : runF kp np nl m ds = .stuck := if_neg h
/-- f(e, ..), f a def of the text -/
theorem d_call {k np : Nat} {f : Addr} {fd : FuncData} {ps : List Str} {x : Str} {p : Pos} {g : List D → Fo} {a : Bool} (F : FnOk X.prog X.w X.K X.mg X.base (L2.CX X.prog X.w) k f fd ps (spD ⟨X.mg, X.K, none⟩ np g)) (hnp : ∀ ds : List D, ds.length ≠ np → g ds = .stuck) (hr : Room k X.A) (hm : X.mg x = some (.ref f))
    (hk : PySem.W.keepIn X.K (.ref f) = true) (hb : Binds X.K fd ps []) (tk : Takes X W) (ha : PDA X W a (e :: es) ms) (hg : Gl X x := by rfl) (hdb : (x == ("__debug__" : Str)) = false := by decide)
    (he : starEach (e :: es) X.env = (false, eval e X.env) :: starEach es X.env := by rfl) (hpl : (backTo pos (starEach es X.env)).any (·.1) = false := by rfl) : PD X W true true (.Call (.Name x p) (e :: es) [] pos) (eCall g ms) :=
  PE.weak (pe_callS (by rw [ev_eq hr.hd]; exact F : FnOk X.prog X.w X.K X.mg X.base (L2.CX X.prog X.w) k f fd ps (spD X.ev np g)) hr hg hm hk hb (fun σ => passAt tk σ) ha hdb he hpl) (call_core (fun _ _ _ ⟨B, ρ, U, st, k⟩ => ⟨B, ρ, U, st, by
    cases hm : ms ρ with
    | ok as ρ' => rw [hm] at k; exact fun vs B' H' U' F q => k vs B' H' U' F (q.weak (fun h => by cases h) fun h => h)
    | exc e ρ' => rw [hm] at k; exact k
    | stuck => rw [hm] at k; exact k⟩) hnp)
end
end Eng
/-! Eng11: targets, what is walked, for. -/
namespace Eng
open PySem PySem.Spec PyProof.Rows L2

/-! ### targets -/
def tG (mg : Ev) (kp : List Nat) (f : D → Rho → Option Rho) : TG := fun v σ H Q => ∃ B ρ U d F, Sta mg B H σ ρ U ∧ Own mg B H v d F ∧ Sep B F U ∧ match f d ρ with
  | some ρ' => ∀ σ' U', Sta mg B H σ' ρ' U' → (∀ a ∈ U', a ∈ U ∨ a ∈ F) → (∀ i ∈ kp, σ'[i]? = σ[i]?) → σ'.length = σ.length → Q σ' H
  | none => False
def tGs (mg : Ev) (kp : List Nat) (f : List D → Rho → Option Rho) : List V → L2.St → Hp → (L2.St → Hp → Prop) → Prop := fun vs σ H Q => ∃ B ρ U ds F, Sta mg B H σ ρ U ∧ Owns mg B H vs ds F ∧ Sep B F U ∧ match f ds ρ with
  | some ρ' => ∀ σ' U', Sta mg B H σ' ρ' U' → (∀ a ∈ U', a ∈ U ∨ a ∈ F) → (∀ i ∈ kp, σ'[i]? = σ[i]?) → σ'.length = σ.length → Q σ' H
  | none => False
def PDG (X : Cx) (kp : List Nat) (tg : Expr) (f : D → Rho → Option Rho) : Prop := PG X tg (tG X.ev kp f)
def PDGs (X : Cx) (kp : List Nat) (tgs : List Expr) (f : List D → Rho → Option Rho) : Prop := PGs X tgs (tGs X.ev kp f)
def gN (i : Nat) : D → Rho → Option Rho := fun d ρ => some (ρ.set i (some d))
def gNl : List D → Rho → Option Rho := fun ds ρ => match ds with
  | [] => some ρ
  | _ => none
def gCs (f : D → Rho → Option Rho) (fs : List D → Rho → Option Rho) : List D → Rho → Option Rho := fun ds ρ => match ds with
  | d :: ds => match f d ρ with
    | some ρ1 => fs ds ρ1
    | none => none
  | [] => none
def gT (fs : List D → Rho → Option Rho) : D → Rho → Option Rho := fun d ρ => match d with
  | .tup ds => fs ds ρ
  | _ => none
theorem PG.weak {X : Cx} {e : Expr} {t t' : TG} (h : PG X e t) (w : ∀ v σ H Q, t' v σ H Q → t v σ H Q) : PG X e t' := ⟨fun pins s σ H v u Q I r q => h.run pins s σ H v u Q I r (w _ _ _ _ q)⟩
theorem PGs.weak {X : Cx} {e : List Expr} {t t' : TGs} (h : PGs X e t) (w : ∀ v σ H Q, t' v σ H Q → t v σ H Q) : PGs X e t' := ⟨fun pins s σ H v u Q I r q => h.run pins s σ H v u Q I r (w _ _ _ _ q)⟩
section
variable {X : Cx} {W : WX} {kp : List Nat} {pos : Pos} {tg : Expr} {tgs : List Expr} {f : D → Rho → Option Rho} {fs : List D → Rho → Option Rho} {mg : Ev} {B H : Hp} {σ : L2.St} {ρ : Rho} {U F : List Addr} {v : V} {d : D}
theorem Sta.set {i : Nat} (s : Sta mg B H σ ρ U) (o : Own mg B H v d F) (k : Sep B F U) : ∃ U', Sta mg B H (σ.set i (some v)) (ρ.set i (some d)) U' ∧ (∀ a ∈ U', a ∈ U ∨ a ∈ F) := by
  by_cases hi : i < ρ.length
  · obtain ⟨U', st, sub⟩ := s.put hi o k
    exact ⟨F ++ U', st, fun a h => (List.mem_append.mp h).elim .inr fun h => .inl (sub a h)⟩
  · rw [List.set_eq_of_length_le (by rw [s.len]; omega), List.set_eq_of_length_le (by omega)]
    exact ⟨U, s, fun a h => .inl h⟩
theorem g_name {i : Nat} {x : Str} (hN : X.N.Nodup) (hi : X.N[i]? = some x := by rfl) (hx : Loc X.env.scope x := by first | exact .inl rfl | exact .inr rfl) (hk : i ∉ kp := by decide) (hf : X.fn x = true ∨ X.env.scope.names.lookup x = some .local := by first | exact .inl rfl | exact .inr rfl | assumption) : PDG X kp (.Name x pos) (gN i) :=
  PG.weak (pg_name hN hi hx hf) fun v σ H Q ⟨B, ρ, U, d, F, st, o, k, q⟩ => by
    obtain ⟨U', s', sub⟩ := st.set (i := i) o k
    exact q _ U' s' sub (fun j hj => List.getElem?_set_ne fun e => hk (by rw [e]; exact hj)) (List.length_set ..)
theorem g_nil : PDGs X kp [] gNl := PGs.weak pgs_nil fun v σ H Q ⟨B, ρ, U, ds, F, st, o, k, q⟩ => by
  cases o with
  | nil => exact ⟨rfl, q σ U st (fun _ h => .inl h) (fun _ _ => rfl) rfl⟩
  | cons _ _ => exact q.elim
theorem g_cons (h : PDG X kp tg f) (t : PDGs X kp tgs fs) (hs : (assignEach (tg :: tgs) X.env).map (·.2) = assign tg X.env :: (assignEach tgs X.env).map (·.2) := by rfl) : PDGs X kp (tg :: tgs) (gCs f fs) := PGs.weak (pgs_cons h t hs) fun vs σ H Q ⟨B, ρ, U, ds, F, st, o, k, q⟩ => by
  cases o with
  | nil => exact q.elim
  | @cons w d F1 ws ds G o1 o2 =>
    refine ⟨w, ws, rfl, B, ρ, U, d, F1, st, o1, ?_, ?_⟩
    · have nd := List.nodup_append.mp k.nd
      exact ⟨nd.1, fun a x => k.dj a (by simp [x]), fun a x => k.off a (by simp [x])⟩
    · unfold gCs at q
      cases hf : f d ρ with
      | none => simp only [hf] at q
      | some ρ1 =>
        simp only [hf] at q
        intro σ1 U1 s1 sub1 kp1 len1
        have nd := List.nodup_append.mp k.nd
        refine ⟨B, ρ1, U1, ds, G, s1, o2, ⟨nd.2.1, fun a x y => ?_, fun a x => k.off a (by simp [x])⟩, ?_⟩
        · rcases sub1 a y with z | z
          · exact k.dj a (by simp [x]) z
          · exact nd.2.2 a z a x rfl
        · cases hf2 : fs ds ρ1 with
          | none => simp only [hf2] at q
          | some ρ2 =>
            simp only [hf2] at q
            intro σ2 U2 s2 sub2 kp2 len2
            refine q σ2 U2 s2 (fun a x => ?_) (fun i hi => (kp2 i hi).trans (kp1 i hi)) (len2.trans len1)
            rcases sub2 a x with z | z
            · rcases sub1 a z with y | y
              · exact .inl y
              · exact .inr (by simp [y])
            · exact .inr (by simp [z])
theorem g_tup {tk n : Nat} (hp : PG X (.Tuple tgs tk pos) (gTup X.K n (tGs X.ev kp fs))) (hfl : ∀ ds ρ ρ', fs ds ρ = some ρ' → ds.length = n) : PDG X kp (.Tuple tgs tk pos) (gT fs) :=
  PG.weak hp fun v σ H Q ⟨B, ρ, U, d, F, st, o, k, q⟩ => by
    unfold gT at q
    cases d with
    | tup ds =>
      obtain ⟨a, vs, rfl, h1, t1⟩ := tup_sqt (K := X.K) st.sub o
      cases hf : fs ds ρ with
      | none => simp only [hf] at q
      | some ρ' => exact ⟨a, vs, rfl, h1, by rw [t1.len]; exact hfl _ _ _ hf, B, ρ, U, ds, F, st, t1, k, q⟩
    | _ => exact q.elim
theorem gNl_len : ∀ ds ρ ρ', gNl ds ρ = some ρ' → ds.length = 0 := fun ds ρ ρ' h => by
  cases ds with
  | nil => rfl
  | cons _ _ => simp [gNl] at h
theorem gCs_len {n : Nat} (h : ∀ ds ρ ρ', fs ds ρ = some ρ' → ds.length = n) : ∀ ds ρ ρ', gCs f fs ds ρ = some ρ' → ds.length = n + 1 := fun ds ρ ρ' e => by
  cases ds with
  | nil => simp [gCs] at e
  | cons d ds =>
    simp only [gCs] at e
    split at e
    · simp [h _ _ _ e]
    · cases e
end

/-! ### what is walked -/
structure ItR (mg : Ev) (B : Hp) (J : It) (items : List D) : Prop where
  go : ∀ (i : Nat) H, (∀ a o, B a = some o → H a = some o) → i < items.length → J.go i H
  stop : ∀ H, (∀ a o, B a = some o → H a = some o) → J.stop items.length H
  yld : ∀ (i : Nat) H x H' d B1, (∀ a o, B a = some o → B1 a = some o) → (∀ a o, B1 a = some o → H a = some o) → items[i]? = some d → J.yld i H x H' → ∃ B2, Own mg B2 H' x d [] ∧ Step B1 H [] B2 H' []
def itD : D → Option (List D)
  | .lst _ xs => some (freezes xs)
  | .tup xs => some (freezes xs)
  | .str s => some (s.map fun c => .str [c])
  | _ => none
def tI (mg : Ev) (W : WX) (m : M (List D)) : TI := fun σ H R => ∃ B ρ U, Sta mg B H σ ρ U ∧ match m ρ with
  | .ok items ρ' => ∀ J B' H' U', PostS mg [] B H σ U σ ρ' B' H' U' → ItR mg B' J items → R J H'
  | .exc e ρ' => excW mg W B H σ U e ρ'
  | .stuck => False
def PDI (X : Cx) (W : WX) (tg iter : Expr) (m : M (List D)) : Prop := PI X tg iter (tI X.ev W m)
def iVal (m : M D) : M (List D) := mBind m fun d => mOpt (itD d)
def iRg1 (m : M D) : M (List D) := mBind m fun d => mOpt (match d with
  | .int j => if -(2 ^ 62) ≤ j ∧ j < 2 ^ 62 then some ((List.range j.toNat).map fun (i : Nat) => .int (i : Int)) else none
  | _ => none)
def iRg2 (m n : M D) : M (List D) := mBind m fun d => mBind n fun e => mOpt (match d, e with
  | .int i, .int j => if -(2 ^ 62) ≤ i ∧ i < 2 ^ 62 ∧ -(2 ^ 62) ≤ j ∧ j < 2 ^ 62 then some ((List.range (j - i).toNat).map fun (k : Nat) => .int (i + (k : Int))) else none
  | _, _ => none)
theorem PI.weak {X : Cx} {tg e : Expr} {t t' : TI} (h : PI X tg e t) (w : ∀ σ H R, t' σ H R → t σ H R) : PI X tg e t' := ⟨fun pins s σ H R I q => h.run pins s σ H R I (w _ _ _ q)⟩
section
variable {X : Cx} {W : WX} {kp : List Nat} {alt sep a1 a2 s1 s2 : Bool} {pos pos' : Pos} {tg e ea eb : Expr} {m ma mb : M D} {mg : Ev} {B H : Hp}
theorem Owns.freezeB {vs : List V} {ds : List D} {F : List Addr} (o : Owns mg B H vs ds F) (hB : ∀ a, a ∈ F → B a = H a) : Owns mg B H vs (freezes ds) [] := o.freeze (fun _ _ h => h) hB
theorem itr_list {K : PySem.W.Frag} {a : Addr} {vs : List V} {ds : List D} (h : B a = some (.lst vs)) (o : ∀ H, Owns mg B H vs ds []) : ItR mg B (Itl K a) ds where
  go := fun i H hb hi => by
    have hi' : i < vs.length := by rw [(o H).len]; exact hi
    exact ⟨vs, vs[i], .inl (.inl (hb _ _ h)), List.getElem?_eq_getElem hi'⟩
  stop := fun H hb => ⟨vs, .inl (.inl (hb _ _ h)), by rw [(o H).len]; exact Nat.le_refl _⟩
  yld := fun i H x H' d B1 hb hb1 hd ⟨e, hx⟩ => by
    subst e
    have e2 := hx vs (.inl (.inl (hb1 _ _ (hb _ _ h))))
    obtain ⟨w, F1, F', F2, e3, o3, e4⟩ := (o H').get i hd
    rw [e2] at e3; cases e3
    obtain ⟨_, e5⟩ := List.append_eq_nil_iff.mp e4.symm
    obtain ⟨rfl, _⟩ := List.append_eq_nil_iff.mp e5
    exact ⟨B1, o3.mono hb fun _ z => absurd z (by simp), Step.refl hb1⟩
theorem itr_tup {K : PySem.W.Frag} {a : Addr} {vs : List V} {ds : List D} (h : B a = some (.tup vs)) (o : ∀ H, Owns mg B H vs ds []) : ItR mg B (Itt K a) ds where
  go := fun i H hb hi => by
    have hi' : i < vs.length := by rw [(o H).len]; exact hi
    exact ⟨vs, vs[i], .inl (.inl (hb _ _ h)), List.getElem?_eq_getElem hi'⟩
  stop := fun H hb => ⟨vs, .inl (.inl (hb _ _ h)), by rw [(o H).len]; exact Nat.le_refl _⟩
  yld := fun i H x H' d B1 hb hb1 hd ⟨e, hx⟩ => by
    subst e
    have e2 := hx vs (.inl (.inl (hb1 _ _ (hb _ _ h))))
    obtain ⟨w, F1, F', F2, e3, o3, e4⟩ := (o H').get i hd
    rw [e2] at e3; cases e3
    obtain ⟨_, e5⟩ := List.append_eq_nil_iff.mp e4.symm
    obtain ⟨rfl, _⟩ := List.append_eq_nil_iff.mp e5
    exact ⟨B1, o3.mono hb fun _ z => absurd z (by simp), Step.refl hb1⟩
theorem itr_str {s : List Nat} : ItR mg B (Its (S s)) (s.map fun c => .str [c]) where
  go := fun i H _ hi => by
    show i < (S s).cps.size
    simp [S] at hi ⊢; exact hi
  stop := fun H _ => by
    show (S s).cps.size ≤ _
    simp [S]
  yld := fun i H x H' d B1 hb hb1 hd ⟨e, c, hc, ex⟩ => by
    subst e ex
    have : s[i]? = some c := by
      have := hc
      simp [S] at this; exact this
    rw [List.getElem?_map, this] at hd
    cases hd
    exact ⟨B1, .atom rfl, Step.refl hb1⟩
theorem itr_rng {lo : Int} {n : Nat} : ItR mg B (Itr lo n) ((List.range n).map fun (k : Nat) => .int (lo + (k : Int))) where
  go := fun i H _ hi => by
    have : i < n := by simpa using hi
    exact this
  stop := fun H _ => by show n ≤ _; simp
  yld := fun i H x H' d B1 hb hb1 hd ⟨e, ex⟩ => by
    subst e ex
    rw [List.getElem?_map] at hd
    cases h : (List.range n)[i]? with
    | none => rw [h] at hd; cases hd
    | some k =>
      rw [h] at hd; cases hd
      have := List.getElem?_eq_some_iff.mp h
      obtain ⟨_, e⟩ := this
      simp at e; subst e
      exact ⟨B1, .atom rfl, Step.refl hb1⟩
/-- an iterator over a value: by what it is -/
theorem it_any {pins : List (Addr × Obj)} {σ : L2.St} {s : Shared} {v : V} {u : Value} {R : It → Hp → Prop} (I : Inv X pins σ H s) (r : RelV v u)
    (h : (∃ a xs, v = .ref a ∧ SqL X.K H a xs ∧ R (Itl X.K a) H) ∨ (∃ a xs, v = .ref a ∧ SqT X.K H a xs ∧ R (Itt X.K a) H) ∨ (∃ x, v = .str x ∧ R (Its x) H)) :
    wpAny (model X.prog X.w) X.A (pyIter u) (PIE X pins σ tg R) X.xe s := by
  have fp : ∀ b ∈ [s.heap.objs.size], FpOk X pins H b := fun b hb => by
    obtain rfl : b = s.heap.objs.size := by simpa using hb
    exact I.fpOk (Nat.le_refl _) (I.hok.fresh (Nat.le_refl _))
  rcases h with ⟨a, xs, rfl, hq, q⟩ | ⟨a, xs, rfl, hq, q⟩ | ⟨x, rfl, q⟩
  · obtain rfl := r
    obtain ⟨its, rv, p, hz⟩ := I.list hq
    exact wpAny_pyIter_list p.isList ⟨_, [s.heap.objs.size], _, Itl X.K a, H, rfl, I.kept (t' := s.toks) (fun b o e => Heap.get?_push_of_some _ e), turn_list a _, ⟨_, Heap.get?_push_size _ rfl, rfl, rfl⟩, fp, q⟩
  · obtain rfl := r
    obtain ⟨its, rv, p, hz⟩ := I.tuple hq
    exact wpAny_pyIter_tuple (show s.heap.IsTuple a its.toArray from p) ⟨_, [s.heap.objs.size], _, Itt X.K a, H, rfl, I.kept (t' := s.toks) (fun b o e => Heap.get?_push_of_some _ e), turn_tuple a _, ⟨_, Heap.get?_push_size _ rfl, rfl, rfl⟩, fp, q⟩
  · obtain ⟨t, rfl⟩ := r
    by_cases ha : x.cps.all (· < 128) = true
    · exact wpAny_pyIter_ascii ha (pi_one (tk := s.toks) I _ (turn_str _ x t "str_ascii_iterator" (.inl rfl)) ⟨_, Heap.get?_push_size _ rfl, rfl, rfl⟩ q)
    · exact wpAny_pyIter_wide (by simpa using ha) (pi_one (tk := s.toks) I _ (turn_str _ x t "str_iterator" (.inr rfl)) ⟨_, Heap.get?_push_size _ rfl, rfl, rfl⟩ q)
theorem i_val (h : PD X W alt true e m) : PDI X W tg e (iVal m) := by
  refine ⟨fun pins s σ H R I ⟨B, ρ, U, st, k⟩ => ?_⟩
  refine thn (h.run pins s σ H (fun v H' => (∃ a xs, v = .ref a ∧ SqL X.K H' a xs ∧ R (Itl X.K a) H') ∨ (∃ a xs, v = .ref a ∧ SqT X.K H' a xs ∧ R (Itt X.K a) H') ∨ (∃ x, v = .str x ∧ R (Its x) H')) I ?_) fun u s1 ⟨v, H1, I1, r1, q1⟩ => it_any I1 r1 q1
  refine ⟨B, ρ, U, st, ?_⟩
  dsimp only [iVal, mBind] at k
  cases hm : m ρ with
  | ok d ρ1 =>
    rw [hm] at k
    intro v B1 H1 U1 F p
    dsimp only [Res.bind, mOpt] at k
    obtain ⟨sp, nw⟩ := p.sep rfl
    obtain ⟨B2, t2, o2, _⟩ := freeze_sep p.st.sub p.own sp
    have st2 := p.st.step t2 fun a x y => sp.dj a y x
    have stp : Step B H U B2 H1 U1 := by
      have z : Step B H U B1 H1 (F ++ U1) := p.step.weak (fun _ h => h) fun a x => by
        rcases List.mem_append.mp x with x | x
        · rcases nw a x with z | z
          · exact .inr (.inl z)
          · exact .inr (.inr z)
        · exact .inl x
      exact z.trans (t2.weak (fun a x => by simp [x]) fun a x => .inr (.inl (by simp [x])))
    have ps : PostS X.ev [] B H σ U σ ρ1 B2 H1 U1 := ⟨st2, stp, fun _ h => absurd h (by simp)⟩
    cases d with
    | lst o xs =>
      simp only [itD] at k
      generalize hF0 : ([] : List Addr) = F0 at o2
      cases o2 with
      | atom h => cases v <;> simp [Atom, D.freeze] at h
      | own h _ _ => rw [own_freeze] at h; cases h
      | @fro _ _ vs A _ ho hs ht he =>
        subst hF0
        cases v <;> simp only [D.freeze, Shape] at hs
        rename_i a
        exact .inl ⟨a, vs, rfl, .inl (.inl (t2.sub _ _ hs.1)), k _ B2 H1 U1 ps (itr_list hs.1 fun H => ht.mono (fun _ _ h => h) fun _ h => absurd h (by simp))⟩
    | tup xs =>
      simp only [itD] at k
      generalize hF0 : ([] : List Addr) = F0 at o2
      cases o2 with
      | atom h => cases v <;> simp [Atom, D.freeze] at h
      | own h _ _ => rw [own_freeze] at h; cases h
      | @fro _ _ vs A _ ho hs ht he =>
        subst hF0
        cases v <;> simp only [D.freeze, Shape] at hs
        rename_i a
        exact .inr (.inl ⟨a, vs, rfl, .inl (.inl (t2.sub _ _ hs.1)), k _ B2 H1 U1 ps (itr_tup hs.1 fun H => ht.mono (fun _ _ h => h) fun _ h => absurd h (by simp))⟩)
    | str s =>
      simp only [itD] at k
      obtain ⟨rfl, rfl⟩ := own_str p.own
      exact .inr (.inr ⟨_, rfl, k _ B2 H1 U1 ps itr_str⟩)
    | _ => exact k.elim
  | exc x ρ1 => rw [hm] at k; exact k
  | stuck => rw [hm] at k; exact k
theorem i_rg1 {p : Pos} (h : PD X W alt sep e m) (hm : X.mg "range" = none) (hg : Gl X "range" := by rfl) (hs : starEach [e] X.env = [(false, eval e X.env)] := by rfl) : PDI X W tg (.Call (.Name "range" p) [e] [] pos) (iRg1 m) :=
  PI.weak (pi_range1 hg hm (pa_cons h pa_nil hs) hs) fun σ H R ⟨B, ρ, U, st, k⟩ => by
    refine ⟨B, ρ, U, st, ?_⟩
    dsimp only [iRg1, mBind] at k
    cases hm : m ρ with
    | ok d ρ1 =>
      rw [hm] at k
      intro v B1 H1 U1 F p
      dsimp only [Res.bind, mOpt] at k
      cases d with
      | int j =>
        obtain ⟨rfl, rfl⟩ := own_int p.own
        dsimp only at k
        by_cases hj : -(2 ^ 62) ≤ j ∧ j < 2 ^ 62
        · rw [if_pos hj] at k
          refine ⟨j, rfl, hj.1, hj.2, k _ B1 H1 U1 p.toS ?_⟩
          have := itr_rng (mg := X.ev) (B := B1) (lo := 0) (n := j.toNat)
          simpa using this
        · rw [if_neg hj] at k; exact k.elim
      | _ => exact k.elim
    | exc x ρ1 => rw [hm] at k; exact k
    | stuck => rw [hm] at k; exact k
theorem i_rg2 {p : Pos} (ha : PD X W a1 s1 ea ma) (hb : PD X W a2 s2 eb mb) (hm : X.mg "range" = none) (hg : Gl X "range" := by rfl) (hs : starEach [ea, eb] X.env = [(false, eval ea X.env), (false, eval eb X.env)] := by rfl) (hs2 : starEach [eb] X.env = [(false, eval eb X.env)] := by rfl) : PDI X W tg (.Call (.Name "range" p) [ea, eb] [] pos) (iRg2 ma mb) :=
  PI.weak (pi_range2 hg hm (pa_cons ha (pa_cons hb pa_nil hs2) (by rw [hs, hs2])) hs hs2) fun σ H R ⟨B, ρ, U, st, k⟩ => by
    refine ⟨B, ρ, U, st, ?_⟩
    dsimp only [iRg2, mBind] at k
    cases hm : ma ρ with
    | ok d ρ1 =>
      rw [hm] at k
      intro v B1 H1 U1 F p
      refine ⟨B1, ρ1, U1, p.st, ?_⟩
      dsimp only [Res.bind, mBind] at k
      cases hm2 : mb ρ1 with
      | ok d2 ρ2 =>
        rw [hm2] at k
        intro v2 B2 H2 U2 F2 q
        dsimp only [Res.bind, mBind, mOpt] at k
        cases d with
        | int i =>
          cases d2 with
          | int j =>
            obtain ⟨rfl, rfl⟩ := own_int p.own
            obtain ⟨rfl, rfl⟩ := own_int q.own
            dsimp only at k
            by_cases hj : -(2 ^ 62) ≤ i ∧ i < 2 ^ 62 ∧ -(2 ^ 62) ≤ j ∧ j < 2 ^ 62
            · rw [if_pos hj] at k
              exact ⟨i, j, rfl, hj, k _ B2 H2 U2 (p.toS.trans q.toS) itr_rng⟩
            · rw [if_neg hj] at k; exact k.elim
          | _ => exact k.elim
        | _ => exact k.elim
      | exc x ρ2 => rw [hm2] at k; exact k.back p.step
      | stuck => rw [hm2] at k; exact k
    | exc x ρ1 => rw [hm] at k; exact k
    | stuck => rw [hm] at k; exact k
end

/-! ### for -/
def forL (g : D → Rho → Option Rho) (body : MS) : List D → Rho → Out
  | [], ρ => .nx ρ
  | x :: xs, ρ => match g x ρ with
    | some ρ1 => match body ρ1 with
      | .nx ρ2 => forL g body xs ρ2
      | .ct ρ2 => forL g body xs ρ2
      | .bk ρ2 => .nx ρ2
      | o => o
    | none => .stuck
def sFor (g : D → Rho → Option Rho) (mi : M (List D)) (body : MS) : MS := fun ρ => ofRes (mi ρ) fun items ρ1 => forL g body items ρ1
section
variable {X : Cx} {W : WX} {kp : List Nat} {pos : Pos} {tg iter : Expr} {g : D → Rho → Option Rho} {mi : M (List D)} {body : List Stmt} {mb : MS}
theorem Step.nil_ground {B H B' H' : Hp} (s : Step B H [] B' H' []) (hx : ∀ a o, B a = some o → H a = some o) : ∀ a o, B a = some o → H' a = some o := fun a o h => s.sub a o (s.bs a o h)
theorem s_for (hp : PassesOwn (model X.prog X.w) X.A X.env X.xe) (hc : X.calm = true) (hi : PDI X W tg iter mi) (hg : PDG X kp tg g) (hb : PDSs X W kp body mb) (hs : ∀ x, foldedSetIterable iter X.env x = pure x := by intro _; rfl) : PDS X W kp (.For tg iter body [] pos) (sFor g mi mb) :=
  PS.weak (ps_for hp hc hi hg hb hs) fun D σ H ⟨B, ρ, U, st, k⟩ => by
    refine ⟨B, ρ, U, st, ?_⟩
    dsimp only [sFor] at k
    cases hm : mi ρ with
    | ok items ρ1 =>
      rw [hm] at k
      intro J B1 H1 U1 p it
      dsimp only [ofRes] at k
      have p' : PostS X.ev kp B H σ U σ ρ1 B1 H1 U1 := ⟨p.st, p.step, fun _ _ => rfl⟩
      -- the wish of an outcome
      let Wish : Out → L2.St → Hp → Hp → List Addr → Prop := fun o σ1 B1 H1 U1 => match o with
        | .nx ρ' => ∀ σ' B' H' U', PostS X.ev kp B1 H1 σ1 U1 σ' ρ' B' H' U' → D.nx σ' H'
        | .bk ρ' => ∀ σ' B' H' U', PostS X.ev kp B1 H1 σ1 U1 σ' ρ' B' H' U' → D.bk σ' H'
        | .ct ρ' => ∀ σ' B' H' U', PostS X.ev kp B1 H1 σ1 U1 σ' ρ' B' H' U' → D.ct σ' H'
        | .rt d ρ' => ∀ v σ' B' H' U' F, PostR X.ev kp B1 H1 σ1 U1 v d σ' ρ' B' H' U' F → D.rt v H'
        | .exc e ρ' => excS X.ev W kp B1 H1 σ1 U1 e ρ'
        | .stuck => False
      have back : ∀ {o : Out} {σa σb : L2.St} {Ba Ha Bb Hb : Hp} {Ua Ub : List Addr} {ρb : Rho}, Wish o σa Ba Ha Ua → PostS X.ev kp Ba Ha σa Ua σb ρb Bb Hb Ub → Wish o σb Bb Hb Ub := fun {o σa σb Ba Ha Bb Hb Ua Ub ρb} w q => by
        cases o with
        | nx ρ' => exact fun σ' B' H' U' z => w σ' B' H' U' (q.trans z)
        | bk ρ' => exact fun σ' B' H' U' z => w σ' B' H' U' (q.trans z)
        | ct ρ' => exact fun σ' B' H' U' z => w σ' B' H' U' (q.trans z)
        | rt d ρ' => exact fun v σ' B' H' U' F z => w v σ' B' H' U' F (q.transR z)
        | exc e ρ' => exact excS.back w q
        | stuck => exact w
      have k1 : Wish (forL g mb items ρ1) σ B1 H1 U1 := by
        have k0 : Wish (forL g mb items ρ1) σ B H U := k
        exact back k0 p'
      refine ⟨fun i n σ2 H2 => ∃ B2 ρ2 U2, n = items.length - i ∧ i ≤ items.length ∧ Sta X.ev B2 H2 σ2 ρ2 U2 ∧ (∀ a o, B1 a = some o → B2 a = some o) ∧ Wish (forL g mb (items.drop i) ρ2) σ2 B2 H2 U2, ⟨_, B1, ρ1, U1, rfl, Nat.zero_le _, p.st, fun _ _ h => h, k1⟩, fun i n σ2 H2 ⟨B2, ρ2, U2, en, hile, s2, hb12, w2⟩ => ?_⟩
      have ground : ∀ a o, B1 a = some o → H2 a = some o := fun a o h => s2.sub a o (hb12 a o h)
      by_cases hil : i < items.length
      · refine .inr ⟨it.go i H2 ground hil, fun σ3 H3 => ∃ B3 ρ3 U3, Sta X.ev B3 H3 σ3 ρ3 U3 ∧ (∀ a o, B1 a = some o → B3 a = some o) ∧ Wish (forL g mb (items.drop (i + 1)) ρ3) σ3 B3 H3 U3, fun σ3 H3 ⟨B3, ρ3, U3, s3, hb3, w3⟩ => ⟨_, ?_, B3, ρ3, U3, rfl, by omega, s3, hb3, w3⟩, fun x H3 hy => ?_⟩
        · rw [en]; omega
        · obtain ⟨B3, ox, stp⟩ := it.yld i H2 x H3 items[i] B2 hb12 s2.sub (List.getElem?_eq_getElem hil) hy
          have s3 := s2.stepN stp
          rw [List.drop_eq_getElem_cons hil] at w2
          unfold forL at w2
          refine ⟨B3, ρ2, U2, items[i], [], s3, ox, Sep.nil, ?_⟩
          have p3 : PostS X.ev kp B2 H2 σ2 U2 σ2 ρ2 B3 H3 U2 := ⟨s3, stp.none_of, fun _ _ => rfl⟩
          cases hgx : g items[i] ρ2 with
          | none => simp only [hgx] at w2; exact w2.elim
          | some ρ3 =>
            simp only [hgx] at w2
            intro σ4 U4 s4 sub4 kp4 _
            have p4 : PostS X.ev kp B2 H2 σ2 U2 σ4 ρ3 B3 H3 U4 := p3.trans ⟨s4, (Step.refl (U := U2) s3.sub).weak (fun _ h => h) (fun a h => by
              rcases sub4 a h with z | z
              · exact .inl z
              · simp at z), kp4⟩
            have hb3 : ∀ a o, B1 a = some o → B3 a = some o := fun a o h => stp.bs a o (hb12 a o h)
            refine ⟨B3, ρ3, U4, s4, ?_⟩
            cases hbd : mb ρ3 with
            | nx ρ5 =>
              simp only [hbd] at w2
              exact fun σ5 B5 H5 U5 p5 => ⟨B5, ρ5, U5, p5.st, fun a o h => p5.step.bs a o (hb3 a o h), back w2 (p4.trans p5)⟩
            | ct ρ5 =>
              simp only [hbd] at w2
              exact fun σ5 B5 H5 U5 p5 => ⟨B5, ρ5, U5, p5.st, fun a o h => p5.step.bs a o (hb3 a o h), back w2 (p4.trans p5)⟩
            | bk ρ5 =>
              simp only [hbd] at w2
              exact fun σ5 B5 H5 U5 p5 => w2 σ5 B5 H5 U5 (p4.trans p5)
            | rt d ρ5 =>
              simp only [hbd] at w2
              exact fun v σ5 B5 H5 U5 F p5 => w2 v σ5 B5 H5 U5 F (p4.transR p5)
            | exc x ρ5 =>
              simp only [hbd] at w2
              exact excS.back w2 p4
            | stuck => simp only [hbd] at w2; exact w2.elim
      · obtain rfl : i = items.length := by omega
        rw [List.drop_length] at w2
        exact .inl ⟨it.stop H2 ground, w2 σ2 B2 H2 U2 (PostS.refl s2)⟩
    | exc x ρ1 => rw [hm] at k; exact excS.toW k
    | stuck => rw [hm] at k; exact k
end
end Eng
/-! Eng12: while, comprehensions, raise, try. -/
namespace Eng
open PySem PySem.Spec PyProof.Rows L2

/-! ### while -/
/-- so many turns at most -/
def whileN (c : M Bool) (body : MS) : Nat → Rho → Out
  | 0, _ => .stuck
  | n + 1, ρ => match c ρ with
    | .ok true ρ1 => (match body ρ1 with
      | .nx ρ2 => whileN c body n ρ2
      | .ct ρ2 => whileN c body n ρ2
      | .bk ρ2 => .nx ρ2
      | o => o)
    | .ok false ρ1 => .nx ρ1
    | .exc e ρ1 => .exc e ρ1
    | .stuck => .stuck
section
variable {X : Cx} {W : WX} {kp : List Nat} {pos : Pos} {tg iter : Expr} {g : D → Rho → Option Rho} {mi : M (List D)} {body : List Stmt} {mb : MS} {c : Expr} {mc : M Bool} {alt : Bool}
/-- the wish of an outcome -/
def Wish (mg : Ev) (W : WX) (kp : List Nat) (D : Ends) (o : Out) (σ1 : L2.St) (B1 H1 : Hp) (U1 : List Addr) : Prop := match o with
  | .nx ρ' => ∀ σ' B' H' U', PostS mg kp B1 H1 σ1 U1 σ' ρ' B' H' U' → D.nx σ' H'
  | .bk ρ' => ∀ σ' B' H' U', PostS mg kp B1 H1 σ1 U1 σ' ρ' B' H' U' → D.bk σ' H'
  | .ct ρ' => ∀ σ' B' H' U', PostS mg kp B1 H1 σ1 U1 σ' ρ' B' H' U' → D.ct σ' H'
  | .rt d ρ' => ∀ v σ' B' H' U' F, PostR mg kp B1 H1 σ1 U1 v d σ' ρ' B' H' U' F → D.rt v H'
  | .exc e ρ' => excS mg W kp B1 H1 σ1 U1 e ρ'
  | .stuck => False
theorem Wish.back {mg : Ev} {W : WX} {kp : List Nat} {D : Ends} {o : Out} {σa σb : L2.St} {Ba Ha Bb Hb : Hp} {Ua Ub : List Addr} {ρb : Rho} (w : Wish mg W kp D o σa Ba Ha Ua) (q : PostS mg kp Ba Ha σa Ua σb ρb Bb Hb Ub) : Wish mg W kp D o σb Bb Hb Ub := by
  cases o with
  | nx ρ' => exact fun σ' B' H' U' z => w σ' B' H' U' (q.trans z)
  | bk ρ' => exact fun σ' B' H' U' z => w σ' B' H' U' (q.trans z)
  | ct ρ' => exact fun σ' B' H' U' z => w σ' B' H' U' (q.trans z)
  | rt d ρ' => exact fun v σ' B' H' U' F z => w v σ' B' H' U' F (q.transR z)
  | exc e ρ' => exact excS.back w q
  | stuck => exact w
theorem s_while (n : Nat) (hp : PassesOwn (model X.prog X.w) X.A X.env X.xe) (hc : PDT X W alt c mc) (hb : PDSs X W kp body mb) : PDS X W kp (.While c body [] pos) (whileN mc mb n) :=
  PS.weak (ps_while hp hc hb) fun D σ H ⟨B, ρ, U, st, k⟩ => by
    have k : Wish X.ev W kp D (whileN mc mb n ρ) σ B H U := k
    refine ⟨fun n σ2 H2 => ∃ B2 ρ2 U2, Sta X.ev B2 H2 σ2 ρ2 U2 ∧ Wish X.ev W kp D (whileN mc mb n ρ2) σ2 B2 H2 U2, ⟨n, B, ρ, U, st, k⟩, fun n σ2 H2 ⟨B2, ρ2, U2, s2, w2⟩ => ?_⟩
    cases n with
    | zero => exact w2.elim
    | succ n =>
      unfold whileN at w2
      refine ⟨B2, ρ2, U2, s2, ?_⟩
      cases hm : mc ρ2 with
      | ok b ρ3 =>
        simp only [hm] at w2
        intro B3 H3 U3 p
        cases b with
        | true =>
          simp only [if_true] at w2 ⊢
          refine ⟨fun σ4 H4 => ∃ B4 ρ4 U4, Sta X.ev B4 H4 σ4 ρ4 U4 ∧ Wish X.ev W kp D (whileN mc mb n ρ4) σ4 B4 H4 U4, fun σ4 H4 h => ⟨n, Nat.lt_succ_self n, h⟩, B3, ρ3, U3, p.st, ?_⟩
          have pS : PostS X.ev kp B2 H2 σ2 U2 σ2 ρ3 B3 H3 U3 := p.toS
          cases hbd : mb ρ3 with
          | nx ρ5 =>
            simp only [hbd] at w2
            exact fun σ5 B5 H5 U5 p5 => ⟨B5, ρ5, U5, p5.st, w2.back (pS.trans p5)⟩
          | ct ρ5 =>
            simp only [hbd] at w2
            exact fun σ5 B5 H5 U5 p5 => ⟨B5, ρ5, U5, p5.st, w2.back (pS.trans p5)⟩
          | bk ρ5 =>
            simp only [hbd] at w2
            exact fun σ5 B5 H5 U5 p5 => w2 σ5 B5 H5 U5 (pS.trans p5)
          | rt d ρ5 =>
            simp only [hbd] at w2
            exact fun v σ5 B5 H5 U5 F p5 => w2 v σ5 B5 H5 U5 F (pS.transR p5)
          | exc x ρ5 =>
            simp only [hbd] at w2
            exact excS.back w2 pS
          | stuck => simp only [hbd] at w2; exact w2.elim
        | false =>
          simp only [Bool.false_eq_true, if_false] at w2 ⊢
          exact w2 σ2 B3 H3 U3 p.toS
      | exc x ρ3 => simp only [hm] at w2; exact excS.toW w2
      | stuck => simp only [hm] at w2; exact w2.elim
end

/-! ### raise -/
def sRaise (c : Str) : MS := fun ρ => .exc ⟨c, []⟩ ρ
section
variable {X : Cx} {W : WX} {kp : List Nat} {pos : Pos} {e : Expr}
/-- raise X(), X without __init__ of its own -/
theorem s_raise {c : Str} {C : Addr} (hm : X.mg c = some (.ref C)) (hr : PS X (.Raise (some e) none pos) (fun _ σ H => W (.ref C) none σ H)) : PDS X W kp (.Raise (some e) none pos) (sRaise c) :=
  PS.weak hr fun D σ H ⟨B, ρ, U, st, k⟩ => k σ B H U (.ref C) none (PostS.refl st) ⟨C, hm, rfl, .inl ⟨rfl, rfl⟩⟩
end

/-! ### list comprehensions -/
def wipeR : Rho → List Nat → Rho
  | ρ, [] => ρ
  | ρ, i :: is => wipeR (ρ.set i none) is
/-- the block's own names hold outside what they held -/
def restR (ρ0 : Rho) : Rho → List Nat → Rho
  | ρ, [] => ρ
  | ρ, i :: is => restR ρ0 (match ρ0[i]? with
    | some (some d) => if d.frz then ρ.set i (some d) else ρ
    | _ => ρ) is
/-- one turn after another; the test; the element -/
def lcL (g : D → Rho → Option Rho) (c : M Bool) (m : M D) (vs : List Nat) : List D → List D → Rho → Res (List D)
  | [], acc, ρ => .ok acc ρ
  | x :: xs, acc, ρ => match g x ρ with
    | some ρ1 => (match c ρ1 with
      | .ok true ρ2 => (match m ρ2 with
        | .ok d ρ3 => if acc.length < 16777216 then lcL g c m vs xs (acc ++ [d]) (wipeR ρ3 vs) else .stuck
        | _ => .stuck)
      | .ok false ρ2 => lcL g c m vs xs acc (wipeR ρ2 vs)
      | _ => .stuck)
    | none => .stuck
def mYes : M Bool := mPure true
def eLc (g : D → Rho → Option Rho) (mi : M (List D)) (c : M Bool) (m : M D) (vs : List Nat) : M D := fun ρ => match mi ρ with
  | .ok items ρ1 => (match lcL g c m vs items [] (wipeR ρ1 vs) with
    | .ok ds ρ2 => .ok (.lst true ds) (restR ρ1 ρ2 vs)
    | .exc e ρ2 => .exc e ρ2
    | .stuck => .stuck)
  | .exc e ρ1 => .exc e ρ1
  | .stuck => .stuck
def W0 : WX := fun _ _ _ _ => False
def PDTs (X : Cx) (W : WX) (ifs : List Expr) (m : M Bool) : Prop := PTs X ifs (tT X.ev W true m)
theorem PTs.weak {X : Cx} {e : List Expr} {t t' : TT} (h : PTs X e t) (w : ∀ σ H Q, t' σ H Q → t σ H Q) : PTs X e t' := ⟨fun pins s σ H Q I q => h.run pins s σ H Q I (w _ _ _ q)⟩
section
variable {X : Cx} {W : WX} {kp : List Nat} {alt : Bool} {pos : Pos} {tg iter elt : Expr} {ifs : List Expr} {g : D → Rho → Option Rho} {mi : M (List D)} {c : Expr} {mc : M Bool} {m : M D}
theorem ts_nil : PDTs X W [] mYes := PTs.weak pts_nil fun σ H Q ⟨B, ρ, U, st, k⟩ =>
  k B H U ⟨st, rfl, fun _ => ⟨Sep.nil, fun _ h => absurd h (by simp)⟩, Step.refl st.sub, fun _ => ⟨rfl, rfl, Step.refl st.sub⟩⟩
theorem ts_one (h : PDT X W alt c mc) : PDTs X W [c] mc := pts_one (h.to (fun h => by cases h))
theorem wipeR_len : ∀ (vs : List Nat) (ρ : Rho), (wipeR ρ vs).length = ρ.length
  | [], _ => rfl
  | v :: vs, ρ => by unfold wipeR; rw [wipeR_len vs]; simp
theorem wipeR_get : ∀ (vs : List Nat) (ρ : Rho) (i : Nat) (d : D), (wipeR ρ vs)[i]? = some (some d) → ρ[i]? = some (some d) ∧ i ∉ vs
  | [], ρ, i, d, h => ⟨h, by simp⟩
  | v :: vs, ρ, i, d, h => by
    unfold wipeR at h
    obtain ⟨a, b⟩ := wipeR_get vs _ i d h
    by_cases e : v = i
    · subst e
      by_cases hl : v < ρ.length
      · rw [List.getElem?_set_self hl] at a; simp at a
      · rw [List.getElem?_eq_none (by simp; omega)] at a; simp at a
    · rw [List.getElem?_set_ne e] at a
      exact ⟨a, by simp [b]; exact fun z => e z.symm⟩
theorem wipe_get {σ : L2.St} {i : Nat} : ∀ {vs : List Nat}, i ∉ vs → (wipe σ vs)[i]? = σ[i]?
  | [], _ => rfl
  | v :: vs, h => by
    simp at h
    unfold wipe
    rw [List.getElem?_set_ne (fun z => h.1 z.symm), wipe_get h.2]
theorem wipe_in {σ : L2.St} {i : Nat} : ∀ {vs : List Nat}, i ∈ vs → i < σ.length → (wipe σ vs)[i]? = some none
  | v :: vs, h, hl => by
    unfold wipe
    by_cases e : v = i
    · subst e
      rw [List.getElem?_set_self (by rw [wipe_length]; exact hl)]
    · rw [List.getElem?_set_ne e]
      rcases List.mem_cons.mp h with z | z
      · exact absurd z.symm e
      · exact wipe_in z hl
theorem wipe_eq {σ σ' : L2.St} {vs : List Nat} (hl : σ'.length = σ.length) (h : ∀ i, i ∉ vs → σ'[i]? = σ[i]?) : wipe σ' vs = wipe σ vs := by
  apply List.ext_getElem?
  intro i
  by_cases hi : i ∈ vs
  · by_cases hj : i < σ.length
    · rw [wipe_in hi hj, wipe_in hi (by omega)]
    · rw [List.getElem?_eq_none (by rw [wipe_length]; omega), List.getElem?_eq_none (by rw [wipe_length]; omega)]
  · rw [wipe_get hi, wipe_get hi, h i hi]
theorem Sta.wiped {mg : Ev} {B H : Hp} {σ : L2.St} {ρ : Rho} {U : List Addr} (vs : List Nat) (s : Sta mg B H σ ρ U) : ∃ U2, Sta mg B H (wipe σ vs) (wipeR ρ vs) U2 ∧ ∀ a ∈ U2, a ∈ U :=
  s.fewer (by rw [wipe_length, wipeR_len]; exact s.len) (by rw [wipeR_len]; exact Nat.le_refl _) fun i d h => by
    obtain ⟨a, b⟩ := wipeR_get vs ρ i d h
    exact ⟨a, wipe_get b⟩
theorem Sta.unwiped {mg : Ev} {B H : Hp} {σ σ0 : L2.St} {ρ : Rho} {U : List Addr} (vs : List Nat) (hl : σ0.length = σ.length) (e : wipe σ vs = wipe σ0 vs) (s : Sta mg B H σ ρ U) : ∃ U2, Sta mg B H (wipe σ0 vs) (wipeR ρ vs) U2 ∧ ∀ a ∈ U2, a ∈ U := by
  rw [← e]; exact s.wiped vs
theorem Sta.toOuter {mg : Ev} {B H : Hp} {σ : L2.St} {ρ : Rho} {U : List Addr} (vs : List Nat) (s : Sta mg B H (wipe σ vs) ρ U) : Sta mg B H σ ρ U := by
  obtain ⟨l, Fs, lf, pu, k⟩ := s.sl
  refine ⟨s.sub, ⟨by rw [← l, wipe_length], Fs, lf, pu, fun i d h => ?_⟩, s.nd, s.off, s.ex⟩
  obtain ⟨v, F, a, b, c⟩ := k i d h
  exact ⟨v, F, (wipe_some a).1, b, c⟩
/-- the names of the block hold what they held, where that is frozen -/
theorem Sta.restored {mg : Ev} {B H B0 H0 : Hp} {σ : L2.St} {ρ0 : Rho} {U0 : List Addr} (s0 : Sta mg B0 H0 σ ρ0 U0) (hB : ∀ a o, B0 a = some o → B a = some o) : ∀ (vs : List Nat) {ρ : Rho} {U : List Addr}, Sta mg B H σ ρ U → ∃ U2, Sta mg B H σ (restR ρ0 ρ vs) U2 ∧ ∀ a ∈ U2, a ∈ U
  | [], ρ, U, s => ⟨U, s, fun _ h => h⟩
  | i :: is, ρ, U, s => by
    unfold restR
    cases h : ρ0[i]? with
    | none => exact s0.restored hB is s
    | some o =>
      cases o with
      | none => exact s0.restored hB is s
      | some d =>
        dsimp only
        by_cases hf : d.frz = true
        · rw [if_pos hf]
          obtain ⟨v, F, U', e, o, _, _, _⟩ := s0.take h
          obtain rfl := o.nil_of hf
          obtain ⟨U2, s2, sub2⟩ := s.set (i := i) (o.mono hB fun _ z => absurd z (by simp)) Sep.nil
          rw [set_self e] at s2
          obtain ⟨U3, s3, sub3⟩ := s0.restored hB is s2
          refine ⟨U3, s3, fun a x => ?_⟩
          rcases sub2 a (sub3 a x) with z | z
          · exact z
          · simp at z
        · rw [if_neg hf]
          exact s0.restored hB is s
end
end Eng
/-! Eng13: list comprehensions. -/
namespace Eng
open PySem PySem.Spec PyProof.Rows L2
section
variable {X : Cx} {W : WX} {kp : List Nat} {alt : Bool} {pos : Pos} {tg iter elt : Expr} {ifs : List Expr} {g : D → Rho → Option Rho} {mi : M (List D)} {c : Expr} {mc : M Bool} {m : M D}
theorem upd_step {B H : Hp} {a : Addr} {o : HO} {U U' : List Addr} (hs : ∀ a o, B a = some o → H a = some o) (hb : B a = none) (ha : a ∈ U) (hn : ∀ x ∈ U', x ∈ U) : Step B H U B (upd H a o) U' where
  sub := fun x u h => by rw [upd_ne (fun z => by rw [z, hb] at h; cases h)]; exact hs x u h
  bs := fun _ _ h => h
  keep := fun x _ n => by rw [upd_ne (fun z => n (by rw [z]; exact ha))]
  new := fun x h => .inl (hn x h)
  bnew := fun _ h => .inl h
theorem upd_new {B H : Hp} {a : Addr} {o : HO} (hs : ∀ a o, B a = some o → H a = some o) (ha : H a = none) : Step B H [] B (upd H a o) [] where
  sub := fun x u h => by rw [upd_ne (ne_of_none (hs x u h) ha)]; exact hs x u h
  bs := fun _ _ h => h
  keep := fun x h _ => by rw [upd_ne (fun z => h (by rw [z]; exact ha))]
  new := fun x h => absurd h (by simp)
  bnew := fun _ h => .inl h
theorem lc_read {vs : List Nat} {N : List Str} {σ : L2.St} {H : Hp} {Q : VK} (hlen : σ.length = N.length) (hkp : ∀ i, i < N.length → i ∉ vs → i ∈ kp) (hq : tE X.ev W true true (eLc g mi mc m vs) σ H Q) :
    tLc (tI X.ev W mi) (tG X.ev kp g) (tT X.ev W0 true mc) (tE X.ev W0 true true m) vs σ H Q := by
  obtain ⟨B, ρ, U, st, k⟩ := hq
  refine ⟨B, ρ, U, st, ?_⟩
  dsimp only [eLc] at k
  cases hm : mi ρ with
  | exc x ρ1 => rw [hm] at k; exact k
  | stuck => rw [hm] at k; exact k
  | ok items ρ1 =>
  rw [hm] at k
  intro J B1 H1 U1 p it Dd hD
  dsimp only at k
  have stD := upd_new (o := .lst []) p.st.sub hD
  obtain ⟨Uw, sw, subw⟩ := (p.st.stepN stD).wiped vs
  have hBD : B1 Dd = none := by
    cases e : B1 Dd with
    | none => rfl
    | some o => rw [p.st.sub _ _ e] at hD; cases hD
  have hDU : Dd ∉ U1 := fun z => p.st.ex Dd z hD
  have key : ∀ (ds : List D) (ρ2 : Rho), (∀ v B' H' U' F, Post X.ev true true B H σ ρ U (restR ρ1 ρ2 vs) (oV X.ev v (.lst true ds)) B' H' U' F → Q v H') → ∀ (B2 H2 : Hp) (U2 Fa : List Addr) (ws : List V), Sta X.ev B2 H2 (wipe σ vs) ρ2 U2 → (∀ a o, B1 a = some o → B2 a = some o) → H2 Dd = some (.lst ws) → Owns X.ev B2 H2 ws ds Fa → Sep B2 (Dd :: Fa) U2 → Step B H U B2 H2 (U2 ++ (Dd :: Fa)) → Q (.ref Dd) H2 := by
    intro ds ρ2 kk B2 H2 U2 Fa ws s2 hb e2 o2 sp2 t2
    obtain ⟨U3, s3, sub3⟩ := p.st.restored hb vs s2.toOuter
    exact kk _ B2 H2 U3 (Dd :: Fa) ⟨s3, .own (A := [Dd]) rfl ⟨e2, rfl⟩ o2, fun _ => ⟨sp2.mono sub3, fun a x => t2.new a (by simp at x ⊢; exact .inr x)⟩, t2.less fun a x => by simp [sub3 a x], fun h => by cases h⟩
  cases hr : lcL g mc m vs items [] (wipeR ρ1 vs) with
  | stuck => rw [hr] at k; exact k.elim
  | exc x ρ2 =>
    -- no exception comes out of the turns
    exfalso
    have : ∀ (xs acc : List D) (ρ : Rho) x ρ2, lcL g mc m vs xs acc ρ ≠ .exc x ρ2 := by
      intro xs
      induction xs with
      | nil => intro acc ρ x ρ2 h; simp [lcL] at h
      | cons y ys ih =>
        intro acc ρ x ρ2 h
        unfold lcL at h
        split at h
        · split at h
          · split at h
            · split at h
              · exact ih _ _ _ _ h
              · cases h
            · cases h
          · exact ih _ _ _ _ h
          · cases h
        · cases h
    exact this _ _ _ _ _ hr
  | ok dsF ρF =>
  rw [hr] at k
  dsimp only at k
  have t0 : Step B H U B1 (upd H1 Dd (.lst [])) (Uw ++ [Dd]) := by
    have z := p.step.trans (stD.none_of (U := U1))
    refine z.weak (fun _ h => h) fun a x => ?_
    rcases List.mem_append.mp x with x | x
    · exact .inl (subw a x)
    · simp at x; subst x
      by_cases w : a ∈ U
      · exact .inr (.inl w)
      · refine .inr (.inr ?_)
        cases e : H a with
        | none => rfl
        | some o => rw [p.step.keep a (by rw [e]; simp) w, e] at hD; cases hD
  refine ⟨fun i n H2 => ∃ B2 ρ2 U2 acc ws Fa, n = items.length - i ∧ i ≤ items.length ∧ Sta X.ev B2 H2 (wipe σ vs) ρ2 U2 ∧ (∀ a o, B1 a = some o → B2 a = some o) ∧ H2 Dd = some (.lst ws) ∧ Owns X.ev B2 H2 ws acc Fa ∧ Sep B2 (Dd :: Fa) U2 ∧ Step B H U B2 H2 (U2 ++ (Dd :: Fa)) ∧ lcL g mc m vs (items.drop i) acc ρ2 = .ok dsF ρF,
    ⟨_, B1, wipeR ρ1 vs, Uw, [], [], [], rfl, Nat.zero_le _, sw, fun _ _ h => h, upd_same, .nil, ⟨by simp, fun a x y => ?_, fun a x => by simp at x; rw [x]; exact hBD⟩, t0, hr⟩, fun i n H2 ⟨B2, ρ2, U2, acc, ws, Fa, en, hile, s2, hb12, e2, o2, sp2, t2, l2⟩ => ?_⟩
  · simp at x; subst x; exact hDU (subw a y)
  have ground : ∀ a o, B1 a = some o → H2 a = some o := fun a o h => s2.sub a o (hb12 a o h)
  by_cases hil : i < items.length
  case neg =>
    obtain rfl : i = items.length := by omega
    rw [List.drop_length] at l2
    simp only [lcL, Res.ok.injEq] at l2
    obtain ⟨rfl, rfl⟩ := l2
    exact .inl ⟨it.stop H2 ground, key _ _ k B2 H2 U2 Fa ws s2 hb12 e2 o2 sp2 t2⟩
  refine .inr ⟨it.go i H2 ground hil, fun H3 => ∃ B3 ρ3 U3 acc ws Fa, Sta X.ev B3 H3 (wipe σ vs) ρ3 U3 ∧ (∀ a o, B1 a = some o → B3 a = some o) ∧ H3 Dd = some (.lst ws) ∧ Owns X.ev B3 H3 ws acc Fa ∧ Sep B3 (Dd :: Fa) U3 ∧ Step B H U B3 H3 (U3 ++ (Dd :: Fa)) ∧ lcL g mc m vs (items.drop (i + 1)) acc ρ3 = .ok dsF ρF,
    fun H3 ⟨B3, ρ3, U3, acc3, ws3, Fa3, h1, h2, h3, h4, h5, h6, h7⟩ => ⟨_, ?_, B3, ρ3, U3, acc3, ws3, Fa3, rfl, by omega, h1, h2, h3, h4, h5, h6, h7⟩, fun x H3 hy => ?_⟩
  · rw [en]; omega
  obtain ⟨B3, ox, stp⟩ := it.yld i H2 x H3 items[i] B2 hb12 s2.sub (List.getElem?_eq_getElem hil) hy
  have s3 := s2.stepN stp
  have thL : ∀ a ∈ Dd :: Fa, H2 a ≠ none := fun a z => by
    rcases List.mem_cons.mp z with rfl | z
    · rw [e2]; simp
    · exact o2.there a z
  have sp3 : Sep B3 (Dd :: Fa) U2 := sp2.step thL (stp.none_of (U := U2))
  have o3 := o2.step stp fun _ _ h => absurd h (by simp)
  have e3 : H3 Dd = some (.lst ws) := by rw [stp.keep Dd (by rw [e2]; simp) (by simp)]; exact e2
  rw [List.drop_eq_getElem_cons hil] at l2
  unfold lcL at l2
  refine ⟨B3, ρ2, U2, items[i], [], s3, ox, Sep.nil, ?_⟩
  cases hgx : g items[i] ρ2 with
  | none => simp only [hgx] at l2; cases l2
  | some ρ3 =>
  simp only [hgx] at l2
  intro σ4 U4 s4 sub4 kp4 len4
  have hw : wipe σ4 vs = wipe σ vs := by
    have a1 : wipe σ4 vs = wipe (wipe σ vs) vs := wipe_eq len4 fun j hj => by
      by_cases hjn : j < N.length
      · exact kp4 j (hkp j hjn hj)
      · rw [List.getElem?_eq_none (by rw [len4, wipe_length, hlen]; omega), List.getElem?_eq_none (by rw [wipe_length, hlen]; omega)]
    rw [a1]
    exact wipe_eq (wipe_length σ vs) fun j hj => wipe_get hj
  have u42 : ∀ a ∈ U4, a ∈ U2 := fun a z => by
    rcases sub4 a z with y | y
    · exact y
    · simp at y
  refine ⟨hw, B3, ρ3, U4, s4, ?_⟩
  have back : ∀ {ρ5 : Rho} {B6 H6 : Hp} {U6 F6 : List Addr} {ws' : List V} {acc' : List D}, Sta X.ev B6 H6 σ4 ρ5 U6 → Step B3 H3 U4 B6 H6 U6 → Sep B6 F6 U6 → (∀ a ∈ F6, a ∈ U4 ∨ H3 a = none) → (∀ a ∈ F6, H6 a ≠ none) → Owns X.ev B6 H6 ws' acc' (Fa ++ F6) → ∀ (H7 : Hp), H7 = upd H6 Dd (.lst ws') → lcL g mc m vs (items.drop (i + 1)) acc' (wipeR ρ5 vs) = .ok dsF ρF →
      ∃ B3 ρ3 U3 acc ws Fa, Sta X.ev B3 H7 (wipe σ vs) ρ3 U3 ∧ (∀ a o, B1 a = some o → B3 a = some o) ∧ H7 Dd = some (.lst ws) ∧ Owns X.ev B3 H7 ws acc Fa ∧ Sep B3 (Dd :: Fa) U3 ∧ Step B H U B3 H7 (U3 ++ (Dd :: Fa)) ∧ lcL g mc m vs (items.drop (i + 1)) acc ρ3 = .ok dsF ρF := by
    intro ρ5 B6 H6 U6 F6 ws' acc' s6 t36 sp6 new6 th6 o6 H7 e7 l7
    have spL : Sep B6 (Dd :: Fa) U6 := (sp3.mono u42).step (fun a z => by rw [stp.keep a (thL a z) (by simp)]; exact thL a z) t36
    have dF6 : ∀ a ∈ Dd :: Fa, a ∉ F6 := fun a z y => by
      rcases new6 a y with w | w
      · exact (sp3.mono u42).dj a z w
      · rw [stp.keep a (thL a z) (by simp)] at w; exact thL a z w
    have spA : Sep B6 (Dd :: (Fa ++ F6)) U6 := by
      have nd1 := spL.nd
      refine ⟨?_, fun a z => ?_, fun a z => ?_⟩
      · rw [← List.cons_append]
        exact List.nodup_append.mpr ⟨nd1, sp6.nd, fun a x b y e => by subst e; exact dF6 a x y⟩
      · rw [← List.cons_append] at z
        rcases List.mem_append.mp z with z | z
        · exact spL.dj a z
        · exact sp6.dj a z
      · rw [← List.cons_append] at z
        rcases List.mem_append.mp z with z | z
        · exact spL.off a z
        · exact sp6.off a z
    have hDn : Dd ∉ Fa ++ F6 := (List.nodup_cons.mp spA.nd).1
    have t6 : Step B H U B6 H6 (U6 ++ (Dd :: (Fa ++ F6))) := by
      have a3 : Step B2 H2 (U2 ++ (Dd :: Fa)) B3 H3 (U2 ++ (Dd :: Fa)) := stp.none_of
      have a4 : Step B3 H3 (U2 ++ (Dd :: Fa)) B6 H6 (U6 ++ (Dd :: (Fa ++ F6))) := t36.weak (fun a z => by simp [u42 a z]) fun a z => by
        rcases List.mem_append.mp z with z | z
        · exact .inl z
        · rw [← List.cons_append] at z
          rcases List.mem_append.mp z with z | z
          · exact .inr (.inl (List.mem_append.mpr (.inr z)))
          · rcases new6 a z with w | w
            · exact .inr (.inl (by simp [u42 a w]))
            · exact .inr (.inr w)
      exact (t2.trans a3).trans a4
    obtain ⟨U7, s7, sub7⟩ := (s6.step (upd_step (o := .lst ws') (U := [Dd]) (U' := []) s6.sub (spA.off Dd (by simp)) (by simp) (by simp)) fun a z y => by
      simp at y; subst y; exact spA.dj a (by simp) z).unwiped (σ0 := σ) vs (by rw [len4, wipe_length]) hw
    subst e7
    refine ⟨B6, wipeR ρ5 vs, U7, acc', ws', Fa ++ F6, s7, fun a o h => t36.bs a o (stp.bs a o (hb12 a o h)), upd_same, o6.mono (fun _ _ h => h) fun a z => by rw [upd_ne (fun y => hDn (by rw [← y]; exact z))], spA.mono sub7, ?_, l7⟩
    exact (t6.trans (upd_step (U := U6 ++ (Dd :: (Fa ++ F6))) (U' := U7 ++ (Dd :: (Fa ++ F6))) s6.sub (spA.off Dd (by simp)) (by simp) fun a z => by
      rcases List.mem_append.mp z with z | z
      · exact List.mem_append.mpr (.inl (sub7 a z))
      · exact List.mem_append.mpr (.inr z)))
  cases hmc : mc ρ3 with
  | exc x ρ4 => simp only [hmc] at l2; cases l2
  | stuck => simp only [hmc] at l2; cases l2
  | ok b ρ4 =>
  simp only [hmc] at l2
  intro B5 H5 U5 q
  cases b with
  | false =>
    simp only [Bool.false_eq_true, if_false] at l2 ⊢
    have dD5 : H5 Dd = some (.lst ws) := by rw [q.step.keep Dd (by rw [e3]; simp) fun z => sp3.dj Dd (by simp) (u42 _ z)]; exact e3
    refine back q.st q.step Sep.nil (fun _ h => absurd h (by simp)) (fun _ h => absurd h (by simp)) (by
      rw [List.append_nil]; exact o3.step q.step fun a z y => sp3.dj a (by simp [z]) (u42 a y)) H5 ?_ l2
    funext a
    by_cases h : a = Dd
    · subst h; rw [upd_same]; exact dD5
    · rw [upd_ne h]
  | true =>
  simp only [if_true] at l2 ⊢
  refine ⟨B5, ρ4, U5, q.st, ?_⟩
  cases hme : m ρ4 with
  | exc x ρ5 => simp only [hme] at l2; cases l2
  | stuck => simp only [hme] at l2; cases l2
  | ok d ρ5 =>
  simp only [hme] at l2
  intro y B6 H6 U6 F6 q6
  have qq := q.comb2 q6
  obtain ⟨sp6, new6⟩ := qq.sep rfl
  have nU4 : ∀ a ∈ Dd :: Fa, a ∉ U4 := fun a z w => sp3.dj a z (u42 a w)
  have thL3 : ∀ a ∈ Dd :: Fa, H3 a ≠ none := fun a z => by rw [stp.keep a (thL a z) (by simp)]; exact thL a z
  have e6 : H6 Dd = some (.lst ws) := by rw [qq.step.keep Dd (thL3 Dd (by simp)) (nU4 Dd (by simp))]; exact e3
  have o6 := o3.step qq.step fun a z => nU4 a (by simp [z])
  by_cases hlen : acc.length < 16777216
  case neg => rw [if_neg hlen] at l2; cases l2
  rw [if_pos hlen] at l2
  refine ⟨ws, e6, by rw [o6.len]; exact Nat.lt_of_lt_of_le hlen (by decide), ?_⟩
  have oy : Owns X.ev B6 H6 (ws ++ [y]) (acc ++ [d]) (Fa ++ F6) := by
    have := o6.append (.cons q6.own .nil)
    simpa using this
  exact back qq.st qq.step sp6 new6 (fun a z => Own.there q6.own a z) oy _ rfl l2
theorem d_lc {scope : Scope} {own : List (Str × Nat)} {vs : List Nat} (hc : X.calm = true) (hN : X.N.Nodup) (hi : PDI X W tg iter mi) (ok : BlkOk X.N X.env.scope scope own) (hv : own.map (·.2) = vs) (hkp : ∀ i, i < X.N.length → i ∉ vs → i ∈ kp)
    (hg : ∀ (s : Shared) (H : Hp) (C : Addr) (cl : List (Str × Addr)) (fp : List Addr), PDG (X.blk s H scope (compEnvC scope cl C X.env) fp) kp tg g)
    (ht : ∀ (s : Shared) (H : Hp) (C : Addr) (cl : List (Str × Addr)) (fp : List Addr), PDTs (X.blk s H scope (compEnvC scope cl C X.env) fp) W0 ifs mc)
    (he : ∀ (s : Shared) (H : Hp) (C : Addr) (cl : List (Str × Addr)) (fp : List Addr), PD (X.blk s H scope (compEnvC scope cl C X.env) fp) W0 true true elt m)
    (hs : ∀ x, foldedSetIterable iter X.env x = pure x := by intro _; rfl) : PD X W true true (.ListComp elt [⟨tg, iter, ifs, 0⟩] scope pos) (eLc g mi mc m vs) := by
  have hpe := pe_lc (pos := pos) (g := tG X.ev kp g) (tt := tT X.ev W0 true mc) (te := tE X.ev W0 true true m) hc hN hi ok (fun s H C cl fp => hg s H C cl fp) (fun s H C cl fp => ht s H C cl fp) (fun s H C cl fp => he s H C cl fp) hs
  rw [hv] at hpe
  exact ⟨fun pins s σ H Q I h => hpe.run pins s σ H Q I (lc_read I.len hkp h)⟩
/-- name = [..], on one row -/
theorem s_setLc {i : Nat} {y : Str} {py spos : Pos} {kq : List Nat} {scope : Scope} {own : List (Str × Nat)} {vs : List Nat} (hc : X.calm = true) (hN : X.N.Nodup) (hi : PDI X W tg iter mi) (ok : BlkOk X.N X.env.scope scope own) (hv : own.map (·.2) = vs) (hkp : ∀ i, i < X.N.length → i ∉ vs → i ∈ kp)
    (hg : ∀ (s : Shared) (H : Hp) (C : Addr) (cl : List (Str × Addr)) (fp : List Addr), PDG (X.blk s H scope (compEnvC scope cl C X.env) fp) kp tg g)
    (ht : ∀ (s : Shared) (H : Hp) (C : Addr) (cl : List (Str × Addr)) (fp : List Addr), PDTs (X.blk s H scope (compEnvC scope cl C X.env) fp) W0 ifs mc)
    (he : ∀ (s : Shared) (H : Hp) (C : Addr) (cl : List (Str × Addr)) (fp : List Addr), PD (X.blk s H scope (compEnvC scope cl C X.env) fp) W0 true true elt m)
    (hy : X.N[i]? = some y := by rfl) (hyl : X.env.scope.names.lookup y = some .local := by rfl) (hsw : swapsWith (.ListComp elt [⟨tg, iter, ifs, 0⟩] scope pos) (some (.Name y py)) spos.line X.env = pure true := by first | exact sw_true rfl rfl rfl (by decide +kernel) | rfl)
    (hk : i ∉ kq := by decide) (hs : ∀ x, foldedSetIterable iter X.env x = pure x := by intro _; rfl) : PDS X W kq (.Assign [.Name y py] (.ListComp elt [⟨tg, iter, ifs, 0⟩] scope pos) spos) (sSet i (eLc g mi mc m vs)) := by
  have hps := ps_setLc (i := i) (g := tG X.ev kp g) (tt := tT X.ev W0 true mc) (te := tE X.ev W0 true true m) hc hN hy hyl hsw hi ok (fun s H C cl fp => hg s H C cl fp) (fun s H C cl fp => ht s H C cl fp) (fun s H C cl fp => he s H C cl fp) hs
  rw [hv] at hps
  refine ⟨fun pins s σ H D I ⟨B, ρ, U, st, k⟩ => hps.run pins s σ H D I (lc_read I.len hkp ⟨B, ρ, U, st, ?_⟩)⟩
  dsimp only [sSet] at k
  cases hm : eLc g mi mc m vs ρ with
  | ok d ρ1 =>
    rw [hm] at k
    intro v B1 H1 U1 F p
    obtain ⟨U2, q⟩ := put_slot p hk
    exact k _ B1 H1 U2 q
  | exc x ρ1 => rw [hm] at k; exact excS.toW k
  | stuck => rw [hm] at k; exact k
end
end Eng
/-! Eng14: lists changed; built-ins; methods of texts. -/
namespace Eng
open PySem PySem.Spec PyProof.Rows L2

/-! ### what a slot's list does -/
def lstAt (i : Nat) (ρ : Rho) : Option (List D) := match ρ[i]? with
  | some (some (.lst true xs)) => some xs
  | _ => none
def eApp (i : Nat) (m : M D) : M D := fun ρ0 => match lstAt i ρ0 with
  | some _ => mBind m (fun d ρ => match lstAt i ρ with
    | some xs => if xs.length < 16777216 then .ok .non (ρ.set i (some (.lst true (xs ++ [d])))) else .stuck
    | none => .stuck) ρ0
  | none => .stuck
def ePop (i : Nat) : M D := fun ρ => match lstAt i ρ with
  | some xs => (match xs[xs.length - 1]? with
    | some y => .ok y (ρ.set i (some (.lst true xs.dropLast)))
    | none => .stuck)
  | none => .stuck
def setIx (i : Nat) (d k : D) (ρ : Rho) : Out := match k, lstAt i ρ with
  | .int k, some xs => (match ixN xs.length k with
    | some j => .nx (ρ.set i (some (.lst true (xs.set j d))))
    | none => .stuck)
  | _, _ => .stuck
def sSetIx (i : Nat) (mi mv : M D) : MS := fun ρ => match lstAt i ρ with
  | some _ => ofRes (mv ρ) fun d ρ1 => ofRes (mi ρ1) fun k ρ2 => setIx i d k ρ2
  | none => .stuck
section
variable {mg : Ev} {B H : Hp} {vs : List V} {ds : List D} {F : List Addr}
theorem lstAt_some {i : Nat} {ρ : Rho} {xs : List D} (h : lstAt i ρ = some xs) : ρ[i]? = some (some (.lst true xs)) := by
  unfold lstAt at h
  split at h
  · rename_i e; cases h; exact e
  · cases h
theorem own_lstO {v : V} {xs : List D} (hs : ∀ a u, B a = some u → H a = some u) (h : Own mg B H v (.lst true xs) F) : ∃ a vs G, v = .ref a ∧ H a = some (.lst vs) ∧ Owns mg B H vs xs G ∧ F = a :: G := by
  obtain ⟨a, vs, G, e, h1, h2, _, h3⟩ := own_lst hs h
  exact ⟨a, vs, G, e, h1, h2, h3 rfl⟩
theorem Owns.dropLast (o : Owns mg B H vs ds F) : ∃ F1 F2, Owns mg B H vs.dropLast ds.dropLast F1 ∧ F = F1 ++ F2 ∧ ∀ v d, vs[vs.length - 1]? = some v → ds[ds.length - 1]? = some d → Own mg B H v d F2 := by
  obtain ⟨F1, F2, o1, o2, e⟩ := o.take (ds.length - 1)
  refine ⟨F1, F2, ?_, e, fun v d hv hd => ?_⟩
  · rw [List.dropLast_eq_take, List.dropLast_eq_take, o.len]; exact o1
  · have hd' : ds.length - 1 < ds.length := (List.getElem?_eq_some_iff.mp hd).1
    rw [List.drop_eq_getElem_cons (by rw [o.len]; exact hd'), List.drop_eq_getElem_cons hd'] at o2
    rw [o.len] at hv
    have e1 : vs[ds.length - 1]'(by rw [o.len]; exact hd') = v := by
      have := List.getElem?_eq_some_iff.mp hv; exact this.2
    have e2 : ds[ds.length - 1] = d := (List.getElem?_eq_some_iff.mp hd).2
    have nv : vs.drop (ds.length - 1 + 1) = [] := List.drop_eq_nil_of_le (by rw [o.len]; omega)
    have nd : ds.drop (ds.length - 1 + 1) = [] := List.drop_eq_nil_of_le (by omega)
    rw [e1, e2, nv, nd] at o2
    cases o2 with
    | cons a b => cases b; simpa using a
theorem Owns.set {v : V} {d : D} {G : List Addr} (h : Own mg B H v d G) : ∀ {vs ds F} (j : Nat), Owns mg B H vs ds F → j < ds.length → ∃ F1 F2 F3, F = F1 ++ (F2 ++ F3) ∧ Owns mg B H (vs.set j v) (ds.set j d) (F1 ++ (G ++ F3))
  | _, _, _, _, .nil, hj => by simp at hj
  | _, _, _, 0, .cons (F := F) (G := G') a b, hj => ⟨[], F, G', rfl, by rw [List.nil_append]; exact .cons h b⟩
  | _, _, _, j + 1, .cons (F := F) (G := G') a b, hj => by
    obtain ⟨F1, F2, F3, e, o⟩ := Owns.set h j b (by simpa using hj)
    exact ⟨F ++ F1, F2, F3, by rw [e]; simp, by rw [List.append_assoc]; exact .cons a o⟩
end
section
variable {X : Cx} {W : WX} {kp : List Nat} {alt sep a1 a2 s1 s2 : Bool} {pos apos cpos ap2 : Pos} {e ea eb : Expr} {m ma mb : M D} {x : Str}
theorem Post.unitL {mg : Ev} {alt sep : Bool} {B H B' H' : Hp} {σ : L2.St} {ρ ρ' : Rho} {U U' F : List Addr} {r : Rel mg} (p : Post mg alt sep B H σ ρ U ρ' r B' H' U' F) : Post mg alt true B H σ ρ U ρ' (oN mg) B' H' U' [] :=
  ⟨p.st, rfl, fun _ => ⟨Sep.nil, fun _ h => absurd h (by simp)⟩, p.step, p.alt⟩
theorem Post.start {mg : Ev} {B H : Hp} {σ : L2.St} {ρ : Rho} {U : List Addr} (s : Sta mg B H σ ρ U) : Post mg false true B H σ ρ U ρ (oN mg) B H U [] :=
  ⟨s, rfl, fun _ => ⟨Sep.nil, fun _ h => absurd h (by simp)⟩, Step.refl s.sub, fun _ => ⟨rfl, rfl, Step.refl s.sub⟩⟩
theorem slot_list {mg : Ev} {B H : Hp} {σ : L2.St} {ρ : Rho} {U : List Addr} {i : Nat} {xs : List D} {K : PySem.W.Frag} (st : Sta mg B H σ ρ U) (h : lstAt i ρ = some xs) : ∃ a vs G, σ[i]? = some (some (.ref a)) ∧ H a = some (.lst vs) ∧ tyV K "list" (.ref a) H ∧ Owns mg B H vs xs G := by
  obtain ⟨v, F, U', e, o, _⟩ := st.take (lstAt_some h)
  obtain ⟨a, vs, G, rfl, h1, t, _⟩ := own_lstO st.sub o
  exact ⟨a, vs, G, e, h1, .inl ⟨rfl, vs, .inl (.inl h1)⟩, t⟩
/-- x.append(e) -/
theorem d_app (i : Nat) (hp : PE X (.Call (.Attribute (.Name x pos) "append" apos) [e] [] cpos) (tBM X.K "list" rAppend (tVar i) (tCons (tE X.ev W alt true m) tNil))) : PD X W true true (.Call (.Attribute (.Name x pos) "append" apos) [e] [] cpos) (eApp i m) :=
  PE.weak hp fun σ H Q ⟨B, ρ, U, st, k⟩ => by
    dsimp only [eApp] at k
    cases hl0 : lstAt i ρ with
    | none => rw [hl0] at k; exact k.elim
    | some xs0 =>
    rw [hl0] at k
    obtain ⟨a, vs0, _, e0, h0, ty, _⟩ := slot_list (K := X.K) st hl0
    refine ⟨_, e0, ty, B, ρ, U, st, ?_⟩
    dsimp only [mBind] at k
    cases hm : m ρ with
    | exc x ρ1 => rw [hm] at k; exact k
    | stuck => rw [hm] at k; exact k
    | ok d ρ1 =>
    rw [hm] at k
    intro v B1 H1 U1 F p
    dsimp only [Res.bind] at k
    cases hl : lstAt i ρ1 with
    | none => rw [hl] at k; exact k.elim
    | some xs =>
    rw [hl] at k
    dsimp only at k
    by_cases hz : xs.length < 16777216
    case neg => rw [if_neg hz] at k; exact k.elim
    rw [if_pos hz] at k
    obtain ⟨v0, G, e1, o1, ndG, gF, fG, offG, mu⟩ := mut_slot p (lstAt_some hl)
    rw [e0] at e1; cases e1
    obtain ⟨a', vs, G', ea, h1, t1, rfl⟩ := own_lstO p.st.sub o1
    cases ea
    have hn := List.nodup_cons.mp ndG
    have nF : (G' ++ F).Nodup := List.nodup_append.mpr ⟨hn.2, (p.sep rfl).1.nd, fun x hx y hy e => gF x (by simp [hx]) (by rw [e]; exact hy)⟩
    have nA : a ∉ G' ++ F := fun z => by
      rcases List.mem_append.mp z with z | z
      · exact hn.1 z
      · exact gF a (by simp) z
    obtain ⟨U2, q⟩ := mu (upd H1 a (.lst (vs ++ [v]))) (.lst true (xs ++ [d])) (a :: (G' ++ F)) .non .non [] (fun x hx => upd_ne fun z => hx (by simp [z]))
      (.own (A := [a]) rfl ⟨upd_same, rfl⟩ (by
        have t2 := t1.append (.cons p.own .nil)
        rw [List.append_nil] at t2
        exact t2.mono (fun _ _ h => h) fun x hx => upd_ne fun z => nA (by rw [← z]; exact hx)))
      (.atom trivial) (fun x hx => by
        rw [List.append_nil] at hx
        rcases List.mem_cons.mp hx with rfl | hx
        · exact .inl (by simp)
        · rcases List.mem_append.mp hx with z | z
          · exact .inl (by simp [z])
          · exact .inr z) (by rw [List.append_nil]; exact List.nodup_cons.mpr ⟨nA, nF⟩)
    exact ⟨a, vs, v, rfl, rfl, h1, by rw [t1.len]; exact Nat.lt_of_lt_of_le hz (by decide), k _ B1 _ U2 [] q⟩
/-- x.pop() -/
theorem d_pop (i : Nat) (hp : PE X (.Call (.Attribute (.Name x pos) "pop" apos) [] [] cpos) (tBM0 X.K "list" rPop (tVar i))) : PD X W true true (.Call (.Attribute (.Name x pos) "pop" apos) [] [] cpos) (ePop i) :=
  PE.weak hp fun σ H Q ⟨B, ρ, U, st, k⟩ => by
    dsimp only [ePop] at k
    cases hl : lstAt i ρ with
    | none => rw [hl] at k; exact k.elim
    | some xs =>
    rw [hl] at k
    dsimp only at k
    cases hy : xs[xs.length - 1]? with
    | none => rw [hy] at k; exact k.elim
    | some y =>
    rw [hy] at k
    obtain ⟨v0, G, e1, o1, ndG, gF, fG, offG, mu⟩ := mut_slot (Post.start st) (lstAt_some hl)
    obtain ⟨a, vs, G', rfl, h1, t1, rfl⟩ := own_lstO st.sub o1
    obtain ⟨F1, F2, o2, e2, o3⟩ := t1.dropLast
    have hlt : xs.length - 1 < xs.length := (List.getElem?_eq_some_iff.mp hy).1
    obtain ⟨w, hw⟩ : ∃ w, vs[vs.length - 1]? = some w := ⟨_, List.getElem?_eq_getElem (by rw [t1.len]; exact hlt)⟩
    have ow := o3 w y hw hy
    have hn := List.nodup_cons.mp ndG
    rw [e2] at hn
    have n2 := List.nodup_append.mp hn.2
    obtain ⟨U2, q⟩ := mu (upd H a (.lst vs.dropLast)) (.lst true xs.dropLast) (a :: F1) w y F2 (fun x hx => upd_ne fun z => hx (by simp [z]))
      (.own (A := [a]) rfl ⟨upd_same, rfl⟩ (o2.mono (fun _ _ h => h) fun x hx => upd_ne fun z => hn.1 (by rw [← z]; simp [hx])))
      (ow.mono (fun _ _ h => h) fun x hx => upd_ne fun z => hn.1 (by rw [← z]; simp [hx]))
      (fun x hx => .inl (by rw [e2]; simp at hx ⊢; rcases hx with h | h | h <;> simp [h])) (by
        rw [List.cons_append]; exact List.nodup_cons.mpr ⟨hn.1, hn.2⟩)
    exact ⟨_, e1, .inl ⟨rfl, vs, .inl (.inl h1)⟩, a, vs, w, rfl, rfl, h1, hw, k _ B _ U2 F2 q⟩
/-- x[e] = v -/
theorem s_setIx (i : Nat) (hp : PS X (.Assign [.Subscript (.Name x pos) eb apos] ea cpos) (tAsg (tE X.ev W a1 true ma) (gSub (tVar i) (tE X.ev W a2 s2 mb) rSetL))) : PDS X W kp (.Assign [.Subscript (.Name x pos) eb apos] ea cpos) (sSetIx i mb ma) :=
  PS.weak hp fun D σ H ⟨B, ρ, U, st, k⟩ => by
    refine ⟨B, ρ, U, st, ?_⟩
    dsimp only [sSetIx] at k
    cases hl0 : lstAt i ρ with
    | none => rw [hl0] at k; exact k.elim
    | some xs0 =>
    rw [hl0] at k
    obtain ⟨a, vs0, _, e0, h0, ty, _⟩ := slot_list (K := X.K) st hl0
    dsimp only at k
    cases hm : ma ρ with
    | exc x ρ1 => rw [hm] at k; exact excS.toW k
    | stuck => rw [hm] at k; exact k
    | ok d ρ1 =>
    rw [hm] at k
    intro v B1 H1 U1 F p
    dsimp only [ofRes] at k
    refine ⟨_, e0, B1, ρ1, U1, p.st, ?_⟩
    cases hm2 : mb ρ1 with
    | exc x ρ2 => rw [hm2] at k; exact (excS.toW k).back p.step
    | stuck => rw [hm2] at k; exact k
    | ok kd ρ2 =>
    rw [hm2] at k
    intro vk B2 H2 U2 F2 q
    dsimp only [setIx] at k
    have pq := p.comb1 q (.inr rfl)
    cases kd with
    | int j0 =>
      obtain ⟨rfl, rfl⟩ := own_int q.own
      cases hl : lstAt i ρ2 with
      | none => rw [hl] at k; exact k.elim
      | some xs =>
      rw [hl] at k
      dsimp only at k
      cases hj : ixN xs.length j0 with
      | none => rw [hj] at k; exact k.elim
      | some j =>
      rw [hj] at k
      obtain ⟨v0, G, e1, o1, ndG, gF, fG, offG, mu⟩ := mut_slot pq (lstAt_some hl)
      rw [e0] at e1; cases e1
      obtain ⟨a', vs, G', ea, h1, t1, rfl⟩ := own_lstO pq.st.sub o1
      cases ea
      have hjl : j < xs.length := (ixN_seq hj).2.1
      obtain ⟨F1, Fo, F3, eG, o2⟩ := Owns.set pq.own j t1 hjl
      have hn := List.nodup_cons.mp ndG
      have sub : ∀ x, x ∈ F1 ++ (F ++ F3) → x ∈ G' ∨ x ∈ F := fun x hx => by
        rw [eG]; simp at hx ⊢; rcases hx with h | h | h <;> simp [h]
      have nA : a ∉ F1 ++ (F ++ F3) := fun z => by
        rcases sub a z with z | z
        · exact hn.1 z
        · exact gF a (by simp) z
      have nF : (F1 ++ (F ++ F3)).Nodup := by
        rw [eG] at hn
        have n1 := List.nodup_append.mp hn.2
        have n2 := List.nodup_append.mp n1.2.1
        have inG : ∀ x, x ∈ F1 ∨ x ∈ F3 → x ∈ a :: G' := fun x h => by rw [eG]; rcases h with h | h <;> simp [h]
        refine List.nodup_append.mpr ⟨n1.1, List.nodup_append.mpr ⟨(pq.sep rfl).1.nd, n2.2.1, fun x hx y hy e => gF x (inG x (.inr (by rw [e]; exact hy))) hx⟩, fun x hx y hy e => ?_⟩
        subst e
        rcases List.mem_append.mp hy with z | z
        · exact gF x (inG x (.inl hx)) z
        · exact n1.2.2 x hx x (by simp [z]) rfl
      obtain ⟨U3, q3⟩ := mu (upd H2 a (.lst (vs.set j v))) (.lst true (xs.set j d)) (a :: (F1 ++ (F ++ F3))) .non .non [] (fun x hx => upd_ne fun z => hx (by simp [z]))
        (.own (A := [a]) rfl ⟨upd_same, rfl⟩ (o2.mono (fun _ _ h => h) fun x hx => upd_ne fun z => nA (by rw [← z]; exact hx)))
        (.atom trivial) (fun x hx => by
          rw [List.append_nil] at hx
          rcases List.mem_cons.mp hx with rfl | hx
          · exact .inl (by simp)
          · rcases sub x hx with z | z
            · exact .inl (by simp [z])
            · exact .inr z) (by rw [List.append_nil]; exact List.nodup_cons.mpr ⟨nA, nF⟩)
      refine ⟨a, vs, j0, j, rfl, rfl, h1, by rw [t1.len]; exact hj, k σ B2 _ U3 ⟨q3.st, q3.step, fun _ _ => rfl⟩⟩
    | _ => cases hl : lstAt i ρ2 <;> rw [hl] at k <;> exact k.elim
end
end Eng
/-! Eng15: built-ins and methods of texts. -/
namespace Eng
open PySem PySem.Spec PyProof.Rows L2

/-! ### texts -/
def sw1 (c : Nat) : Nat := if 65 ≤ c ∧ c ≤ 90 then c + 32 else if 97 ≤ c ∧ c ≤ 122 then c - 32 else c
theorem sw_ascii : ∀ c, c < 128 → (if Unicode.isUpper c then Unicode.lowerOf c else if Unicode.isLower c then Unicode.upperOf c else [c]) = [sw1 c] := by decide +kernel
theorem S_map (f : Nat → Nat) (s : List Nat) : (⟨(S s).cps.map f⟩ : Str) = S (s.map f) := by simp [S]
theorem swap_S {s : List Nat} (h : s.all (· < 128) = true) : Txt.swapcase (S s) = S (s.map sw1) := by
  rw [← S_map]
  unfold Txt.swapcase
  rw [placed_single (S s) _ sw1 fun i c hc => ?_]
  rw [S_list] at hc
  have hlt : c < 128 := of_decide_eq_true (List.all_eq_true.mp h c (List.mem_of_getElem? hc))
  have e : Unicode.lowerAt (S s).cps i = Unicode.lowerOf c := by
    unfold Unicode.lowerAt
    have : (S s).cps[i]? = some c := by simp [S]; exact hc
    rw [this]
    have n : (c == 0x3A3) = false := beq_eq_false_iff_ne.mpr (by omega)
    simp only [n, Bool.false_and, Bool.false_eq_true, if_false]
  rw [e]
  exact sw_ascii c hlt
theorem upper_S {s : List Nat} (h : s.all (· < 128) = true) : Txt.upper (S s) = S (s.map up1) := by
  rw [upper_ascii (fun c hc => by rw [S_list] at hc; exact of_decide_eq_true (List.all_eq_true.mp h c hc)), S_map]
theorem lower_S {s : List Nat} (h : s.all (· < 128) = true) : Txt.lower (S s) = S (s.map lo1) := by
  rw [lower_ascii (fun c hc => by rw [S_list] at hc; exact of_decide_eq_true (List.all_eq_true.mp h c hc)), S_map]
def isUp (c : Nat) : Bool := decide (65 ≤ c ∧ c ≤ 90)
def isLo (c : Nat) : Bool := decide (97 ≤ c ∧ c ≤ 122)
theorem isUp_ascii : ∀ c, c < 128 → Unicode.isUpper c = isUp c ∧ Unicode.isLower c = isLo c ∧ Unicode.isTitle c = false := by decide +kernel
theorem any_congr {α : Type} {p q : α → Bool} : ∀ {l : List α}, (∀ x ∈ l, p x = q x) → l.any p = l.any q
  | [], _ => rfl
  | x :: l, h => by rw [List.any_cons, List.any_cons, h x (by simp), any_congr fun y hy => h y (by simp [hy])]
def isLowS (s : List Nat) : Bool := s.any isLo && !s.any isUp
theorem islower_S {s : List Nat} (h : s.all (· < 128) = true) : Txt.islower (S s) = isLowS s := by
  have hh : ∀ c ∈ s, c < 128 := fun c hc => of_decide_eq_true (List.all_eq_true.mp h c hc)
  unfold Txt.islower isLowS
  have e1 : s.any Unicode.isLower = s.any isLo := any_congr fun c hc => (isUp_ascii c (hh c hc)).2.1
  have e2 : (s.any fun c => Unicode.isUpper c || Unicode.isTitle c) = s.any isUp := any_congr fun c hc => by
    obtain ⟨a, _, b⟩ := isUp_ascii c (hh c hc)
    rw [a, b, Bool.or_false]
  rw [← Array.any_toList, ← Array.any_toList, S_list, e1, e2]
def strM (f : List Nat → List D → Option D) : D → List D → Option D := fun d ds => match d with
  | .str s => f s ds
  | _ => none
def swapM : List Nat → List D → Option D := fun s ds => match ds with
  | [] => if s.all (· < 128) && decide (s.length ≤ 5592405) then some (.str (s.map sw1)) else none
  | _ => none
def upM : List Nat → List D → Option D := fun s ds => match ds with
  | [] => if s.all (· < 128) && decide (s.length ≤ 5592405) then some (.str (s.map up1)) else none
  | _ => none
def loM : List Nat → List D → Option D := fun s ds => match ds with
  | [] => if s.all (· < 128) && decide (s.length ≤ 5592405) then some (.str (s.map lo1)) else none
  | _ => none
def islowM : List Nat → List D → Option D := fun s ds => match ds with
  | [] => if s.all (· < 128) then some (.bl (isLowS s)) else none
  | _ => none
def findS (s t : List Nat) : Int := Txt.find (S s) (S t)
def findM : List Nat → List D → Option D := fun s ds => match ds with
  | [.str t] => some (.int (findS s t))
  | _ => none
def find3S (s t : List Nat) (i : Int) : Int := Txt.find3 (S s) (S t) i
def find2M : List Nat → List D → Option D := fun s ds => match ds with
  | [.str t, .int i] => some (.int (find3S s t i))
  | _ => none
/-- the texts of a list, if it holds nothing else -/
def strsOf : List D → Option (List (List Nat))
  | [] => some []
  | .str s :: ds => (strsOf ds).map (s :: ·)
  | _ :: _ => none
def joinL (sep : List Nat) : List (List Nat) → List Nat
  | [] => []
  | x :: xs => x ++ (xs.map fun y => sep ++ y).flatten
def joinM : List Nat → List D → Option D := fun s ds => match ds with
  | [.lst _ xs] => (match strsOf xs with
    | some ys => if (ys.map List.length).sum + ys.length * s.length ≤ 16777216 then some (.str (joinL s ys)) else none
    | none => none)
  | [.tup xs] => (match strsOf xs with
    | some ys => if (ys.map List.length).sum + ys.length * s.length ≤ 16777216 then some (.str (joinL s ys)) else none
    | none => none)
  | _ => none
theorem join_S (sep : List Nat) (ys : List (List Nat)) : Txt.join (S sep) (ys.map S) = S (joinL sep ys) := by
  show Builtin.Str.glued (S sep) (ys.map S) = _
  unfold Builtin.Str.glued
  have key : ∀ (zs : List (List Nat)) (a : List Nat), (zs.map S).foldl (fun acc p => acc ++ (S sep).cps ++ p.cps) (S a).cps = (S (a ++ (zs.map fun y => sep ++ y).flatten)).cps := by
    intro zs
    induction zs with
    | nil => intro a; simp [S]
    | cons z zs ih =>
      intro a
      rw [List.map_cons, List.foldl_cons]
      have : (S a).cps ++ (S sep).cps ++ (S z).cps = (S (a ++ (sep ++ z))).cps := by simp [S]
      rw [this, ih]
      simp [S]
  cases ys with
  | nil => simp [S, joinL, Str.empty]
  | cons x xs =>
    simp only [List.map_cons, List.drop_succ_cons, List.drop_zero, List.headD_cons]
    rw [key]
    rfl
def MtD (X : Cx) (id : String) (f : List Nat → List D → Option D) : Prop := MtR X id fun x xs H Q => ∃ B s ds G z, (∀ a o, B a = some o → H a = some o) ∧ x = .str (S s) ∧ Owns X.ev B H xs ds G ∧ f s ds = some z ∧ ∀ w B' H' K, New X.ev B H w z B' H' K → Q w H'
def eMt (f : List Nat → List D → Option D) (m : M D) (ms : M (List D)) : M D := mBind m fun d => match d with
  | .str s => mBind ms fun ds => mOpt (f s ds)
  | _ => mStuck
section
variable {X : Cx} {W : WX} {alt sep a1 a2 s1 s2 : Bool} {pos apos cpos : Pos} {e ea : Expr} {es : List Expr} {m : M D} {ms : M (List D)} {id : String} {name : Str}
theorem owns_nil {mg : Ev} {B H : Hp} {xs : List V} {G : List Addr} (h : Owns mg B H xs [] G) : xs = [] := by cases h; rfl
theorem owns_one {mg : Ev} {B H : Hp} {xs : List V} {d : D} {G : List Addr} (h : Owns mg B H xs [d] G) : ∃ v F, xs = [v] ∧ Own mg B H v d F := by
  cases h with
  | cons a b => cases b; exact ⟨_, _, rfl, a⟩
theorem owns_two {mg : Ev} {B H : Hp} {xs : List V} {d d' : D} {G : List Addr} (h : Owns mg B H xs [d, d'] G) : ∃ v v' F F', xs = [v, v'] ∧ Own mg B H v d F ∧ Own mg B H v' d' F' := by
  cases h with
  | cons a b =>
    obtain ⟨v', F', rfl, o⟩ := owns_one b
    exact ⟨_, _, _, _, rfl, a, o⟩
theorem md_swap : MtD X "str.swapcase" swapM := by
  intro pins s σ H x xs v us Q I rx rs ⟨B, t, ds, G, z, hs, ex, o, hf, q⟩
  subst ex
  unfold swapM at hf
  split at hf
  · obtain rfl := owns_nil o
    split at hf <;> cases hf
    rename_i hc
    simp only [Bool.and_eq_true, decide_eq_true_eq] at hc
    obtain ⟨tk, rfl⟩ := rx
    cases rs
    refine PySem.SC.swapcase (fit_swapcase (by rw [S_len]; exact hc.2)) ⟨.str _, H, I.tok _, ⟨_, rfl⟩, ?_⟩
    rw [swap_S hc.1]
    exact q _ B H [] (New.flat hs (.atom (S_list _)))
  · cases hf
theorem md_up : MtD X "str.upper" upM := by
  intro pins s σ H x xs v us Q I rx rs ⟨B, t, ds, G, z, hs, ex, o, hf, q⟩
  subst ex
  unfold upM at hf
  split at hf
  · obtain rfl := owns_nil o
    split at hf <;> cases hf
    rename_i hc
    simp only [Bool.and_eq_true, decide_eq_true_eq] at hc
    exact mt_upper pins s σ H _ _ v us Q I rx rs ⟨_, rfl, rfl, by rw [S_len]; exact hc.2, by rw [upper_S hc.1]; exact q _ B H [] (New.flat hs (.atom (S_list _)))⟩
  · cases hf
theorem md_lo : MtD X "str.lower" loM := by
  intro pins s σ H x xs v us Q I rx rs ⟨B, t, ds, G, z, hs, ex, o, hf, q⟩
  subst ex
  unfold loM at hf
  split at hf
  · obtain rfl := owns_nil o
    split at hf <;> cases hf
    rename_i hc
    simp only [Bool.and_eq_true, decide_eq_true_eq] at hc
    exact mt_lower pins s σ H _ _ v us Q I rx rs ⟨_, rfl, rfl, by rw [S_len]; exact hc.2, by rw [lower_S hc.1]; exact q _ B H [] (New.flat hs (.atom (S_list _)))⟩
  · cases hf
theorem md_islow : MtD X "str.islower" islowM := by
  intro pins s σ H x xs v us Q I rx rs ⟨B, t, ds, G, z, hs, ex, o, hf, q⟩
  subst ex
  unfold islowM at hf
  split at hf
  · obtain rfl := owns_nil o
    split at hf <;> cases hf
    rename_i hc
    exact mt_islower pins s σ H _ _ v us Q I rx rs ⟨_, rfl, rfl, trivial, by rw [islower_S hc]; exact q _ B H [] (New.flat hs (.atom rfl))⟩
  · cases hf
theorem md_find : MtD X "str.find" findM := by
  intro pins s σ H x xs v us Q I rx rs ⟨B, t, ds, G, z, hs, ex, o, hf, q⟩
  subst ex
  unfold findM at hf
  split at hf <;> cases hf
  obtain ⟨w, F, rfl, o1⟩ := owns_one o
  obtain ⟨rfl, _⟩ := own_str o1
  exact mt_find pins s σ H _ _ v us Q I rx rs ⟨_, _, rfl, rfl, q _ B H [] (New.flat hs (.atom rfl))⟩
theorem md_find2 : MtD X "str.find" find2M := by
  intro pins s σ H x xs v us Q I rx rs ⟨B, t, ds, G, z, hs, ex, o, hf, q⟩
  subst ex
  unfold find2M at hf
  split at hf <;> cases hf
  obtain ⟨w, w', F, F', rfl, o1, o2⟩ := owns_two o
  obtain ⟨rfl, _⟩ := own_str o1
  obtain ⟨rfl, _⟩ := own_int o2
  exact mt_find3 pins s σ H _ _ v us Q I rx rs ⟨_, _, _, rfl, rfl, q _ B H [] (New.flat hs (.atom rfl))⟩
theorem owns_strs {mg : Ev} {B H : Hp} : ∀ {vs : List V} {ds : List D} {F : List Addr} {ys : List (List Nat)}, Owns mg B H vs ds F → strsOf ds = some ys → vs = (ys.map S).map V.str
  | _, _, _, ys, .nil, h => by simp [strsOf] at h; subst h; rfl
  | _, _, _, ys, .cons (d := d) a b, h => by
    cases d with
    | str s =>
      simp only [strsOf] at h
      cases e : strsOf _ with
      | none => rw [e] at h; cases h
      | some zs =>
        rw [e] at h; cases h
        obtain ⟨rfl, _⟩ := own_str a
        rw [owns_strs b e]
        rfl
    | _ => simp [strsOf] at h
theorem md_join : MtD X "str.join" joinM := by
  intro pins s σ H x xs v us Q I rx rs ⟨B, t, ds, G, z, hs, ex, o, hf, q⟩
  subst ex
  have len : ∀ ys : List (List Nat), ((ys.map S).map (·.length)).sum = (ys.map List.length).sum := fun ys => by
    rw [List.map_map]; congr 1
  unfold joinM at hf
  split at hf
  · split at hf
    · rename_i ys hys
      split at hf <;> cases hf
      rename_i hz
      obtain ⟨w, F, rfl, o1⟩ := owns_one o
      obtain ⟨a, vs, K1, rfl, h1, h2, t1⟩ := lst_sql (K := X.K) hs o1
      have e := owns_strs t1 hys
      exact mt_join pins s σ H _ _ v us Q I rx rs ⟨_, a, ys.map S, rfl, rfl, .inl (by rw [← e]; exact h2), by rw [len, S_len, List.length_map]; exact hz, by rw [join_S]; exact q _ B H [] (New.flat hs (.atom (S_list _)))⟩
    · cases hf
  · split at hf
    · rename_i ys hys
      split at hf <;> cases hf
      rename_i hz
      obtain ⟨w, F, rfl, o1⟩ := owns_one o
      obtain ⟨a, vs, rfl, h2, t1⟩ := tup_sqt (K := X.K) hs o1
      have e := owns_strs t1 hys
      exact mt_join pins s σ H _ _ v us Q I rx rs ⟨_, a, ys.map S, rfl, rfl, .inr (by rw [← e]; exact h2), by rw [len, S_len, List.length_map]; exact hz, by rw [join_S]; exact q _ B H [] (New.flat hs (.atom (S_list _)))⟩
    · cases hf
  · cases hf
/-- s.m(..), s a text -/
theorem mt_core0 {f : List Nat → List D → Option D} {t : TE} (ht : ∀ σ H Q, tBM0 X.K "str" (fun x xs H Q => ∃ B s ds G z, (∀ a o, B a = some o → H a = some o) ∧ x = .str (S s) ∧ Owns X.ev B H xs ds G ∧ f s ds = some z ∧ ∀ w B' H' K, New X.ev B H w z B' H' K → Q w H') (tE X.ev W alt sep m) σ H Q → t σ H Q) : ∀ σ H Q, tE X.ev W alt true (eMt f m lNil) σ H Q → t σ H Q :=
  fun σ H Q ⟨B, ρ, U, st, k⟩ => by
    refine ht σ H Q ⟨B, ρ, U, st, ?_⟩
    dsimp only [eMt, mBind] at k
    cases hm : m ρ with
    | ok d ρ1 =>
      rw [hm] at k
      intro v B1 H1 U1 F p
      dsimp only [Res.bind] at k
      cases d with
      | str s =>
        obtain ⟨rfl, rfl⟩ := own_str p.own
        dsimp only [mBind, lNil, mPure, Res.bind, mOpt] at k
        refine ⟨rfl, ?_⟩
        cases hf : f s [] with
        | none => rw [hf] at k; exact k.elim
        | some z =>
          rw [hf] at k
          exact ⟨B1, s, [], [], z, p.st.sub, rfl, .nil, hf, fun w B' H' K nw => k w B' H' U1 K (p.fin nw)⟩
      | _ => exact k.elim
    | exc x ρ1 => rw [hm] at k; exact k
    | stuck => rw [hm] at k; exact k
theorem d_mt0 {f : List Nat → List D → Option D} (pa : PlainAttrs "str") (slot : Slot "str" name id) (hty : typeOf (.builtin id) = pure (.type "method_descriptor")) (hm : MtD X id f) (h : PD X W alt sep e m)
    (hbase : attributeBase e name X.env (eval e X.env) = eval e X.env := by rfl) (hline : (apos.endLine == cpos.line) = true := by rfl) : PD X W alt true (.Call (.Attribute e name apos) [] [] cpos) (eMt f m lNil) :=
  PE.weak (pe_bm0 pa slot hty hm h hbase hline) (mt_core0 fun _ _ _ h => h)
theorem d_mt {f : List Nat → List D → Option D} (hp : PE X (.Call (.Attribute e name apos) (ea :: es) [] cpos) (tBM X.K "str" (fun x xs H Q => ∃ B s ds G z, (∀ a o, B a = some o → H a = some o) ∧ x = .str (S s) ∧ Owns X.ev B H xs ds G ∧ f s ds = some z ∧ ∀ w B' H' K, New X.ev B H w z B' H' K → Q w H') (tE X.ev W a1 s1 m) (tL X.ev W a2 s2 ms))) :
    PD X W (a1 || a2) true (.Call (.Attribute e name apos) (ea :: es) [] cpos) (eMt f m ms) :=
  PE.weak hp fun σ H Q ⟨B, ρ, U, st, k⟩ => by
    refine ⟨B, ρ, U, st, ?_⟩
    dsimp only [eMt, mBind] at k
    cases hm : m ρ with
    | exc x ρ1 => rw [hm] at k; exact k
    | stuck => rw [hm] at k; exact k
    | ok d ρ1 =>
    rw [hm] at k
    intro v B1 H1 U1 F p
    dsimp only [Res.bind] at k
    cases d with
    | str s =>
      obtain ⟨rfl, rfl⟩ := own_str p.own
      dsimp only [mBind] at k
      refine ⟨rfl, B1, ρ1, U1, p.st, ?_⟩
      cases hms : ms ρ1 with
      | exc x ρ2 => rw [hms] at k; exact k.back p.step
      | stuck => rw [hms] at k; exact k
      | ok ds ρ2 =>
      rw [hms] at k
      intro vs B2 H2 U2 F2 q
      dsimp only [Res.bind, mOpt] at k
      cases hf : f s ds with
      | none => rw [hf] at k; exact k.elim
      | some z =>
        rw [hf] at k
        exact ⟨B2, s, ds, F2, z, q.st.sub, rfl, q.own, hf, fun w B' H' K nw => k w B' H' U2 K ((p.comb2 q).fin nw)⟩
    | _ => exact k.elim
end

/-! ### built-ins -/
def lenD : List D → Option D
  | [.lst _ xs] => some (.int xs.length)
  | [.tup xs] => some (.int xs.length)
  | [.str s] => if s.length ≤ 16777216 then some (.int s.length) else none
  | _ => none
def intD : List D → Option D
  | [.int i] => some (.int i)
  | [.bl b] => some (.int (if b then 1 else 0))
  | _ => none
def absD : List D → Option D
  | [.int i] => some (.int (if i < 0 then -i else i))
  | _ => none
def listD : List D → Option D
  | [.lst _ xs] => if frzs xs then some (.lst true xs) else none
  | [.tup xs] => if frzs xs then some (.lst true xs) else none
  | [.str s] => if s.length ≤ 16777216 then some (.lst true (s.map fun c => .str [c])) else none
  | _ => none
def tupleD : List D → Option D
  | [.lst _ xs] => if frzs xs then some (.tup xs) else none
  | [.tup xs] => if frzs xs then some (.tup xs) else none
  | _ => none
def tyName : D → Option String
  | .non => some "NoneType"
  | .bl _ => some "bool"
  | .int _ => some "int"
  | .str _ => some "str"
  | .lst _ _ => some "list"
  | .tup _ => some "tuple"
  | .dic _ _ => some "dict"
  | _ => none
def isiB (d : D) (n : String) : Option Bool := match tyName d with
  | some t => kitB t n
  | none => none
def isiD : List D → Option D
  | [d, .ty n] => (isiB d n).map D.bl
  | _ => none
section
variable {X : Cx}
theorem fd_len : FnD X (.builtin "len") lenD := by
  intro pins s σ H xs us Q I r ⟨B, ds, F, z, hs, o, hf, q⟩
  unfold lenD at hf
  split at hf
  · cases hf
    obtain ⟨w, F', rfl, o1⟩ := owns_one o
    obtain ⟨a, vs, K1, rfl, h1, h2, t1⟩ := lst_sql (K := X.K) hs o1
    exact call_len_seq pins s σ H _ us Q I r ⟨a, vs, rfl, .inl h2, by rw [t1.len]; exact q _ B H [] (New.flat hs (.atom rfl))⟩
  · cases hf
    obtain ⟨w, F', rfl, o1⟩ := owns_one o
    obtain ⟨a, vs, rfl, h2, t1⟩ := tup_sqt (K := X.K) hs o1
    exact call_len_seq pins s σ H _ us Q I r ⟨a, vs, rfl, .inr h2, by rw [t1.len]; exact q _ B H [] (New.flat hs (.atom rfl))⟩
  · split at hf <;> cases hf
    rename_i hz
    obtain ⟨w, F', rfl, o1⟩ := owns_one o
    obtain ⟨rfl, _⟩ := own_str o1
    exact call_len_str pins s σ H _ us Q I r ⟨_, rfl, by rw [S_len]; exact hz, by rw [S_len]; exact q _ B H [] (New.flat hs (.atom rfl))⟩
  · cases hf
theorem fd_int : FnD X (.type "int") intD := by
  intro pins s σ H xs us Q I r ⟨B, ds, F, z, hs, o, hf, q⟩
  unfold intD at hf
  split at hf <;> cases hf
  · obtain ⟨w, F', rfl, o1⟩ := owns_one o
    obtain ⟨rfl, _⟩ := own_int o1
    exact call_int1 pins s σ H _ us Q I r (.inl ⟨_, rfl, q _ B H [] (New.flat hs (.atom rfl))⟩)
  · obtain ⟨w, F', rfl, o1⟩ := owns_one o
    obtain ⟨rfl, _⟩ := own_bl o1
    exact call_int1 pins s σ H _ us Q I r (.inr ⟨_, rfl, q _ B H [] (New.flat hs (.atom rfl))⟩)
theorem fd_abs : FnD X (.builtin "abs") absD := by
  intro pins s σ H xs us Q I r ⟨B, ds, F, z, hs, o, hf, q⟩
  unfold absD at hf
  split at hf <;> cases hf
  obtain ⟨w, F', rfl, o1⟩ := owns_one o
  obtain ⟨rfl, _⟩ := own_int o1
  exact call_abs pins s σ H _ us Q I r ⟨_, rfl, q _ B H [] (New.flat hs (.atom rfl))⟩
theorem call_listS (hc : X.calm = true) : CallR X (.type "list") (fun xs H Q => ∃ z : Str, xs = [.str z] ∧ z.length ≤ sizeLine ∧ ∀ l, H l = none → Q (.ref l) (upd H l (.lst (z.cps.toList.map fun c => V.str ⟨#[c]⟩)))) := by
  intro pins s σ H xs us Q I r ⟨z, e, hz, q⟩
  subst e
  obtain ⟨u, rfl, rx⟩ := vals1 r
  obtain ⟨t, rfl⟩ := rx
  refine PySem.call_list_str (I.ok.hd hc) z t (hn := hz) fun h' tk acc c hk hS hacc => ?_
  refine ⟨.ref s.heap.objs.size, _, I.laid (t' := tk) hk (Nat.le_refl _) (o := .lst (z.cps.toList.map fun c => V.str ⟨#[c]⟩)) ⟨by rw [List.length_map, Array.length_toList]; exact hz, acc.toList, c, vals_of_at (by rw [List.length_map, Array.length_toList, Array.length_toList, hacc.1]) (fun j x u hx hu => ?_), by simpa using hS⟩, rfl, q _ (I.hok.fresh (Nat.le_refl _))⟩
  obtain ⟨cc, u', hc', rfl⟩ := hacc.2 j u (by simpa using hu)
  rw [List.getElem?_map] at hx
  have : z.cps.toList[j]? = some cc := by simpa using hc'
  rw [this] at hx
  cases hx
  exact ⟨_, rfl⟩
theorem fd_list (hc : X.calm = true) : FnD X (.type "list") listD := by
  intro pins s σ H xs us Q I r ⟨B, ds, F, z, hs, o, hf, q⟩
  unfold listD at hf
  split at hf
  · split at hf <;> cases hf
    rename_i hz
    obtain ⟨w, F', rfl, o1⟩ := owns_one o
    obtain ⟨a, vs, K1, rfl, h1, h2, t1⟩ := lst_sql (K := X.K) hs o1
    obtain rfl := t1.nil_of hz
    exact call_list_of pins s σ H _ us Q I r ⟨a, vs, rfl, .inl h2, fun l hl => q _ _ _ _ (New.lst hs t1 hl)⟩
  · split at hf <;> cases hf
    rename_i hz
    obtain ⟨w, F', rfl, o1⟩ := owns_one o
    obtain ⟨a, vs, rfl, h2, t1⟩ := tup_sqt (K := X.K) hs o1
    obtain rfl := t1.nil_of hz
    exact call_list_of pins s σ H _ us Q I r ⟨a, vs, rfl, .inr h2, fun l hl => q _ _ _ _ (New.lst hs t1 hl)⟩
  · split at hf <;> cases hf
    rename_i s' hz
    obtain ⟨w, F', rfl, o1⟩ := owns_one o
    obtain ⟨rfl, _⟩ := own_str o1
    refine call_listS hc pins s σ H _ us Q I r ⟨_, rfl, by rw [S_len]; exact hz, fun l hl => q _ _ _ _ (New.lst hs ?_ hl)⟩
    rw [S_list]
    clear hz o o1 q r
    induction s' with
    | nil => exact .nil
    | cons c t ih => exact .cons (F := []) (.atom rfl) ih
  · cases hf
theorem fd_tuple : FnD X (.type "tuple") tupleD := by
  intro pins s σ H xs us Q I r ⟨B, ds, F, z, hs, o, hf, q⟩
  unfold tupleD at hf
  split at hf
  · split at hf <;> cases hf
    rename_i hz
    obtain ⟨w, F', rfl, o1⟩ := owns_one o
    obtain ⟨a, vs, K1, rfl, h1, h2, t1⟩ := lst_sql (K := X.K) hs o1
    obtain rfl := t1.nil_of hz
    exact call_tuple_of pins s σ H _ us Q I r ⟨a, vs, rfl, .inl ⟨h2, fun l hl => q _ _ _ _ (New.tup hs t1 hl)⟩⟩
  · split at hf <;> cases hf
    rename_i hz
    obtain ⟨w, F', rfl, o1⟩ := owns_one o
    obtain rfl := o1.nil_of (by simp [D.frz, hz])
    obtain ⟨a, vs, e, h2, t1⟩ := tup_sqt (K := X.K) hs o1
    subst e
    exact call_tuple_of pins s σ H _ us Q I r ⟨a, vs, rfl, .inr ⟨h2, q _ B H [] (New.flat hs o1)⟩⟩
  · cases hf
theorem own_ty_of {B H : Hp} {v : V} {d : D} {F : List Addr} {t : String} (hs : ∀ a o, B a = some o → H a = some o) (o : Own X.ev B H v d F) (h : tyName d = some t) : TyX X.K H v (.type t) := by
  cases d <;> simp only [tyName, Option.some.injEq] at h <;> (try cases h)
  · obtain ⟨rfl, _⟩ := own_non o; exact .base .non
  · obtain ⟨rfl, _⟩ := own_bl o; exact .base (.bl _)
  · obtain ⟨rfl, _⟩ := own_int o; exact .base (.int _)
  · obtain ⟨rfl, _⟩ := own_str o; exact .base (.str _)
  · obtain ⟨a, vs, G, rfl, h1, _⟩ := own_lst hs o; exact .base (.lst h1)
  · obtain ⟨a, vs, rfl, _, h1, _⟩ := own_tup hs o; exact .base (.tup h1)
  · rename_i o' kvs
    have key : ∀ {Y : Hp} {vs : List V} {A : List Addr}, (∀ a u, Y a = some u → H a = some u) → Shape X.ev Y v (.dic o' kvs) vs A → TyX X.K H v (.type "dict") := fun hy s => by
      cases v <;> simp only [Shape] at s
      obtain ⟨_, _, s⟩ := s
      rcases s with ⟨ks, _, s⟩ | ⟨ks, _, s⟩
      · exact .base (.dK (hy _ _ s))
      · exact .base (.dT (hy _ _ s))
    cases o with
    | atom h => cases v <;> simp [Atom] at h
    | fro _ s _ _ => exact key hs s
    | own _ s _ => exact key (fun _ _ h => h) s
theorem fd_isi : FnD X (.builtin "isinstance") isiD := by
  intro pins s σ H xs us Q I r ⟨B, ds, F, z, hs, o, hf, q⟩
  unfold isiD at hf
  split at hf
  · rename_i d n
    obtain ⟨w, w', F1, F2, rfl, o1, o2⟩ := owns_two o
    obtain ⟨rfl, _⟩ := own_ty o2
    unfold isiB at hf
    cases ht : tyName d with
    | none => rw [ht] at hf; cases hf
    | some t =>
      rw [ht] at hf
      cases hk : kitB t n with
      | none => simp only [hk, Option.map_none] at hf; cases hf
      | some b =>
        simp only [hk, Option.map_some, Option.some.injEq] at hf
        subst hf
        exact call_isi pins s σ H _ us Q I r ⟨w, _, _, _, b, rfl, .ty n, own_ty_of hs o1 ht, hk, q _ B H [] (New.flat hs (.atom rfl))⟩
  · cases hf
end
end Eng
/-! Eng16: short words for what a program prints. -/
namespace Eng
open PySem PySem.Spec PyProof.Rows L2

structure FunAt (K : PySem.W.Frag) (mg : Str → Option Value) (x : Str) (st : Stmt) : Prop where
  ex : ∃ f fd, mg x = some (.ref f) ∧ Fun K x x st f fd
structure DefOk (P : Program) (w : World) (K : PySem.W.Frag) (mg : Str → Option Value) (base : Heap) (k np : Nat) (x : Str) (ps : List Str) (g : List D → Fo) : Prop where
  ex : ∃ f fd, mg x = some (.ref f) ∧ PySem.W.keepIn K (.ref f) = true ∧ Binds K fd ps [] ∧ FnOk P w K mg base (L2.CX P w) k f fd ps (spD ⟨mg, K, none⟩ np g)
  len : ∀ ds : List D, ds.length ≠ np → g ds = .stuck
section
variable {P : Program} {w : World} {K : PySem.W.Frag} {mg : Str → Option Value} {base : Heap}
theorem funAt_mk {x : Str} {st : Stmt} {h : Heap} {f : Addr} {oc : Value} {od an : Option Addr} {osl : Array (Option Value)} {kV doc pm cdv ct : Value} (X : K.In h) (G : h.Ns mainGlobals mg)
    (a : PySem.W.nsIn K mainGlobals x = some (some (.ref f))) (l : K.lookup f = some ⟨oc, od, .func (PySem.W.fnOf x x (defArgs st) (defBody st) (defScope st) .none kV doc pm an cdv ct), osl⟩)
    (c : PySem.W.codeIn K cdv x = true) (k : PySem.W.keepIn K (.ref f) = true) : FunAt K mg x st := ⟨f, _, PySem.W.mg_of X G a, fun_mk l c k⟩
theorem def_okD {x : Str} {st : Stmt} {N ps : List Str} {k np nl : Nat} {kp : List Nat} {m : MS} (FA : FunAt K mg x st) (S : FnScope N ps (defScope st)) (hp : ps.length = np) (hN : N.length = np + nl)
    (hb : ∀ (kV doc pm : Value) (an : Option Addr) (cdv ct : Value) (us : List Value), us.length = ps.length → bindArgs (PySem.W.fnOf x x (defArgs st) (defBody st) (defScope st) .none kV doc pm an cdv ct) ⟨us, []⟩ = pure (ps.zip us))
    (hbody : ∀ (f : Addr) (cdv : Value) (A : Around) (outer : List Env) (s : Shared) (H : Hp) (E : XK), Room k (A.deeper (envOfC x (defScope st) s.heap.objs.size f cdv)) →
      PDSs (cxOf (L2.CX P w) P w K mg base N x (defScope st) f cdv A outer s H E) (fun cls d _ H => E cls d H) kp (defBody st) m) : DefOk P w K mg base (k + 1) np x ps (runF kp np nl m) := by
  obtain ⟨f, fd, e, F⟩ := FA.ex
  exact ⟨⟨f, fd, e, F.kp, F.binds hb, def_ok F S hp hN fun cdv A outer s H E hr => hbody f cdv A outer s H E hr⟩, fun ds h => runF_len ds h⟩
end
section
variable {X : Cx} {W : WX} {kp : List Nat} {alt sep a1 a2 s1 s2 : Bool} {pos p : Pos} {e ea eb : Expr} {es : List Expr} {m ma mb : M D} {ms : M (List ArgV)} {x : Str}
theorem d_callD {k np : Nat} {ps : List Str} {g : List D → Fo} (Dd : DefOk X.prog X.w X.K X.mg X.base k np x ps g) (hr : Room k X.A) (tk : Takes X W) (ha : PDA X W alt (e :: es) ms) (hg : Gl X x := by rfl) (hdb : (x == ("__debug__" : Str)) = false := by decide)
    (he : starEach (e :: es) X.env = (false, eval e X.env) :: starEach es X.env := by rfl) (hpl : (backTo pos (starEach es X.env)).any (·.1) = false := by rfl) : PD X W true true (.Call (.Name x p) (e :: es) [] pos) (eCall g ms) := by
  obtain ⟨f, fd, hm, hk, hb, F⟩ := Dd.ex
  exact d_call F Dd.len hr hm hk hb tk ha hg hdb he hpl
/-- a statement that is never come to -/
def sNo : MS := fun _ => .stuck
theorem s_no {st : Stmt} : PDS X W kp st sNo := PS.weak ps_never fun D σ H ⟨B, ρ, U, st, k⟩ => k.elim
theorem d_ty {n : String} (hg : Gl X x) (hm : X.mg x = none) (hv : bootBuiltins x = some (.type n)) (hn : x ≠ "__name__" := by decide) (hd : (x == ("__debug__" : Str)) = false := by decide) : PD X W false true (.Name x pos) (eK (.ty n)) :=
  d_atom (v := .ty n) (pe_bltn (v := .ty n) hg hm hv rfl hn hd) fun _ => rfl
/-- a module's text -/
theorem d_gstr {z : Str} {s : List Nat} (hm : ∃ t, X.mg x = some (.str z t)) (hz : z.cps.toList = s := by rfl) (hg : Gl X x := by rfl) (hd : (x == ("__debug__" : Str)) = false := by decide) : PD X W false true (.Name x pos) (eK (.str s)) := by
  obtain ⟨t, hm⟩ := hm
  exact d_glob hg hm (v := .str z) ⟨t, rfl⟩ (fun _ => hz) hd
theorem d_gint {i : Int} (hm : ∃ t, X.mg x = some (.int i t)) (hg : Gl X x := by rfl) (hd : (x == ("__debug__" : Str)) = false := by decide) : PD X W false true (.Name x pos) (eK (.int i)) := by
  obtain ⟨t, hm⟩ := hm
  exact d_glob hg hm (v := .int i) ⟨t, rfl⟩ (fun _ => rfl) hd
/-! x op= e -/
def iaddD : D → D → Option D
  | .int i, .int j => some (.int (i + j))
  | .str s, .str t => if s.length + t.length ≤ 16777216 then some (.str (s ++ t)) else none
  | _, _ => none
theorem od_iadd : OpD X (inplaceOp .Add) iaddD := by
  intro pins s σ H x y v u Q I r1 r2 ⟨B, d, e, F, G, z, hs, o1, o2, hf, q⟩
  unfold iaddD at hf
  split at hf
  · cases hf
    obtain ⟨rfl, rfl⟩ := own_int o1
    obtain ⟨rfl, rfl⟩ := own_int o2
    exact iop_add pins s σ H _ _ v u Q I r1 r2 ⟨_, _, rfl, rfl, q _ B H [] (New.flat hs (.atom rfl))⟩
  · split at hf <;> cases hf
    obtain ⟨rfl, rfl⟩ := own_str o1
    obtain ⟨rfl, rfl⟩ := own_str o2
    exact iop_add_str pins s σ H _ _ v u Q I r1 r2 ⟨_, _, rfl, rfl, by rw [S_len, S_len]; assumption, by rw [S_app]; exact q _ B H [] (New.flat hs (.atom (S_list _)))⟩
  · cases hf
theorem od_isub : OpD X (inplaceOp .Sub) subD := by
  intro pins s σ H x y v u Q I r1 r2 ⟨B, d, e, F, G, z, hs, o1, o2, hf, q⟩
  unfold subD at hf
  split at hf <;> cases hf
  obtain ⟨rfl, rfl⟩ := own_int o1
  obtain ⟨rfl, rfl⟩ := own_int o2
  exact iop_sub pins s σ H _ _ v u Q I r1 r2 ⟨_, _, rfl, rfl, q _ B H [] (New.flat hs (.atom rfl))⟩
def sAug (i : Nat) (f : D → D → Option D) (m : M D) : MS := fun ρ => match ρ[i]? with
  | some (some d0) => if d0.frz then ofRes (m ρ) (fun d ρ1 => match f d0 d with
      | some z => .nx (ρ1.set i (some z))
      | none => .stuck) else .stuck
  | _ => .stuck
theorem s_aug {i : Nat} {op : Operator} {f : D → D → Option D} {pos' : Pos} (ho : OpD X (inplaceOp op) f) (h : PD X W alt sep e m)
    (hp : PS X (.AugAssign (.Name x pos') op e pos) (tAug i (tE X.ev W alt sep m) (fun x y H Q => ∃ B d e F G z, (∀ a o, B a = some o → H a = some o) ∧ Own X.ev B H x d F ∧ Own X.ev B H y e G ∧ f d e = some z ∧ ∀ w B' H' K, New X.ev B H w z B' H' K → Q w H'))) (hk : i ∉ kp := by decide) : PDS X W kp (.AugAssign (.Name x pos') op e pos) (sAug i f m) :=
  PS.weak hp fun D σ H ⟨B, ρ, U, st, k⟩ => by
    dsimp only [sAug] at k
    cases hr : ρ[i]? with
    | none => rw [hr] at k; exact k.elim
    | some o =>
    cases o with
    | none => rw [hr] at k; exact k.elim
    | some d0 =>
    rw [hr] at k
    dsimp only at k
    by_cases hf : d0.frz = true
    case neg => rw [if_neg hf] at k; exact k.elim
    rw [if_pos hf] at k
    obtain ⟨v0, F0, U0, e0, o0, _, _, _⟩ := st.take hr
    obtain rfl := o0.nil_of hf
    refine ⟨v0, e0, B, ρ, U, st, ?_⟩
    cases hm : m ρ with
    | exc x ρ1 => rw [hm] at k; exact excS.toW k
    | stuck => rw [hm] at k; exact k
    | ok d ρ1 =>
    rw [hm] at k
    intro v B1 H1 U1 F p
    dsimp only [ofRes] at k
    cases hz : f d0 d with
    | none => rw [hz] at k; exact k.elim
    | some z =>
    rw [hz] at k
    refine ⟨B1, d0, d, [], F, z, p.st.sub, o0.mono p.step.bs fun _ z => absurd z (by simp), p.own, hz, fun w B' H' K nw => ?_⟩
    obtain ⟨U2, q⟩ := put_slot (p.fin nw) hk
    exact k _ B' H' U2 q
/-! comparisons in a chain -/
def eCh (f f' : D → D → Option D) (ma mb mc : M D) : M D := mBind ma fun d => mBind mb fun e => mBind (mOpt (f d e)) fun b => match b with
  | .bl true => mBind mc fun g => mOpt (f' e g)
  | .bl false => mPure (.bl false)
  | _ => mStuck
theorem ch_core {f f' : D → D → Option D} {a3 s3 : Bool} {mc : M D} (hc : (!a2 || s1) = true) (h3 : (!a3 || s2) = true) : ∀ σ H Q, tE X.ev W (a1 || (a2 || a3)) true (eCh f f' ma mb mc) σ H Q →
    tChain (fun x y H Q => ∃ B d e F G z, (∀ a o, B a = some o → H a = some o) ∧ Own X.ev B H x d F ∧ Own X.ev B H y e G ∧ f d e = some z ∧ ∀ w B' H' K, New X.ev B H w z B' H' K → Q w H')
      (fun x y H Q => ∃ B d e F G z, (∀ a o, B a = some o → H a = some o) ∧ Own X.ev B H x d F ∧ Own X.ev B H y e G ∧ f' d e = some z ∧ ∀ w B' H' K, New X.ev B H w z B' H' K → Q w H')
      (tE X.ev W a1 s1 ma) (tE X.ev W a2 s2 mb) (tE X.ev W a3 s3 mc) σ H Q := fun σ H Q ⟨B, ρ, U, st, k⟩ => by
  have hc' : a2 = false ∨ s1 = true := by cases a2 <;> simp_all
  have h3' : a3 = false ∨ s2 = true := by cases a3 <;> simp_all
  refine ⟨B, ρ, U, st, ?_⟩
  dsimp only [eCh, mBind] at k
  cases hm : ma ρ with
  | exc x ρ1 => rw [hm] at k; exact k
  | stuck => rw [hm] at k; exact k
  | ok d ρ1 =>
  rw [hm] at k
  intro v B1 H1 U1 F1 p
  refine ⟨B1, ρ1, U1, p.st, ?_⟩
  dsimp only [Res.bind, mBind] at k
  cases hm2 : mb ρ1 with
  | exc x ρ2 => rw [hm2] at k; exact k.back p.step
  | stuck => rw [hm2] at k; exact k
  | ok d2 ρ2 =>
  rw [hm2] at k
  intro v2 B2 H2 U2 F2 q
  have pq := p.comb q hc'
  obtain ⟨G1, G2, _, o1, o2⟩ := pq.own
  dsimp only [Res.bind, mBind, mOpt] at k
  cases hf : f d d2 with
  | none => rw [hf] at k; exact k.elim
  | some z =>
  rw [hf] at k
  refine ⟨B2, d, d2, G1, G2, z, pq.st.sub, o1, o2, hf, fun w B' H' K nw => ?_⟩
  dsimp only [Res.bind] at k
  cases z with
  | bl b =>
    obtain ⟨rfl, rfl⟩ := own_bl nw.own
    refine ⟨b, rfl, ?_⟩
    have qn : Post X.ev a2 s2 B1 H1 σ ρ1 U1 ρ2 (oV X.ev v2 d2) B' H' U2 F2 := by
      refine ⟨q.st.stepN nw.step, Own.step q.own nw.step fun _ _ h => absurd h (by simp), fun e => ?_, q.step.trans nw.step.none_of, fun e => ?_⟩
      · obtain ⟨sp, n⟩ := q.sep e
        exact ⟨sp.step (Own.there q.own) (nw.step.none_of (U := U2)), n⟩
      · obtain ⟨x, y, z⟩ := q.alt e
        exact ⟨x, y, z.trans nw.step⟩
    cases b with
    | false =>
      have pqn := p.comb2 qn
      exact k _ B' H' U2 [] ⟨pqn.st, .atom rfl, fun _ => ⟨Sep.nil, fun _ h => absurd h (by simp)⟩, pqn.step, fun e => pqn.alt (by
        simp only [Bool.or_eq_false_iff] at e ⊢; exact ⟨e.1, e.2.1⟩)⟩
    | true =>
      dsimp only [mBind] at k
      rw [if_pos rfl]
      refine ⟨B', ρ2, U2, qn.st, ?_⟩
      cases hm3 : mc ρ2 with
      | exc x ρ3 => rw [hm3] at k; exact (k.back p.step).back qn.step
      | stuck => rw [hm3] at k; exact k
      | ok d3 ρ3 =>
      rw [hm3] at k
      intro v3 B3 H3 U3 F3 q3
      dsimp only [Res.bind, mOpt] at k
      have q23 := qn.comb q3 h3'
      obtain ⟨K1, K2, _, o3, o4⟩ := q23.own
      cases hf2 : f' d2 d3 with
      | none => rw [hf2] at k; exact k.elim
      | some z2 =>
        rw [hf2] at k
        exact ⟨B3, d2, d3, K1, K2, z2, q23.st.sub, o3, o4, hf2, fun w B' H' K nw => k w B' H' U3 K ((p.comb2 q23).fin nw)⟩
  | _ => exact k.elim
theorem d_ch {op op' : CmpOp} {f f' : D → D → Option D} {a3 s3 : Bool} {mc : M D} {ec : Expr} (ho : OpD X (compareOp op) f) (ho' : OpD X (compareOp op') f') (ha : PD X W a1 s1 ea ma) (hb : PD X W a2 s2 eb mb) (h : PD X W a3 s3 ec mc)
    (hm : lastMarks [op, op'] [eb, ec] = false := by with_unfolding_all rfl) (hc : (!a2 || s1) = true := by decide) (h3 : (!a3 || s2) = true := by decide) : PD X W (a1 || (a2 || a3)) true (.Compare ea [op, op'] [eb, ec] pos) (eCh f f' ma mb mc) :=
  PE.weak (pe_chain ho ho' ha hb h hm) (ch_core hc h3)
theorem t_ch {op op' : CmpOp} {f f' : D → D → Option D} {a3 s3 : Bool} {mc : M D} {ec : Expr} (ho : OpD X (compareOp op) f) (ho' : OpD X (compareOp op') f') (ha : PD X W a1 s1 ea ma) (hb : PD X W a2 s2 eb mb) (h : PD X W a3 s3 ec mc)
    (hm : lastMarks [op, op'] [eb, ec] = false := by with_unfolding_all rfl) (hc : (!a2 || s1) = true := by decide) (h3 : (!a3 || s2) = true := by decide) : PDT X W (a1 || (a2 || a3)) (.Compare ea [op, op'] [eb, ec] pos) (mB (eCh f f' ma mb mc)) :=
  PT.weak (pt_chain ho ho' ha hb h hm) (bool_core (sep := true) fun σ H Q q => ch_core hc h3 σ H _ q)
/-! s[::-1] of a text -/
def revD : D → Option D
  | .str s => if s.length ≤ 16777216 then some (.str s.reverse) else none
  | _ => none
end
end Eng
/-! Eng17: s[::-1]; isinstance with several types; all, any. -/
namespace Eng
open PySem PySem.Spec PyProof.Rows L2
section
variable {X : Cx} {W : WX} {kp : List Nat} {alt sep a1 a2 s1 s2 : Bool} {pos p : Pos} {e ea eb : Expr} {es : List Expr} {m ma mb : M D} {ms : M (List D)} {x : Str}
def tRevS (te : TE) : TE := fun σ H Q => te σ H fun x H1 => ∃ z : Str, x = .str z ∧ z.length ≤ sizeLine ∧ ∀ y : Str, y.cps.toList = z.cps.toList.reverse → Q (.str y) H1
theorem rev_list (z : Str) (u : Tok) : (Txt.sliceBy z none none (-1, u)).cps.toList = z.cps.toList.reverse := by
  rw [step_rev_list]
  apply List.ext_getElem
  · simp [Str.length]
  · intro i h1 h2
    simp only [List.length_map, List.length_range] at h1
    simp only [List.getElem_map, List.getElem_range, List.getElem_reverse]
    rw [Array.getD_eq_getD_getElem?, Array.getElem?_eq_getElem (by simp only [Str.length] at h1 ⊢; omega)]
    simp [Str.length]
theorem pe_revS {k : Nat} {p1 p2 p3 : Pos} {te : TE} (he : PE X e te) : PE X (.Subscript e (.Slice none none (some (.UnaryOp .USub (.Constant (.int 1) k p1) p2)) p3) pos) (tRevS te) := by
  refine ⟨fun pins s σ H Q I h => Subscript_ (thn (he.run pins s σ H _ I h) fun v s1 ⟨x, H1, I1, r1, z, ex, hz, q⟩ => ?_)⟩
  subst ex
  obtain ⟨t, rfl⟩ := r1
  have hst : PO X (some (.UnaryOp .USub (.Constant (.int 1) k p1) p2)) (tPart (tUn (rU fun i => .int (-i)) (tC (.int 1)))) := po_some (pe_un un_neg pe_int)
  refine wpAny_Slice (thn (po_none.run pins s1 σ H1 (fun o G => o = none ∧ G = H1) I1 ⟨rfl, rfl⟩) fun vl s2 ⟨l, G, I2, pl, el, eG⟩ => ?_)
  subst el eG
  refine thn (po_none.run pins s2 σ G (fun o G' => o = none ∧ G' = G) I2 ⟨rfl, rfl⟩) fun vu s3 ⟨u, G', I3, pu, eu, eG'⟩ => ?_
  subst eu eG'
  refine thn (hst.run pins s3 σ G' (fun o G2 => o = some (-1) ∧ G2 = G') I3 ⟨1, rfl, -1, rfl, rfl, rfl⟩) fun vs s4 ⟨o, G2, I4, ps, eo, eG2⟩ => ?_
  subst eo eG2
  obtain ⟨ol, rfl, hol⟩ := IsPart.raw pl
  obtain ⟨ou, rfl, hou⟩ := IsPart.raw pu
  obtain ⟨os, rfl, hos⟩ := IsPart.raw ps
  cases ol with
  | some _ => cases hol
  | none =>
  cases ou with
  | some _ => cases hou
  | none =>
  cases os with
  | none => cases hos
  | some ot =>
  obtain ⟨i, ti⟩ := ot
  simp only [Option.map_some, Option.some.injEq] at hos
  subst hos
  refine tail_any (ops := [.str z t, .ref s4.heap.objs.size]) (typeIs_str _ _ _) F.slot_str_getitem.lookup ?_ (by with_unfolding_all rfl)
  refine wpAny_getItem_str_slice (l := none) (u := none) (st := some (-1, ti)) ⟨_, Heap.get?_push_size _ rfl, rfl, rfl⟩ rfl ?_
  have hq := q _ (rev_list z ti)
  have hl : (Txt.sliceBy z none none (-1, ti)).length ≤ sizeLine := by rw [step_rev_len]; exact hz
  unfold Txt.sliceBy at hq hl
  unfold sliceMade
  have I5 : Inv X pins σ G2 { s4 with heap := s4.heap.push { cls := .type "slice", data := .fields #[partValue none, partValue none, partValue (some (-1, ti))] } } := I4.kept (t' := s4.toks) fun b ob q => Heap.get?_push_of_some _ q
  split
  · rename_i c
    rw [if_pos c] at hq
    exact ⟨.str z, G2, I5, ⟨t, rfl⟩, hq⟩
  · rename_i c
    rw [if_neg c] at hq hl
    exact ⟨hl, .str _, G2, I5.tok _, ⟨_, rfl⟩, hq⟩
theorem d_rev {k : Nat} {p1 p2 p3 : Pos} (h : PD X W alt sep e m) : PD X W alt true (.Subscript e (.Slice none none (some (.UnaryOp .USub (.Constant (.int 1) k p1) p2)) p3) pos) (eUn revD m) := PE.weak (pe_revS h) fun σ H Q ⟨B, ρ, U, st, k⟩ => by
  refine ⟨B, ρ, U, st, ?_⟩
  dsimp only [eUn, mBind] at k
  cases hm : m ρ with
  | exc x ρ1 => rw [hm] at k; exact k
  | stuck => rw [hm] at k; exact k
  | ok d ρ1 =>
  rw [hm] at k
  intro v B1 H1 U1 F p
  dsimp only [Res.bind, mOpt] at k
  cases d with
  | str s =>
    obtain ⟨rfl, rfl⟩ := own_str p.own
    by_cases hz : s.length ≤ 16777216
    case neg => simp only [revD, if_neg hz] at k
    simp only [revD, if_pos hz] at k
    refine ⟨S s, rfl, by rw [S_len]; exact hz, fun y hy => ?_⟩
    exact k _ B1 H1 U1 [] (p.fin (New.flat p.st.sub (.atom (by show y.cps.toList = s.reverse; rw [hy, S_list]))))
  | _ => exact k.elim
end
end Eng
/-! Eng18: isinstance with several types; all, any. -/
namespace Eng
open PySem PySem.Spec PyProof.Rows L2
def kitAnyB (t : String) : List String → Option Bool
  | [] => some false
  | n :: r => match kitB t n with
    | some true => some true
    | some false => kitAnyB t r
    | none => none
def tysOf : List D → Option (List String)
  | [] => some []
  | .ty n :: r => (tysOf r).map (n :: ·)
  | _ => none
def isi2D : List D → Option D
  | [d, .tup ds] => match tyName d, tysOf ds with
    | some t, some ns => (kitAnyB t ns).map D.bl
    | _, _ => none
  | _ => none
def blsOf : List D → Option (List Bool)
  | [] => some []
  | .bl b :: r => (blsOf r).map (b :: ·)
  | _ => none
def allD : List D → Option D
  | [.lst _ xs] => (blsOf xs).map fun bs => .bl (bs.all id)
  | _ => none
def anyD : List D → Option D
  | [.lst _ xs] => (blsOf xs).map fun bs => .bl (bs.any id)
  | _ => none
section
variable {X : Cx}
theorem kit_anyB {K : PySem.W.Frag} {t : String} : ∀ ns : List String, PySem.W.kitAny K (.type t) (ns.map Value.type) = kitAnyB t ns
  | [] => rfl
  | n :: r => by
    show (match PySem.W.kitOne K (.type t) (.type n) with | some true => some true | some false => PySem.W.kitAny K (.type t) (r.map Value.type) | none => none) = _
    rw [kit_anyB r]
    rfl
theorem owns_tys {mg : Ev} {B H : Hp} : ∀ {vs : List V} {ds : List D} {F : List Addr} {ns : List String}, Owns mg B H vs ds F → tysOf ds = some ns → Paired ClsV vs (ns.map Value.type)
  | _, _, _, ns, .nil, h => by simp [tysOf] at h; subst h; exact .nil
  | _, _, _, ns, .cons (d := d) a r, h => by
    cases d <;> simp only [tysOf] at h <;> try cases h
    obtain ⟨ns', h', rfl⟩ := Option.map_eq_some_iff.mp h
    obtain ⟨rfl, _⟩ := own_ty a
    exact .cons (.ty _) (owns_tys r h')
theorem fd_isi2 : FnD X (.builtin "isinstance") isi2D := by
  intro pins s σ H xs us Q I r ⟨B, ds, F, z, hs, o, hf, q⟩
  unfold isi2D at hf
  split at hf
  · rename_i d es
    obtain ⟨w, w', F1, F2, rfl, o1, o2⟩ := owns_two o
    obtain ⟨a, vs, rfl, _, h1, t1⟩ := own_tup hs o2
    split at hf
    · rename_i t ns ht hn
      obtain ⟨b, hb, rfl⟩ := Option.map_eq_some_iff.mp hf
      exact call_isiT pins s σ H _ us Q I r ⟨w, a, vs, _, _, b, rfl, h1, owns_tys t1 hn, own_ty_of hs o1 ht, by rw [kit_anyB]; exact hb, q _ B H [] (New.flat hs (.atom rfl))⟩
    · cases hf
  · cases hf
theorem owns_bls {mg : Ev} {B H : Hp} : ∀ {vs : List V} {ds : List D} {F : List Addr} {bs : List Bool}, Owns mg B H vs ds F → blsOf ds = some bs → vs = bs.map V.bl
  | _, _, _, bs, .nil, h => by simp [blsOf] at h; subst h; rfl
  | _, _, _, bs, .cons (d := d) a r, h => by
    cases d <;> simp only [blsOf] at h <;> try cases h
    obtain ⟨bs', h', rfl⟩ := Option.map_eq_some_iff.mp h
    obtain ⟨rfl, _⟩ := own_bl a
    rw [owns_bls r h']; rfl
theorem fd_all (hc : X.calm = true) : FnD X (.builtin "all") allD := by
  intro pins s σ H xs us Q I r ⟨B, ds, F, z, hs, o, hf, q⟩
  unfold allD at hf
  split at hf
  · obtain ⟨bs, hb, rfl⟩ := Option.map_eq_some_iff.mp hf
    obtain ⟨w, F', rfl, o1⟩ := owns_one o
    obtain ⟨a, vs, K1, rfl, h1, h2, t1⟩ := lst_sql (K := X.K) hs o1
    obtain rfl := owns_bls t1 hb
    exact cr_all hc pins s σ H _ us Q I r ⟨a, bs, rfl, h2, q _ B H [] (New.flat hs (.atom rfl))⟩
  · cases hf
theorem fd_any (hc : X.calm = true) : FnD X (.builtin "any") anyD := by
  intro pins s σ H xs us Q I r ⟨B, ds, F, z, hs, o, hf, q⟩
  unfold anyD at hf
  split at hf
  · obtain ⟨bs, hb, rfl⟩ := Option.map_eq_some_iff.mp hf
    obtain ⟨w, F', rfl, o1⟩ := owns_one o
    obtain ⟨a, vs, K1, rfl, h1, h2, t1⟩ := lst_sql (K := X.K) hs o1
    obtain rfl := owns_bls t1 hb
    exact cr_any hc pins s σ H _ us Q I r ⟨a, bs, rfl, h2, q _ B H [] (New.flat hs (.atom rfl))⟩
  · cases hf
end
end Eng
/-! Eng19: words that a printer uses. -/
namespace Eng
open PySem PySem.Spec PyProof.Rows L2
theorem uz {k : Nat} {A : Around} (r : Room k A) : A.units + 64 < cLine := by
  have := r.un
  omega
theorem def_none {P : Program} {w : World} {K : PySem.W.Frag} {mg : Str → Option Value} {base : Heap} {x : Str} {st : Stmt} {ps : List Str} {k np : Nat} (FA : FunAt K mg x st) (hp : ps.length = np)
    (hb : ∀ (kV doc pm : Value) (an : Option Addr) (cdv ct : Value) (us : List Value), us.length = ps.length → bindArgs (PySem.W.fnOf x x (defArgs st) (defBody st) (defScope st) .none kV doc pm an cdv ct) ⟨us, []⟩ = pure (ps.zip us)) : DefOk P w K mg base k np x ps (fun _ => .stuck) := by
  obtain ⟨f, fd, e, F⟩ := FA.ex
  refine ⟨⟨f, fd, e, F.kp, F.binds hb, ⟨fun vs H Q E h => by rw [hp]; exact h.1, fun A outer s H args us vs Q E hr E0 b v h => ?_⟩⟩, fun _ _ => rfl⟩
  obtain ⟨_, _, _, _, _, z⟩ := h
  exact z.elim
theorem hkp_of {N : List Str} (vs : List Nat) {kp : List Nat} (h : (List.range N.length).all (fun i => decide (i ∈ vs) || decide (i ∈ kp)) = true) : ∀ i, i < N.length → i ∉ vs → i ∈ kp := fun i hi hv => by
  have := List.all_eq_true.mp h i (List.mem_range.mpr hi)
  simpa [hv] using this
section
variable {X : Cx} {W : WX} {kp : List Nat} {alt sep a1 a2 s1 s2 : Bool} {pos p apos cpos pos' : Pos} {e ea eb : Expr} {es : List Expr} {m ma mb : M D} {ms : M (List D)} {x : Str}
theorem l_consT (h : PD X W a1 true e m) (t : PDL X W a2 true es ms) (hs : starEach (e :: es) X.env = (false, eval e X.env) :: starEach es X.env := by rfl) : PDL X W (a1 || a2) true (e :: es) (lCons m ms) :=
  l_cons h t hs (by cases a2 <;> rfl)
theorem d_ifT {a3 : Bool} {ec : Expr} {m1 : M Bool} (hc : PDT X W a1 ec m1) (ha : PD X W a2 true ea ma) (hb : PD X W a3 true eb mb) : PD X W (a1 || (a2 || a3)) true (.IfExp ec ea eb pos) (eIf m1 ma mb) := d_if hc ha hb
theorem s_let (i : Nat) (hN : X.N.Nodup) (h : PD X W alt true e m) (hi : X.N[i]? = some x := by rfl) (hx : Loc X.env.scope x := by first | exact .inl rfl | exact .inr rfl)
    (hs : swapsWith e (some (.Name x pos')) pos.line X.env = pure false := by rfl) (hf : X.fn x = true ∨ X.env.scope.names.lookup x = some .local := by first | exact .inl rfl | exact .inr rfl | assumption) (hk : i ∉ kp := by decide) : PDS X W kp (.Assign [.Name x pos'] e pos) (sSet i m) :=
  s_set (ps_set hN hi hx h hs hf) hk
theorem s_app (i : Nat) (h : PD X W alt true e m) (hN : X.N[i]? = some x := by rfl) (hv : Vis X.env.scope x := by first | exact Or.inl rfl | exact Or.inr (Or.inl rfl) | exact Or.inr (Or.inr rfl)) (hd : (x == ("__debug__" : Str)) = false := by decide)
    (hcd : (x == ("__classdict__" : Str)) = false := by decide)
    (hbase : attributeBase (.Name x pos) "append" X.env (eval (.Name x pos) X.env) = eval (.Name x pos) X.env := by rfl)
    (hfew : ((backTo cpos (starEach [e] X.env)).all (fun x => !x.1) && (backToKw cpos (keywordEach [] X.env)).all (fun x => x.1.isSome)
      && decide ([e].length + ([] : List Keyword).length + (if ([] : List Keyword).isEmpty then 0 else 1) < 30)) = true := by rfl)
    (hline : (apos.endLine == cpos.line) = true := by rfl) (hs : starEach [e] X.env = (false, eval e X.env) :: starEach [] X.env := by rfl) (hplain : (backTo cpos (starEach [] X.env)).any (·.1) = false := by rfl) :
    PD X W true true (.Call (.Attribute (.Name x pos) "append" apos) [e] [] cpos) (eApp i m) :=
  d_app i (pe_bm PySem.F.plainAttrs_list PySem.F.slot_list_append PySem.F.type_list_append mt_append (pe_var hN hv hd hcd) (pa_cons h pa_nil hs) hbase hfew hline hs hplain)
theorem s_pop (i : Nat) (hN : X.N[i]? = some x := by rfl) (hv : Vis X.env.scope x := by first | exact Or.inl rfl | exact Or.inr (Or.inl rfl) | exact Or.inr (Or.inr rfl)) (hd : (x == ("__debug__" : Str)) = false := by decide)
    (hcd : (x == ("__classdict__" : Str)) = false := by decide)
    (hbase : attributeBase (.Name x pos) "pop" X.env (eval (.Name x pos) X.env) = eval (.Name x pos) X.env := by rfl)
    (hline : (apos.endLine == cpos.line) = true := by rfl) :
    PD X W true true (.Call (.Attribute (.Name x pos) "pop" apos) [] [] cpos) (ePop i) :=
  d_pop i (pe_bm0 PySem.F.plainAttrs_list PySem.F.slot_list_pop PySem.F.type_list_pop mt_pop (pe_var hN hv hd hcd) hbase hline)
theorem s_at (i : Nat) (hb : PD X W a2 s2 eb mb) (ha : PD X W a1 true ea ma) (hN : X.N[i]? = some x := by rfl) (hv : Vis X.env.scope x := by first | exact Or.inl rfl | exact Or.inr (Or.inl rfl) | exact Or.inr (Or.inr rfl)) (hd : (x == ("__debug__" : Str)) = false := by decide)
    (hcd : (x == ("__classdict__" : Str)) = false := by decide)
    (hg : ∀ v, assign (.Subscript (.Name x pos) eb apos) X.env v = (do
      let ov ← holding [v] (eval (.Name x pos) X.env)
      let iv ← holding [v, ov] (eval eb X.env)
      standAt apos
      holding [v, ov, iv] (setItem ov iv v)
      release [v, ov, iv] []) := by intro _; rfl)
    (hs : swapsWithSole [.Subscript (.Name x pos) eb apos] ea cpos.line X.env = pure false := by rfl) (hw : swappedStores [.Subscript (.Name x pos) eb apos] ea X.env = pure none := by rfl)
    (h1 : (assignEach [.Subscript (.Name x pos) eb apos] X.env).map (·.2) = [assign (.Subscript (.Name x pos) eb apos) X.env] := by rfl) : PDS X W kp (.Assign [.Subscript (.Name x pos) eb apos] ea cpos) (sSetIx i mb ma) :=
  s_setIx i (ps_asg ha (pg_sub (pe_var hN hv hd hcd) hb set_list hg) hs hw h1)
theorem s_inc (i : Nat) {op : Operator} {f : D → D → Option D} (ho : OpD X (inplaceOp op) f) (hN : X.N.Nodup) (h : PD X W alt sep e m) (hi : X.N[i]? = some x := by rfl) (hx : Loc X.env.scope x := by first | exact .inl rfl | exact .inr rfl) (hf : X.fn x = true ∨ X.env.scope.names.lookup x = some .local := by first | exact .inl rfl | exact .inr rfl | assumption)
   (hk : i ∉ kp := by decide) : PDS X W kp (.AugAssign (.Name x pos') op e pos) (sAug i f m) :=
  s_aug ho h (ps_aug hN hi hx h ho) hk
end
end Eng
/-! Eng20: the law's own end. -/
namespace Eng
open PySem PySem.Spec PyProof.Rows L2
def spLaw (K : PySem.W.Frag) : Sp := fun vs H Q _ => ∃ (a : Addr) (ns : List Int), vs = [.ref a] ∧ SqL K H a (ns.map V.int) ∧ ns.length ≤ 63 ∧ ∀ H', Q (.bl true) H'
theorem law_end {P : Program} {w : World} {K : PySem.W.Frag} {mg : Str → Option Value} {base : Heap} {k : Nat} {fa : Addr} {fd : FuncData} {g : List D → Fo}
    (F : FnOk P w K mg base (L2.CX P w) k fa fd ["script"] (spD ⟨mg, K, none⟩ 1 g)) (hp : ∀ ns : List Int, ns.length ≤ 63 → ∃ ps, g [.scr ns] = .ok (.bl true) ps) : FnOk P w K mg base (L2.CX P w) k fa fd ["script"] (spLaw K) :=
  F.imp fun vs H Q E ⟨a, ns, e, hS, hl, q⟩ => by
    subst e
    refine ⟨rfl, H, [.scr ns], [], ?_, ?_⟩
    · exact Sta.push (v := .ref a) (d := .scr ns) (F := []) (Sta.nil fun _ _ h => h) (.atom hS) Sep.nil
    · obtain ⟨ps, e⟩ := hp ns hl
      rw [e]
      intro v B' H' U' F' st o _ _ _
      obtain ⟨rfl, _⟩ := own_bl o
      exact q H'
theorem law_cx {P : Program} {w : World} {H : Hp} {s : Shared} {e : Value} {s' : Shared} (h : L2.CX P w [] H s (fun _ _ _ => False) e s') : False := by
  obtain ⟨_, _, _, _, _, _, _, _, _, _, _, _, z⟩ := h
  exact z
theorem gsStr {K : PySem.W.Frag} {h : Heap} {mg : Str → Option Value} {x z : Str} {t : Tok} (X : K.In h) (G : h.Ns mainGlobals mg) (a : PySem.W.nsIn K mainGlobals x = some (some (.str z t))) : ∃ t, mg x = some (.str z t) := ⟨t, PySem.W.mg_of X G a⟩
theorem gsInt {K : PySem.W.Frag} {h : Heap} {mg : Str → Option Value} {x : Str} {z : Int} {t : Tok} (X : K.In h) (G : h.Ns mainGlobals mg) (a : PySem.W.nsIn K mainGlobals x = some (some (.int z t))) : ∃ t, mg x = some (.int z t) := ⟨t, PySem.W.mg_of X G a⟩
end Eng
/-! Eng21: the mirror's outcomes, goal by goal. -/
namespace Eng
open PySem PySem.Spec PyProof.Rows L2
def W {α : Type} (m : M α) (ρ : Rho) (E : Exc → Rho → Prop) (Q : α → Rho → Prop) : Prop := match m ρ with
  | .ok d ρ' => Q d ρ'
  | .exc e ρ' => E e ρ'
  | .stuck => False
def WS (m : MS) (ρ : Rho) (Q : Out → Prop) : Prop := Q (m ρ)
def WO {α : Type} (o : Option α) (Q : α → Prop) : Prop := ∃ c, o = some c ∧ Q c
def WF (o : Fo) (E : Exc → List (Option D) → Prop) (Q : D → List (Option D) → Prop) : Prop := match o with
  | .ok d ps => Q d ps
  | .exc e ps => E e ps
  | .stuck => False
def Get (i : Nat) (ρ : Rho) (Q : D → Prop) : Prop := ∃ d, ρ[i]? = some (some d) ∧ Q d
def GetF (i : Nat) (ρ : Rho) (Q : D → Prop) : Prop := ∃ d, ρ[i]? = some (some d) ∧ d.frz = true ∧ Q d
def Put (i : Nat) (o : Option D) (ρ : Rho) (Q : Rho → Prop) : Prop := Q (ρ.set i o)
def Bif (b : Bool) (A B : Prop) : Prop := if b = true then A else B
def IsBl (d : D) (Q : Bool → Prop) : Prop := ∃ b, d = .bl b ∧ Q b
def IsFz (d : D) (Q : Prop) : Prop := d.frz = true ∧ Q
def Then (n : MS) (Q : Out → Prop) (o : Out) : Prop := match o with
  | .nx ρ => WS n ρ Q
  | o => Q o
theorem W.imp {α : Type} {m : M α} {ρ : Rho} {E E' : Exc → Rho → Prop} {Q Q' : α → Rho → Prop} (h : W m ρ E Q) (hE : ∀ e ρ, E e ρ → E' e ρ) (hQ : ∀ d ρ, Q d ρ → Q' d ρ) : W m ρ E' Q' := by
  unfold W at *
  split at h
  · exact hQ _ _ h
  · exact hE _ _ h
  · exact h
section
variable {α : Type} {ρ : Rho} {E : Exc → Rho → Prop} {Q : D → Rho → Prop} {QB : Bool → Rho → Prop} {QL : List D → Rho → Prop} {QA : List ArgV → Rho → Prop} {QO : Option Int → Rho → Prop} {R : Out → Prop} {m ma mb : M D} {mc md : M Bool} {ms : M (List D)} {as : M (List ArgV)} {n n' : MS} {i : Nat} {d : D}
theorem w_bind {β : Type} {m : M α} {k : α → M β} {Q : β → Rho → Prop} (h : W m ρ E fun a ρ1 => W (k a) ρ1 E Q) : W (mBind m k) ρ E Q := by
  unfold W mBind at *
  cases hm : m ρ <;> rw [hm] at h <;> exact h
theorem w_pure {a : α} {Q : α → Rho → Prop} (h : Q a ρ) : W (mPure a) ρ E Q := h
theorem w_opt {o : Option α} {Q : α → Rho → Prop} (h : WO o fun a => Q a ρ) : W (mOpt o) ρ E Q := by
  obtain ⟨c, rfl, q⟩ := h
  exact q
theorem w_pk (h : Get i ρ fun d => Q d ρ) : W (ePk i) ρ E Q := by
  obtain ⟨d, e, q⟩ := h
  unfold W ePk
  rw [e]
  exact q
theorem w_fz (h : W m ρ E fun d ρ1 => IsFz d (Q d ρ1)) : W (eFz m) ρ E Q := by
  unfold W eFz at *
  cases hm : m ρ with
  | ok d ρ' =>
    rw [hm] at h
    obtain ⟨f, q⟩ := h
    simp only [f, if_true]
    exact q
  | exc e ρ' => rw [hm] at h; exact h
  | stuck => rw [hm] at h; exact h
theorem w_var (h : GetF i ρ fun d => Q d ρ) : W (eVar i) ρ E Q := by
  obtain ⟨d, e, f, q⟩ := h
  exact w_fz (w_pk ⟨d, e, f, q⟩)
theorem w_mov (h : Get i ρ fun d => Put i none ρ fun ρ1 => Q d ρ1) : W (eMov i) ρ E Q := by
  obtain ⟨d, e, q⟩ := h
  unfold W eMov
  rw [e]
  exact q
theorem w_k (h : Q d ρ) : W (eK d) ρ E Q := h
theorem w_op {f : D → D → Option D} (h : W ma ρ E fun a ρ1 => W mb ρ1 E fun b ρ2 => WO (f a b) fun c => Q c ρ2) : W (eOp f ma mb) ρ E Q :=
  w_bind (h.imp (fun _ _ h => h) fun _ _ h => w_bind (h.imp (fun _ _ h => h) fun _ _ h => w_opt h))
theorem w_un {f : D → Option D} (h : W m ρ E fun a ρ1 => WO (f a) fun c => Q c ρ1) : W (eUn f m) ρ E Q := w_bind (h.imp (fun _ _ h => h) fun _ _ h => w_opt h)
theorem w_fn {f : List D → Option D} (h : W ms ρ E fun a ρ1 => WO (f a) fun c => Q c ρ1) : W (eFn f ms) ρ E Q := w_bind (h.imp (fun _ _ h => h) fun _ _ h => w_opt h)
theorem w_lst (h : W ms ρ E fun ds ρ1 => ds.length ≤ 100000 ∧ Q (.lst true ds) ρ1) : W (eLst ms) ρ E Q := w_bind (h.imp (fun _ _ h => h) fun ds _ h => w_opt ⟨_, if_pos h.1, h.2⟩)
theorem w_tup (h : W ms ρ E fun ds ρ1 => ds.length ≤ 100000 ∧ Q (.tup ds) ρ1) : W (eTup ms) ρ E Q := w_bind (h.imp (fun _ _ h => h) fun ds _ h => w_opt ⟨_, if_pos h.1, h.2⟩)
theorem w_lnil (h : QL [] ρ) : W lNil ρ E QL := h
theorem w_lcons (h : W m ρ E fun d ρ1 => W ms ρ1 E fun ds ρ2 => QL (d :: ds) ρ2) : W (lCons m ms) ρ E QL := w_bind (h.imp (fun _ _ h => h) fun _ _ h => w_bind h)
theorem w_mt {f : List Nat → List D → Option D} (h : W m ρ E fun d ρ1 => ∃ s, d = .str s ∧ W ms ρ1 E fun ds ρ2 => WO (f s ds) fun c => Q c ρ2) : W (eMt f m ms) ρ E Q := by
  refine w_bind (h.imp (fun _ _ h => h) fun d _ h => ?_)
  obtain ⟨s, rfl, h⟩ := h
  exact w_bind (h.imp (fun _ _ h => h) fun _ _ h => w_opt h)
theorem w_onone (h : QO none ρ) : W oNone ρ E QO := h
theorem w_osome (h : W m ρ E fun d ρ1 => ∃ i, d = .int i ∧ QO (some i) ρ1) : W (oSome m) ρ E QO := by
  unfold W oSome at *
  cases hm : m ρ with
  | ok d ρ' =>
    rw [hm] at h
    obtain ⟨i, rfl, q⟩ := h
    exact q
  | exc e ρ' => rw [hm] at h; exact h
  | stuck => rw [hm] at h; exact h
theorem w_sl {lo hi : M (Option Int)} (h : W m ρ E fun d ρ1 => W lo ρ1 E fun l ρ2 => W hi ρ2 E fun u ρ3 => WO (slD d l u) fun c => Q c ρ3) : W (eSl m lo hi) ρ E Q :=
  w_bind (h.imp (fun _ _ h => h) fun _ _ h => w_bind (h.imp (fun _ _ h => h) fun _ _ h => w_bind (h.imp (fun _ _ h => h) fun _ _ h => w_opt h)))
theorem w_mb (h : W m ρ E fun d ρ1 => IsBl d fun b => QB b ρ1) : W (mB m) ρ E QB := by
  unfold W mB at *
  cases hm : m ρ with
  | ok d ρ' =>
    rw [hm] at h
    obtain ⟨b, rfl, q⟩ := h
    exact q
  | exc e ρ' => rw [hm] at h; exact h
  | stuck => rw [hm] at h; exact h
theorem w_bo (h : W mc ρ E fun b ρ1 => Q (.bl b) ρ1) : W (eBo mc) ρ E Q := w_bind h
theorem w_mand (h : W mc ρ E fun b ρ1 => Bif b (W md ρ1 E QB) (QB false ρ1)) : W (mAnd mc md) ρ E QB := w_bind (h.imp (fun _ _ h => h) fun b _ h => by cases b <;> exact h)
theorem w_mor (h : W mc ρ E fun b ρ1 => Bif b (QB true ρ1) (W md ρ1 E QB)) : W (mOr mc md) ρ E QB := w_bind (h.imp (fun _ _ h => h) fun b _ h => by cases b <;> exact h)
theorem w_not (h : W mc ρ E fun b ρ1 => QB (!b) ρ1) : W (mNot mc) ρ E QB := w_bind h
theorem w_if (h : W mc ρ E fun b ρ1 => Bif b (W ma ρ1 E Q) (W mb ρ1 E Q)) : W (eIf mc ma mb) ρ E Q := w_bind (h.imp (fun _ _ h => h) fun b _ h => by cases b <;> exact h)
theorem w_yes (h : QB true ρ) : W mYes ρ E QB := h
theorem is_bl {b : Bool} {Q : Bool → Prop} (h : Q b) : IsBl (.bl b) Q := ⟨b, rfl, h⟩
theorem bif_dec {p : Prop} {inst : Decidable p} {A B : Prop} (h1 : p → A) (h2 : ¬p → B) : Bif (decide p) A B := by
  unfold Bif
  by_cases h : p
  · rw [if_pos (decide_eq_true h)]; exact h1 h
  · rw [if_neg (by simpa using h)]; exact h2 h
theorem bif_b {b : Bool} {A B : Prop} (h1 : b = true → A) (h2 : b = false → B) : Bif b A B := by
  unfold Bif
  cases b
  · exact h2 rfl
  · exact h1 rfl
theorem bif_t {A B : Prop} (h : A) : Bif true A B := h
theorem bif_f {A B : Prop} (h : B) : Bif false A B := h
theorem bif_n {b : Bool} {A B : Prop} (h : Bif b B A) : Bif (!b) A B := by cases b <;> exact h
theorem bif_and {b c : Bool} {A B : Prop} (h : Bif b (Bif c A B) B) : Bif (b && c) A B := by cases b <;> exact h
theorem bif_or {b c : Bool} {A B : Prop} (h : Bif b A (Bif c A B)) : Bif (b || c) A B := by cases b <;> exact h
/-! calls -/
theorem w_anil (h : QA [] ρ) : W aNil ρ E QA := h
theorem w_aval (h : W m ρ E fun d ρ1 => W as ρ1 E fun ds ρ2 => QA (.val d :: ds) ρ2) : W (aVal m as) ρ E QA := w_bind (h.imp (fun _ _ h => h) fun _ _ h => w_bind h)
theorem w_alend (h : Get i ρ fun _ => W as ρ E fun ds ρ2 => QA (.lend i :: ds) ρ2) : W (aLend i as) ρ E QA := by
  obtain ⟨d, e, q⟩ := h
  unfold aLend W
  dsimp only
  rw [e]
  exact w_bind q
def Take : List ArgV → Rho → (List D → Rho → Prop) → Prop := fun as ρ Q => match takeAll as ρ with
  | some (ds, ρ') => Q ds ρ'
  | none => False
def Back : List ArgV → List D → List (Option D) → Rho → (Rho → Prop) → Prop := fun as ds ps ρ Q => Q (putBack as ds ps ρ)
theorem w_call {g : List D → Fo} (h : W as ρ E fun vs ρ1 => Take vs ρ1 fun ds ρ2 => WF (g ds) (fun e ps => Back vs ds ps ρ2 fun ρ3 => E e ρ3) fun d ps => Back vs ds ps ρ2 fun ρ3 => Q d ρ3) : W (eCall g as) ρ E Q := by
  refine w_bind (h.imp (fun _ _ h => h) fun vs ρ1 h => ?_)
  unfold Take at h
  unfold W
  cases ht : takeAll vs ρ1 with
  | none => rw [ht] at h; exact h.elim
  | some x =>
    obtain ⟨ds, ρ2⟩ := x
    rw [ht] at h
    dsimp only at h ⊢
    unfold WF at h
    rw [ht]
    dsimp only
    cases hg : g ds <;> rw [hg] at h <;> exact h
theorem tk_nil {Q : List D → Rho → Prop} (h : Q [] ρ) : Take [] ρ Q := h
theorem tk_val {vs : List ArgV} {Q : List D → Rho → Prop} (h : Take vs ρ fun ds ρ1 => Q (d :: ds) ρ1) : Take (.val d :: vs) ρ Q := by
  unfold Take at h
  show (match (match takeAll vs ρ with
    | some (ds, ρ') => some (d :: ds, ρ')
    | none => none) with
    | some (ds, ρ') => Q ds ρ'
    | none => False)
  cases ht : takeAll vs ρ with
  | none => rw [ht] at h; exact h.elim
  | some x => rw [ht] at h; exact h
theorem tk_lendO {vs : List ArgV} {Q : List D → Rho → Prop} (h : Get i ρ fun d => d.frz = false ∧ Put i none ρ fun ρ1 => Take vs ρ1 fun ds ρ2 => Q (d :: ds) ρ2) : Take (.lend i :: vs) ρ Q := by
  obtain ⟨d, e, f, h⟩ := h
  unfold Put Take at h
  unfold Take takeAll
  simp only [e, f]
  cases ht : takeAll vs (ρ.set i none) <;> simp only [ht, Bool.false_eq_true, if_false] at h ⊢
  exact h
theorem bk_nil {Q : Rho → Prop} {ds ps} (h : Q ρ) : Back [] ds ps ρ Q := by unfold Back putBack; exact h
theorem bk_val {Q : Rho → Prop} {vs ds ps p} {d' : D} (h : Back vs ds ps ρ Q) : Back (.val d' :: vs) (d :: ds) (p :: ps) ρ Q := h
theorem bk_lendO {Q : Rho → Prop} {vs ds ps} {p : Option D} (f : d.frz = false) (h : Put i p ρ fun ρ1 => Back vs ds ps ρ1 Q) : Back (.lend i :: vs) (d :: ds) (p :: ps) ρ Q := by
  unfold Back putBack
  rw [f]
  exact h
/-! statements -/
theorem s_seq (h : WS n ρ (Then n' R)) : WS (sSeq n n') ρ R := by
  unfold WS Then sSeq at *
  cases hn : n ρ <;> rw [hn] at h <;> exact h
theorem th_nx (h : WS n ρ R) : Then n R (.nx ρ) := h
theorem th_rt (h : R (.rt d ρ)) : Then n R (.rt d ρ) := h
theorem th_bk (h : R (.bk ρ)) : Then n R (.bk ρ) := h
theorem th_ct (h : R (.ct ρ)) : Then n R (.ct ρ) := h
theorem s_of {m : M α} {f : α → Rho → Out} (h : W m ρ (fun e ρ1 => R (.exc e ρ1)) fun d ρ1 => R (f d ρ1)) : R (ofRes (m ρ) f) := by
  unfold W at h
  cases hm : m ρ <;> rw [hm] at h
  · exact h
  · exact h
  · exact h.elim
theorem w_next (h : R (.nx ρ)) : WS sNext ρ R := h
theorem w_brk (h : R (.bk ρ)) : WS sBrk ρ R := h
theorem w_cnt (h : R (.ct ρ)) : WS sCnt ρ R := h
theorem w_set (h : W m ρ (fun e ρ1 => R (.exc e ρ1)) fun d ρ1 => Put i (some d) ρ1 fun ρ2 => R (.nx ρ2)) : WS (sSet i m) ρ R := s_of h
theorem w_sex (h : W m ρ (fun e ρ1 => R (.exc e ρ1)) fun d ρ1 => R (.nx ρ1)) : WS (sEx m) ρ R := s_of h
theorem w_ret (h : W m ρ (fun e ρ1 => R (.exc e ρ1)) fun d ρ1 => R (.rt d ρ1)) : WS (sRet m) ρ R := s_of h
theorem w_retn (h : R (.rt .non ρ)) : WS sRetN ρ R := h
theorem w_sif (h : W mc ρ (fun e ρ1 => R (.exc e ρ1)) fun b ρ1 => Bif b (WS n ρ1 R) (WS n' ρ1 R)) : WS (sIf mc n n') ρ R := s_of (h.imp (fun _ _ h => h) fun b _ h => by cases b <;> exact h)
theorem w_frz (h : Get i ρ fun d => Put i (some d.freeze) ρ fun ρ1 => WS n ρ1 R) : WS (sFrz i n) ρ R := by
  obtain ⟨d, e, q⟩ := h
  unfold WS sFrz
  rw [e]
  exact q
/-- one that is frozen before -/
theorem w_frz0 (h : GetF i ρ fun _ => WS n ρ R) (hz : ∀ d : D, d.frz = true → d.freeze = d) : WS (sFrz i n) ρ R := by
  obtain ⟨d, e, f, q⟩ := h
  unfold WS sFrz at *
  rw [e]
  dsimp only
  rw [hz d f, set_self e]
  exact q
theorem w_for {mi : M (List D)} {g : D → Rho → Option Rho} (h : W mi ρ (fun e ρ1 => R (.exc e ρ1)) fun xs ρ1 => R (forL g n xs ρ1)) : WS (sFor g mi n) ρ R := s_of h
theorem w_ival (h : W m ρ E fun d ρ1 => WO (itD d) fun xs => QL xs ρ1) : W (iVal m) ρ E QL := w_bind (h.imp (fun _ _ h => h) fun _ _ h => w_opt h)
theorem w_aug {f : D → D → Option D} (h : GetF i ρ fun a => W m ρ (fun e ρ1 => R (.exc e ρ1)) fun b ρ1 => WO (f a b) fun c => Put i (some c) ρ1 fun ρ2 => R (.nx ρ2)) : WS (sAug i f m) ρ R := by
  obtain ⟨d, e, fz, q⟩ := h
  unfold WS sAug
  rw [e]
  simp only [fz, if_true]
  refine s_of (q.imp (fun _ _ h => h) fun b ρ1 h => ?_)
  obtain ⟨c, hc, q⟩ := h
  rw [hc]
  exact q
/-- the loop, by an invariant over what is left -/
def GNext (g : D → Rho → Option Rho) (x : D) (ρ : Rho) (Q : Rho → Prop) : Prop := ∃ ρ1, g x ρ = some ρ1 ∧ Q ρ1
theorem g_n {x : D} {Q : Rho → Prop} (h : Put i (some x) ρ Q) : GNext (gN i) x ρ Q := ⟨_, rfl, h⟩
def Turn (I : Rho → Prop) (R : Out → Prop) (o : Out) : Prop := match o with
  | .nx ρ => I ρ
  | .ct ρ => I ρ
  | .bk ρ => R (.nx ρ)
  | o => R o
theorem tn_nx {I : Rho → Prop} (h : I ρ) : Turn I R (.nx ρ) := h
theorem tn_ct {I : Rho → Prop} (h : I ρ) : Turn I R (.ct ρ) := h
theorem tn_bk {I : Rho → Prop} (h : R (.nx ρ)) : Turn I R (.bk ρ) := h
theorem tn_rt {I : Rho → Prop} (h : R (.rt d ρ)) : Turn I R (.rt d ρ) := h
theorem tn_exc {I : Rho → Prop} {e : Exc} (h : R (.exc e ρ)) : Turn I R (.exc e ρ) := h
theorem for_inv {g : D → Rho → Option Rho} (I : List D → Rho → Prop) (step : ∀ x xs ρ, I (x :: xs) ρ → GNext g x ρ fun ρ1 => WS n ρ1 (Turn (I xs) R)) (fin : ∀ ρ, I [] ρ → R (.nx ρ)) : ∀ xs ρ, I xs ρ → R (forL g n xs ρ)
  | [], ρ, h => fin ρ h
  | x :: xs, ρ, h => by
    obtain ⟨ρ1, e, q⟩ := step x xs ρ h
    unfold forL
    rw [e]
    dsimp only
    unfold WS Turn at q
    cases hb : n ρ1 <;> rw [hb] at q
    · exact for_inv I step fin xs _ q
    · exact q
    · exact q
    · exact for_inv I step fin xs _ q
    · exact q
    · exact q
/-- while, by a measure -/
theorem while_inv {k : Nat} (I : Nat → Rho → Prop) (step : ∀ j ρ, I j ρ → W mc ρ (fun e ρ1 => R (.exc e ρ1)) fun b ρ1 => Bif b (WS n ρ1 (Turn (fun ρ2 => ∃ l, l < j ∧ I l ρ2) R)) (R (.nx ρ1))) : ∀ j ρ, j < k → I j ρ → WS (whileN mc n k) ρ R := by
  induction k with
  | zero => intro j ρ hj _; omega
  | succ k ih =>
    intro j ρ hj h
    have s := step j ρ h
    unfold WS
    show R (match mc ρ with
      | .ok true ρ1 => (match n ρ1 with
        | .nx ρ2 => whileN mc n k ρ2
        | .ct ρ2 => whileN mc n k ρ2
        | .bk ρ2 => .nx ρ2
        | o => o)
      | .ok false ρ1 => .nx ρ1
      | .exc e ρ1 => .exc e ρ1
      | .stuck => .stuck)
    unfold W at s
    cases hm : mc ρ with
    | stuck => rw [hm] at s; exact s.elim
    | exc e ρ1 => rw [hm] at s; exact s
    | ok b ρ1 =>
      rw [hm] at s
      cases b with
      | false => exact s
      | true =>
        have s : WS n ρ1 (Turn (fun ρ2 => ∃ l, l < j ∧ I l ρ2) R) := s
        unfold WS Turn at s
        dsimp only
        cases hb : n ρ1 <;> rw [hb] at s
        · obtain ⟨l, hl, q⟩ := s; exact ih l _ (by omega) q
        · exact s
        · exact s
        · obtain ⟨l, hl, q⟩ := s; exact ih l _ (by omega) q
        · exact s
        · exact s
theorem w_while {k : Nat} (h : R (whileN mc n k ρ)) : WS (whileN mc n k) ρ R := h
/-- lists changed -/
def GetL (i : Nat) (ρ : Rho) (Q : List D → Prop) : Prop := ∃ xs, lstAt i ρ = some xs ∧ Q xs
theorem getL {Q : List D → Prop} (h : Get i ρ fun d => ∃ xs, d = .lst true xs ∧ Q xs) : GetL i ρ Q := by
  obtain ⟨d, e, xs, rfl, q⟩ := h
  exact ⟨xs, by unfold lstAt; rw [e], q⟩
theorem w_app (h : GetL i ρ fun _ => W m ρ E fun d ρ1 => GetL i ρ1 fun xs => xs.length < 16777216 ∧ Put i (some (.lst true (xs ++ [d]))) ρ1 fun ρ2 => Q .non ρ2) : W (eApp i m) ρ E Q := by
  obtain ⟨ys, e, h⟩ := h
  unfold W eApp
  rw [e]
  refine w_bind (h.imp (fun _ _ h => h) fun d ρ1 h => ?_)
  obtain ⟨xs, e, hl, h⟩ := h
  unfold W
  dsimp only
  rw [e]
  simp only [hl, if_true]
  exact h
theorem w_pop (h : GetL i ρ fun xs => ∃ y, xs[xs.length - 1]? = some y ∧ Put i (some (.lst true xs.dropLast)) ρ fun ρ2 => Q y ρ2) : W (ePop i) ρ E Q := by
  obtain ⟨xs, e, y, e2, h⟩ := h
  unfold W ePop
  rw [e]
  simp only [e2]
  exact h
theorem w_setix {mi mv : M D} (h : GetL i ρ fun _ => W mv ρ (fun e ρ1 => R (.exc e ρ1)) fun d ρ1 => W mi ρ1 (fun e ρ1 => R (.exc e ρ1)) fun k ρ2 => GetL i ρ2 fun xs => ∃ (kk : Int) (j : Nat), k = .int kk ∧ ixN xs.length kk = some j ∧ Put i (some (.lst true (xs.set j d))) ρ2 fun ρ3 => R (.nx ρ3)) : WS (sSetIx i mi mv) ρ R := by
  obtain ⟨ys, e, h⟩ := h
  unfold WS sSetIx
  rw [e]
  refine s_of (h.imp (fun _ _ h => h) fun d ρ1 h => ?_)
  refine s_of (h.imp (fun _ _ h => h) fun k ρ2 h => ?_)
  obtain ⟨xs, e, kk, j, rfl, ej, h⟩ := h
  unfold setIx
  rw [e]
  simp only [ej]
  exact h
/-! comprehensions -/
theorem lc_inv {g : D → Rho → Option Rho} {vs : List Nat} {QL : List D → Rho → Prop} (I : List D → List D → Rho → Prop)
    (step : ∀ x xs acc ρ, I (x :: xs) acc ρ → GNext g x ρ fun ρ1 => W mc ρ1 (fun _ _ => False) fun b ρ2 => Bif b (W m ρ2 (fun _ _ => False) fun d ρ3 => acc.length < 16777216 ∧ I xs (acc ++ [d]) (wipeR ρ3 vs)) (I xs acc (wipeR ρ2 vs)))
    (fin : ∀ acc ρ, I [] acc ρ → QL acc ρ) : ∀ xs acc ρ, I xs acc ρ → ∃ ds ρ', lcL g mc m vs xs acc ρ = .ok ds ρ' ∧ QL ds ρ'
  | [], acc, ρ, h => ⟨acc, ρ, rfl, fin _ _ h⟩
  | x :: xs, acc, ρ, h => by
    obtain ⟨ρ1, e, q⟩ := step x xs acc ρ h
    unfold lcL
    rw [e]
    dsimp only
    unfold W at q
    cases hc : mc ρ1 with
    | stuck => rw [hc] at q; exact q.elim
    | exc e ρ1 => rw [hc] at q; exact q.elim
    | ok b ρ2 =>
      rw [hc] at q
      cases b with
      | false => exact lc_inv I step fin xs acc _ q
      | true =>
        have q : W m ρ2 (fun _ _ => False) fun d ρ3 => acc.length < 16777216 ∧ I xs (acc ++ [d]) (wipeR ρ3 vs) := q
        unfold W at q
        dsimp only
        cases hm : m ρ2 with
        | stuck => rw [hm] at q; exact q.elim
        | exc e ρ1 => rw [hm] at q; exact q.elim
        | ok d ρ3 =>
          rw [hm] at q
          dsimp only
          rw [if_pos q.1]
          exact lc_inv I step fin xs _ _ q.2
def Rest (vs : List Nat) (ρ0 ρ : Rho) (Q : Rho → Prop) : Prop := Q (restR ρ0 ρ vs)
theorem rest_nil {ρ0 : Rho} {Q : Rho → Prop} (h : Q ρ) : Rest [] ρ0 ρ Q := h
theorem w_lc {g : D → Rho → Option Rho} {vs : List Nat} {mi : M (List D)} (h : W mi ρ E fun xs ρ1 => ∃ ds ρ2, lcL g mc m vs xs [] (wipeR ρ1 vs) = .ok ds ρ2 ∧ Rest vs ρ1 ρ2 fun ρ3 => Q (.lst true ds) ρ3) : W (eLc g mi mc m vs) ρ E Q := by
  unfold W eLc at *
  cases hi : mi ρ with
  | stuck => rw [hi] at h; exact h
  | exc e ρ1 => rw [hi] at h; exact h
  | ok xs ρ1 =>
    rw [hi] at h
    obtain ⟨ds, ρ2, e, q⟩ := h
    dsimp only
    rw [e]
    exact q
/-! ranges -/
def rng (k n : Nat) : List D := (List.range' k n).map fun i : Nat => D.int (i : Int)
theorem rng_succ (k n : Nat) : rng k (n + 1) = D.int (k : Int) :: rng (k + 1) n := by
  unfold rng
  rw [List.range'_succ]; rfl
theorem rng_zero (k : Nat) : rng k 0 = [] := rfl
theorem rng_len (k n : Nat) : (rng k n).length = n := by simp [rng]
def IsRg (d : D) (Q : List D → Prop) : Prop := ∃ j : Int, d = .int j ∧ -(2 ^ 62) ≤ j ∧ j < 2 ^ 62 ∧ Q (rng 0 j.toNat)
theorem is_rg {j : Int} {Q : List D → Prop} (h1 : -4611686018427387904 ≤ j) (h2 : j < 4611686018427387904) (q : Q (rng 0 j.toNat)) : IsRg (.int j) Q := ⟨j, rfl, by omega, by omega, q⟩
theorem w_rg1 {QL : List D → Rho → Prop} (h : W m ρ E fun d ρ1 => IsRg d fun xs => QL xs ρ1) : W (iRg1 m) ρ E QL := by
  refine w_bind (h.imp (fun _ _ h => h) fun d _ h => w_opt ?_)
  obtain ⟨j, rfl, h1, h2, q⟩ := h
  refine ⟨_, if_pos ⟨h1, h2⟩, ?_⟩
  unfold rng at q
  rw [List.range_eq_range']
  exact q
/-! the def -/
def Fin (kp : List Nat) (np : Nat) (E : Exc → List (Option D) → Prop) (Q : D → List (Option D) → Prop) (o : Out) : Prop := match o with
  | .nx ρ => Q .non (pick kp 0 np ρ)
  | .rt d ρ => Q d (pick kp 0 np ρ)
  | .exc e ρ => E e (pick kp 0 np ρ)
  | _ => False
theorem wf_run {kp : List Nat} {np nl : Nat} {ds : List D} {E : Exc → List (Option D) → Prop} {Q : D → List (Option D) → Prop} (hl : ds.length = np) (hρ : ds.map some ++ List.replicate nl none = ρ) (h : WS n ρ (Fin kp np E Q)) : WF (runF kp np nl n ds) E Q := by
  unfold runF
  rw [if_pos hl, hρ]
  unfold WS Fin at h
  unfold WF
  cases hn : n ρ <;> rw [hn] at h <;> simp only [hn] <;> exact h
theorem fn_rt {kp : List Nat} {np : Nat} {E : Exc → List (Option D) → Prop} {Q : D → List (Option D) → Prop} {ps : List (Option D)} (hp : pick kp 0 np ρ = ps) (h : Q d ps) : Fin kp np E Q (.rt d ρ) := by subst hp; exact h
theorem fn_nx {kp : List Nat} {np : Nat} {E : Exc → List (Option D) → Prop} {Q : D → List (Option D) → Prop} {ps : List (Option D)} (hp : pick kp 0 np ρ = ps) (h : Q .non ps) : Fin kp np E Q (.nx ρ) := by subst hp; exact h
theorem wf_ok {f : Fo} {d : D} {ps : List (Option D)} (h : WF f (fun _ _ => False) fun d' ps' => d' = d ∧ ps' = ps) : f = .ok d ps := by
  unfold WF at h
  cases f <;> simp only at h
  obtain ⟨rfl, rfl⟩ := h
  rfl
theorem wf_of {f : Fo} {d : D} {ps : List (Option D)} {E : Exc → List (Option D) → Prop} {Q : D → List (Option D) → Prop} (h : f = .ok d ps) (q : Q d ps) : WF f E Q := by subst h; exact q
theorem wo {α : Type} {o : Option α} {c : α} {Q : α → Prop} (h : o = some c) (q : Q c) : WO o Q := ⟨c, h, q⟩
end
section
variable {x : D} {o v : Option D} {r : Rho} {Q : D → Prop} {QR : Rho → Prop}
theorem get_0 (h : Q x) : Get 0 (some x :: r) Q := ⟨x, rfl, h⟩
theorem gef_0 (hf : x.frz = true) (h : Q x) : GetF 0 (some x :: r) Q := ⟨x, rfl, hf, h⟩
theorem rest_0 {is : List Nat} {ρ : Rho} (h : Rest is (none :: r) ρ QR) : Rest (0 :: is) (none :: r) ρ QR := h
theorem resv_0 {is : List Nat} {ρ : Rho} (hf : x.frz = true) (h : Put 0 (some x) ρ fun ρ1 => Rest is (some x :: r) ρ1 QR) : Rest (0 :: is) (some x :: r) ρ QR := by
  unfold Rest; show QR (restR _ (if x.frz then _ else _) is); rw [hf]; exact h
theorem put_0 (h : QR (v :: r)) : Put 0 v (o :: r) QR := h
theorem get_1 {a0 : Option D} (h : Q x) : Get 1 (a0 :: some x :: r) Q := ⟨x, rfl, h⟩
theorem gef_1 {a0 : Option D} (hf : x.frz = true) (h : Q x) : GetF 1 (a0 :: some x :: r) Q := ⟨x, rfl, hf, h⟩
theorem rest_1 {a0 : Option D} {is : List Nat} {ρ : Rho} (h : Rest is (a0 :: none :: r) ρ QR) : Rest (1 :: is) (a0 :: none :: r) ρ QR := h
theorem resv_1 {a0 : Option D} {is : List Nat} {ρ : Rho} (hf : x.frz = true) (h : Put 1 (some x) ρ fun ρ1 => Rest is (a0 :: some x :: r) ρ1 QR) : Rest (1 :: is) (a0 :: some x :: r) ρ QR := by
  unfold Rest; show QR (restR _ (if x.frz then _ else _) is); rw [hf]; exact h
theorem put_1 {a0 : Option D} (h : QR (a0 :: v :: r)) : Put 1 v (a0 :: o :: r) QR := h
theorem get_2 {a0 a1 : Option D} (h : Q x) : Get 2 (a0 :: a1 :: some x :: r) Q := ⟨x, rfl, h⟩
theorem gef_2 {a0 a1 : Option D} (hf : x.frz = true) (h : Q x) : GetF 2 (a0 :: a1 :: some x :: r) Q := ⟨x, rfl, hf, h⟩
theorem rest_2 {a0 a1 : Option D} {is : List Nat} {ρ : Rho} (h : Rest is (a0 :: a1 :: none :: r) ρ QR) : Rest (2 :: is) (a0 :: a1 :: none :: r) ρ QR := h
theorem resv_2 {a0 a1 : Option D} {is : List Nat} {ρ : Rho} (hf : x.frz = true) (h : Put 2 (some x) ρ fun ρ1 => Rest is (a0 :: a1 :: some x :: r) ρ1 QR) : Rest (2 :: is) (a0 :: a1 :: some x :: r) ρ QR := by
  unfold Rest; show QR (restR _ (if x.frz then _ else _) is); rw [hf]; exact h
theorem put_2 {a0 a1 : Option D} (h : QR (a0 :: a1 :: v :: r)) : Put 2 v (a0 :: a1 :: o :: r) QR := h
theorem get_3 {a0 a1 a2 : Option D} (h : Q x) : Get 3 (a0 :: a1 :: a2 :: some x :: r) Q := ⟨x, rfl, h⟩
theorem gef_3 {a0 a1 a2 : Option D} (hf : x.frz = true) (h : Q x) : GetF 3 (a0 :: a1 :: a2 :: some x :: r) Q := ⟨x, rfl, hf, h⟩
theorem rest_3 {a0 a1 a2 : Option D} {is : List Nat} {ρ : Rho} (h : Rest is (a0 :: a1 :: a2 :: none :: r) ρ QR) : Rest (3 :: is) (a0 :: a1 :: a2 :: none :: r) ρ QR := h
theorem resv_3 {a0 a1 a2 : Option D} {is : List Nat} {ρ : Rho} (hf : x.frz = true) (h : Put 3 (some x) ρ fun ρ1 => Rest is (a0 :: a1 :: a2 :: some x :: r) ρ1 QR) : Rest (3 :: is) (a0 :: a1 :: a2 :: some x :: r) ρ QR := by
  unfold Rest; show QR (restR _ (if x.frz then _ else _) is); rw [hf]; exact h
theorem put_3 {a0 a1 a2 : Option D} (h : QR (a0 :: a1 :: a2 :: v :: r)) : Put 3 v (a0 :: a1 :: a2 :: o :: r) QR := h
theorem get_4 {a0 a1 a2 a3 : Option D} (h : Q x) : Get 4 (a0 :: a1 :: a2 :: a3 :: some x :: r) Q := ⟨x, rfl, h⟩
theorem gef_4 {a0 a1 a2 a3 : Option D} (hf : x.frz = true) (h : Q x) : GetF 4 (a0 :: a1 :: a2 :: a3 :: some x :: r) Q := ⟨x, rfl, hf, h⟩
theorem rest_4 {a0 a1 a2 a3 : Option D} {is : List Nat} {ρ : Rho} (h : Rest is (a0 :: a1 :: a2 :: a3 :: none :: r) ρ QR) : Rest (4 :: is) (a0 :: a1 :: a2 :: a3 :: none :: r) ρ QR := h
theorem resv_4 {a0 a1 a2 a3 : Option D} {is : List Nat} {ρ : Rho} (hf : x.frz = true) (h : Put 4 (some x) ρ fun ρ1 => Rest is (a0 :: a1 :: a2 :: a3 :: some x :: r) ρ1 QR) : Rest (4 :: is) (a0 :: a1 :: a2 :: a3 :: some x :: r) ρ QR := by
  unfold Rest; show QR (restR _ (if x.frz then _ else _) is); rw [hf]; exact h
theorem put_4 {a0 a1 a2 a3 : Option D} (h : QR (a0 :: a1 :: a2 :: a3 :: v :: r)) : Put 4 v (a0 :: a1 :: a2 :: a3 :: o :: r) QR := h
theorem get_5 {a0 a1 a2 a3 a4 : Option D} (h : Q x) : Get 5 (a0 :: a1 :: a2 :: a3 :: a4 :: some x :: r) Q := ⟨x, rfl, h⟩
theorem gef_5 {a0 a1 a2 a3 a4 : Option D} (hf : x.frz = true) (h : Q x) : GetF 5 (a0 :: a1 :: a2 :: a3 :: a4 :: some x :: r) Q := ⟨x, rfl, hf, h⟩
theorem rest_5 {a0 a1 a2 a3 a4 : Option D} {is : List Nat} {ρ : Rho} (h : Rest is (a0 :: a1 :: a2 :: a3 :: a4 :: none :: r) ρ QR) : Rest (5 :: is) (a0 :: a1 :: a2 :: a3 :: a4 :: none :: r) ρ QR := h
theorem resv_5 {a0 a1 a2 a3 a4 : Option D} {is : List Nat} {ρ : Rho} (hf : x.frz = true) (h : Put 5 (some x) ρ fun ρ1 => Rest is (a0 :: a1 :: a2 :: a3 :: a4 :: some x :: r) ρ1 QR) : Rest (5 :: is) (a0 :: a1 :: a2 :: a3 :: a4 :: some x :: r) ρ QR := by
  unfold Rest; show QR (restR _ (if x.frz then _ else _) is); rw [hf]; exact h
theorem put_5 {a0 a1 a2 a3 a4 : Option D} (h : QR (a0 :: a1 :: a2 :: a3 :: a4 :: v :: r)) : Put 5 v (a0 :: a1 :: a2 :: a3 :: a4 :: o :: r) QR := h
theorem get_6 {a0 a1 a2 a3 a4 a5 : Option D} (h : Q x) : Get 6 (a0 :: a1 :: a2 :: a3 :: a4 :: a5 :: some x :: r) Q := ⟨x, rfl, h⟩
theorem gef_6 {a0 a1 a2 a3 a4 a5 : Option D} (hf : x.frz = true) (h : Q x) : GetF 6 (a0 :: a1 :: a2 :: a3 :: a4 :: a5 :: some x :: r) Q := ⟨x, rfl, hf, h⟩
theorem rest_6 {a0 a1 a2 a3 a4 a5 : Option D} {is : List Nat} {ρ : Rho} (h : Rest is (a0 :: a1 :: a2 :: a3 :: a4 :: a5 :: none :: r) ρ QR) : Rest (6 :: is) (a0 :: a1 :: a2 :: a3 :: a4 :: a5 :: none :: r) ρ QR := h
theorem resv_6 {a0 a1 a2 a3 a4 a5 : Option D} {is : List Nat} {ρ : Rho} (hf : x.frz = true) (h : Put 6 (some x) ρ fun ρ1 => Rest is (a0 :: a1 :: a2 :: a3 :: a4 :: a5 :: some x :: r) ρ1 QR) : Rest (6 :: is) (a0 :: a1 :: a2 :: a3 :: a4 :: a5 :: some x :: r) ρ QR := by
  unfold Rest; show QR (restR _ (if x.frz then _ else _) is); rw [hf]; exact h
theorem put_6 {a0 a1 a2 a3 a4 a5 : Option D} (h : QR (a0 :: a1 :: a2 :: a3 :: a4 :: a5 :: v :: r)) : Put 6 v (a0 :: a1 :: a2 :: a3 :: a4 :: a5 :: o :: r) QR := h
theorem get_7 {a0 a1 a2 a3 a4 a5 a6 : Option D} (h : Q x) : Get 7 (a0 :: a1 :: a2 :: a3 :: a4 :: a5 :: a6 :: some x :: r) Q := ⟨x, rfl, h⟩
theorem gef_7 {a0 a1 a2 a3 a4 a5 a6 : Option D} (hf : x.frz = true) (h : Q x) : GetF 7 (a0 :: a1 :: a2 :: a3 :: a4 :: a5 :: a6 :: some x :: r) Q := ⟨x, rfl, hf, h⟩
theorem rest_7 {a0 a1 a2 a3 a4 a5 a6 : Option D} {is : List Nat} {ρ : Rho} (h : Rest is (a0 :: a1 :: a2 :: a3 :: a4 :: a5 :: a6 :: none :: r) ρ QR) : Rest (7 :: is) (a0 :: a1 :: a2 :: a3 :: a4 :: a5 :: a6 :: none :: r) ρ QR := h
theorem resv_7 {a0 a1 a2 a3 a4 a5 a6 : Option D} {is : List Nat} {ρ : Rho} (hf : x.frz = true) (h : Put 7 (some x) ρ fun ρ1 => Rest is (a0 :: a1 :: a2 :: a3 :: a4 :: a5 :: a6 :: some x :: r) ρ1 QR) : Rest (7 :: is) (a0 :: a1 :: a2 :: a3 :: a4 :: a5 :: a6 :: some x :: r) ρ QR := by
  unfold Rest; show QR (restR _ (if x.frz then _ else _) is); rw [hf]; exact h
theorem put_7 {a0 a1 a2 a3 a4 a5 a6 : Option D} (h : QR (a0 :: a1 :: a2 :: a3 :: a4 :: a5 :: a6 :: v :: r)) : Put 7 v (a0 :: a1 :: a2 :: a3 :: a4 :: a5 :: a6 :: o :: r) QR := h
theorem get_8 {a0 a1 a2 a3 a4 a5 a6 a7 : Option D} (h : Q x) : Get 8 (a0 :: a1 :: a2 :: a3 :: a4 :: a5 :: a6 :: a7 :: some x :: r) Q := ⟨x, rfl, h⟩
theorem gef_8 {a0 a1 a2 a3 a4 a5 a6 a7 : Option D} (hf : x.frz = true) (h : Q x) : GetF 8 (a0 :: a1 :: a2 :: a3 :: a4 :: a5 :: a6 :: a7 :: some x :: r) Q := ⟨x, rfl, hf, h⟩
theorem rest_8 {a0 a1 a2 a3 a4 a5 a6 a7 : Option D} {is : List Nat} {ρ : Rho} (h : Rest is (a0 :: a1 :: a2 :: a3 :: a4 :: a5 :: a6 :: a7 :: none :: r) ρ QR) : Rest (8 :: is) (a0 :: a1 :: a2 :: a3 :: a4 :: a5 :: a6 :: a7 :: none :: r) ρ QR := h
theorem resv_8 {a0 a1 a2 a3 a4 a5 a6 a7 : Option D} {is : List Nat} {ρ : Rho} (hf : x.frz = true) (h : Put 8 (some x) ρ fun ρ1 => Rest is (a0 :: a1 :: a2 :: a3 :: a4 :: a5 :: a6 :: a7 :: some x :: r) ρ1 QR) : Rest (8 :: is) (a0 :: a1 :: a2 :: a3 :: a4 :: a5 :: a6 :: a7 :: some x :: r) ρ QR := by
  unfold Rest; show QR (restR _ (if x.frz then _ else _) is); rw [hf]; exact h
theorem put_8 {a0 a1 a2 a3 a4 a5 a6 a7 : Option D} (h : QR (a0 :: a1 :: a2 :: a3 :: a4 :: a5 :: a6 :: a7 :: v :: r)) : Put 8 v (a0 :: a1 :: a2 :: a3 :: a4 :: a5 :: a6 :: a7 :: o :: r) QR := h
theorem get_9 {a0 a1 a2 a3 a4 a5 a6 a7 a8 : Option D} (h : Q x) : Get 9 (a0 :: a1 :: a2 :: a3 :: a4 :: a5 :: a6 :: a7 :: a8 :: some x :: r) Q := ⟨x, rfl, h⟩
theorem gef_9 {a0 a1 a2 a3 a4 a5 a6 a7 a8 : Option D} (hf : x.frz = true) (h : Q x) : GetF 9 (a0 :: a1 :: a2 :: a3 :: a4 :: a5 :: a6 :: a7 :: a8 :: some x :: r) Q := ⟨x, rfl, hf, h⟩
theorem rest_9 {a0 a1 a2 a3 a4 a5 a6 a7 a8 : Option D} {is : List Nat} {ρ : Rho} (h : Rest is (a0 :: a1 :: a2 :: a3 :: a4 :: a5 :: a6 :: a7 :: a8 :: none :: r) ρ QR) : Rest (9 :: is) (a0 :: a1 :: a2 :: a3 :: a4 :: a5 :: a6 :: a7 :: a8 :: none :: r) ρ QR := h
theorem resv_9 {a0 a1 a2 a3 a4 a5 a6 a7 a8 : Option D} {is : List Nat} {ρ : Rho} (hf : x.frz = true) (h : Put 9 (some x) ρ fun ρ1 => Rest is (a0 :: a1 :: a2 :: a3 :: a4 :: a5 :: a6 :: a7 :: a8 :: some x :: r) ρ1 QR) : Rest (9 :: is) (a0 :: a1 :: a2 :: a3 :: a4 :: a5 :: a6 :: a7 :: a8 :: some x :: r) ρ QR := by
  unfold Rest; show QR (restR _ (if x.frz then _ else _) is); rw [hf]; exact h
theorem put_9 {a0 a1 a2 a3 a4 a5 a6 a7 a8 : Option D} (h : QR (a0 :: a1 :: a2 :: a3 :: a4 :: a5 :: a6 :: a7 :: a8 :: v :: r)) : Put 9 v (a0 :: a1 :: a2 :: a3 :: a4 :: a5 :: a6 :: a7 :: a8 :: o :: r) QR := h
theorem get_10 {a0 a1 a2 a3 a4 a5 a6 a7 a8 a9 : Option D} (h : Q x) : Get 10 (a0 :: a1 :: a2 :: a3 :: a4 :: a5 :: a6 :: a7 :: a8 :: a9 :: some x :: r) Q := ⟨x, rfl, h⟩
theorem gef_10 {a0 a1 a2 a3 a4 a5 a6 a7 a8 a9 : Option D} (hf : x.frz = true) (h : Q x) : GetF 10 (a0 :: a1 :: a2 :: a3 :: a4 :: a5 :: a6 :: a7 :: a8 :: a9 :: some x :: r) Q := ⟨x, rfl, hf, h⟩
theorem rest_10 {a0 a1 a2 a3 a4 a5 a6 a7 a8 a9 : Option D} {is : List Nat} {ρ : Rho} (h : Rest is (a0 :: a1 :: a2 :: a3 :: a4 :: a5 :: a6 :: a7 :: a8 :: a9 :: none :: r) ρ QR) : Rest (10 :: is) (a0 :: a1 :: a2 :: a3 :: a4 :: a5 :: a6 :: a7 :: a8 :: a9 :: none :: r) ρ QR := h
theorem resv_10 {a0 a1 a2 a3 a4 a5 a6 a7 a8 a9 : Option D} {is : List Nat} {ρ : Rho} (hf : x.frz = true) (h : Put 10 (some x) ρ fun ρ1 => Rest is (a0 :: a1 :: a2 :: a3 :: a4 :: a5 :: a6 :: a7 :: a8 :: a9 :: some x :: r) ρ1 QR) : Rest (10 :: is) (a0 :: a1 :: a2 :: a3 :: a4 :: a5 :: a6 :: a7 :: a8 :: a9 :: some x :: r) ρ QR := by
  unfold Rest; show QR (restR _ (if x.frz then _ else _) is); rw [hf]; exact h
theorem put_10 {a0 a1 a2 a3 a4 a5 a6 a7 a8 a9 : Option D} (h : QR (a0 :: a1 :: a2 :: a3 :: a4 :: a5 :: a6 :: a7 :: a8 :: a9 :: v :: r)) : Put 10 v (a0 :: a1 :: a2 :: a3 :: a4 :: a5 :: a6 :: a7 :: a8 :: a9 :: o :: r) QR := h
theorem get_11 {a0 a1 a2 a3 a4 a5 a6 a7 a8 a9 a10 : Option D} (h : Q x) : Get 11 (a0 :: a1 :: a2 :: a3 :: a4 :: a5 :: a6 :: a7 :: a8 :: a9 :: a10 :: some x :: r) Q := ⟨x, rfl, h⟩
theorem gef_11 {a0 a1 a2 a3 a4 a5 a6 a7 a8 a9 a10 : Option D} (hf : x.frz = true) (h : Q x) : GetF 11 (a0 :: a1 :: a2 :: a3 :: a4 :: a5 :: a6 :: a7 :: a8 :: a9 :: a10 :: some x :: r) Q := ⟨x, rfl, hf, h⟩
theorem rest_11 {a0 a1 a2 a3 a4 a5 a6 a7 a8 a9 a10 : Option D} {is : List Nat} {ρ : Rho} (h : Rest is (a0 :: a1 :: a2 :: a3 :: a4 :: a5 :: a6 :: a7 :: a8 :: a9 :: a10 :: none :: r) ρ QR) : Rest (11 :: is) (a0 :: a1 :: a2 :: a3 :: a4 :: a5 :: a6 :: a7 :: a8 :: a9 :: a10 :: none :: r) ρ QR := h
theorem resv_11 {a0 a1 a2 a3 a4 a5 a6 a7 a8 a9 a10 : Option D} {is : List Nat} {ρ : Rho} (hf : x.frz = true) (h : Put 11 (some x) ρ fun ρ1 => Rest is (a0 :: a1 :: a2 :: a3 :: a4 :: a5 :: a6 :: a7 :: a8 :: a9 :: a10 :: some x :: r) ρ1 QR) : Rest (11 :: is) (a0 :: a1 :: a2 :: a3 :: a4 :: a5 :: a6 :: a7 :: a8 :: a9 :: a10 :: some x :: r) ρ QR := by
  unfold Rest; show QR (restR _ (if x.frz then _ else _) is); rw [hf]; exact h
theorem put_11 {a0 a1 a2 a3 a4 a5 a6 a7 a8 a9 a10 : Option D} (h : QR (a0 :: a1 :: a2 :: a3 :: a4 :: a5 :: a6 :: a7 :: a8 :: a9 :: a10 :: v :: r)) : Put 11 v (a0 :: a1 :: a2 :: a3 :: a4 :: a5 :: a6 :: a7 :: a8 :: a9 :: a10 :: o :: r) QR := h
theorem get_12 {a0 a1 a2 a3 a4 a5 a6 a7 a8 a9 a10 a11 : Option D} (h : Q x) : Get 12 (a0 :: a1 :: a2 :: a3 :: a4 :: a5 :: a6 :: a7 :: a8 :: a9 :: a10 :: a11 :: some x :: r) Q := ⟨x, rfl, h⟩
theorem gef_12 {a0 a1 a2 a3 a4 a5 a6 a7 a8 a9 a10 a11 : Option D} (hf : x.frz = true) (h : Q x) : GetF 12 (a0 :: a1 :: a2 :: a3 :: a4 :: a5 :: a6 :: a7 :: a8 :: a9 :: a10 :: a11 :: some x :: r) Q := ⟨x, rfl, hf, h⟩
theorem rest_12 {a0 a1 a2 a3 a4 a5 a6 a7 a8 a9 a10 a11 : Option D} {is : List Nat} {ρ : Rho} (h : Rest is (a0 :: a1 :: a2 :: a3 :: a4 :: a5 :: a6 :: a7 :: a8 :: a9 :: a10 :: a11 :: none :: r) ρ QR) : Rest (12 :: is) (a0 :: a1 :: a2 :: a3 :: a4 :: a5 :: a6 :: a7 :: a8 :: a9 :: a10 :: a11 :: none :: r) ρ QR := h
theorem resv_12 {a0 a1 a2 a3 a4 a5 a6 a7 a8 a9 a10 a11 : Option D} {is : List Nat} {ρ : Rho} (hf : x.frz = true) (h : Put 12 (some x) ρ fun ρ1 => Rest is (a0 :: a1 :: a2 :: a3 :: a4 :: a5 :: a6 :: a7 :: a8 :: a9 :: a10 :: a11 :: some x :: r) ρ1 QR) : Rest (12 :: is) (a0 :: a1 :: a2 :: a3 :: a4 :: a5 :: a6 :: a7 :: a8 :: a9 :: a10 :: a11 :: some x :: r) ρ QR := by
  unfold Rest; show QR (restR _ (if x.frz then _ else _) is); rw [hf]; exact h
theorem put_12 {a0 a1 a2 a3 a4 a5 a6 a7 a8 a9 a10 a11 : Option D} (h : QR (a0 :: a1 :: a2 :: a3 :: a4 :: a5 :: a6 :: a7 :: a8 :: a9 :: a10 :: a11 :: v :: r)) : Put 12 v (a0 :: a1 :: a2 :: a3 :: a4 :: a5 :: a6 :: a7 :: a8 :: a9 :: a10 :: a11 :: o :: r) QR := h
theorem get_13 {a0 a1 a2 a3 a4 a5 a6 a7 a8 a9 a10 a11 a12 : Option D} (h : Q x) : Get 13 (a0 :: a1 :: a2 :: a3 :: a4 :: a5 :: a6 :: a7 :: a8 :: a9 :: a10 :: a11 :: a12 :: some x :: r) Q := ⟨x, rfl, h⟩
theorem gef_13 {a0 a1 a2 a3 a4 a5 a6 a7 a8 a9 a10 a11 a12 : Option D} (hf : x.frz = true) (h : Q x) : GetF 13 (a0 :: a1 :: a2 :: a3 :: a4 :: a5 :: a6 :: a7 :: a8 :: a9 :: a10 :: a11 :: a12 :: some x :: r) Q := ⟨x, rfl, hf, h⟩
theorem rest_13 {a0 a1 a2 a3 a4 a5 a6 a7 a8 a9 a10 a11 a12 : Option D} {is : List Nat} {ρ : Rho} (h : Rest is (a0 :: a1 :: a2 :: a3 :: a4 :: a5 :: a6 :: a7 :: a8 :: a9 :: a10 :: a11 :: a12 :: none :: r) ρ QR) : Rest (13 :: is) (a0 :: a1 :: a2 :: a3 :: a4 :: a5 :: a6 :: a7 :: a8 :: a9 :: a10 :: a11 :: a12 :: none :: r) ρ QR := h
theorem resv_13 {a0 a1 a2 a3 a4 a5 a6 a7 a8 a9 a10 a11 a12 : Option D} {is : List Nat} {ρ : Rho} (hf : x.frz = true) (h : Put 13 (some x) ρ fun ρ1 => Rest is (a0 :: a1 :: a2 :: a3 :: a4 :: a5 :: a6 :: a7 :: a8 :: a9 :: a10 :: a11 :: a12 :: some x :: r) ρ1 QR) : Rest (13 :: is) (a0 :: a1 :: a2 :: a3 :: a4 :: a5 :: a6 :: a7 :: a8 :: a9 :: a10 :: a11 :: a12 :: some x :: r) ρ QR := by
  unfold Rest; show QR (restR _ (if x.frz then _ else _) is); rw [hf]; exact h
theorem put_13 {a0 a1 a2 a3 a4 a5 a6 a7 a8 a9 a10 a11 a12 : Option D} (h : QR (a0 :: a1 :: a2 :: a3 :: a4 :: a5 :: a6 :: a7 :: a8 :: a9 :: a10 :: a11 :: a12 :: v :: r)) : Put 13 v (a0 :: a1 :: a2 :: a3 :: a4 :: a5 :: a6 :: a7 :: a8 :: a9 :: a10 :: a11 :: a12 :: o :: r) QR := h
theorem get_14 {a0 a1 a2 a3 a4 a5 a6 a7 a8 a9 a10 a11 a12 a13 : Option D} (h : Q x) : Get 14 (a0 :: a1 :: a2 :: a3 :: a4 :: a5 :: a6 :: a7 :: a8 :: a9 :: a10 :: a11 :: a12 :: a13 :: some x :: r) Q := ⟨x, rfl, h⟩
theorem gef_14 {a0 a1 a2 a3 a4 a5 a6 a7 a8 a9 a10 a11 a12 a13 : Option D} (hf : x.frz = true) (h : Q x) : GetF 14 (a0 :: a1 :: a2 :: a3 :: a4 :: a5 :: a6 :: a7 :: a8 :: a9 :: a10 :: a11 :: a12 :: a13 :: some x :: r) Q := ⟨x, rfl, hf, h⟩
theorem rest_14 {a0 a1 a2 a3 a4 a5 a6 a7 a8 a9 a10 a11 a12 a13 : Option D} {is : List Nat} {ρ : Rho} (h : Rest is (a0 :: a1 :: a2 :: a3 :: a4 :: a5 :: a6 :: a7 :: a8 :: a9 :: a10 :: a11 :: a12 :: a13 :: none :: r) ρ QR) : Rest (14 :: is) (a0 :: a1 :: a2 :: a3 :: a4 :: a5 :: a6 :: a7 :: a8 :: a9 :: a10 :: a11 :: a12 :: a13 :: none :: r) ρ QR := h
theorem resv_14 {a0 a1 a2 a3 a4 a5 a6 a7 a8 a9 a10 a11 a12 a13 : Option D} {is : List Nat} {ρ : Rho} (hf : x.frz = true) (h : Put 14 (some x) ρ fun ρ1 => Rest is (a0 :: a1 :: a2 :: a3 :: a4 :: a5 :: a6 :: a7 :: a8 :: a9 :: a10 :: a11 :: a12 :: a13 :: some x :: r) ρ1 QR) : Rest (14 :: is) (a0 :: a1 :: a2 :: a3 :: a4 :: a5 :: a6 :: a7 :: a8 :: a9 :: a10 :: a11 :: a12 :: a13 :: some x :: r) ρ QR := by
  unfold Rest; show QR (restR _ (if x.frz then _ else _) is); rw [hf]; exact h
theorem put_14 {a0 a1 a2 a3 a4 a5 a6 a7 a8 a9 a10 a11 a12 a13 : Option D} (h : QR (a0 :: a1 :: a2 :: a3 :: a4 :: a5 :: a6 :: a7 :: a8 :: a9 :: a10 :: a11 :: a12 :: a13 :: v :: r)) : Put 14 v (a0 :: a1 :: a2 :: a3 :: a4 :: a5 :: a6 :: a7 :: a8 :: a9 :: a10 :: a11 :: a12 :: a13 :: o :: r) QR := h
theorem get_15 {a0 a1 a2 a3 a4 a5 a6 a7 a8 a9 a10 a11 a12 a13 a14 : Option D} (h : Q x) : Get 15 (a0 :: a1 :: a2 :: a3 :: a4 :: a5 :: a6 :: a7 :: a8 :: a9 :: a10 :: a11 :: a12 :: a13 :: a14 :: some x :: r) Q := ⟨x, rfl, h⟩
theorem gef_15 {a0 a1 a2 a3 a4 a5 a6 a7 a8 a9 a10 a11 a12 a13 a14 : Option D} (hf : x.frz = true) (h : Q x) : GetF 15 (a0 :: a1 :: a2 :: a3 :: a4 :: a5 :: a6 :: a7 :: a8 :: a9 :: a10 :: a11 :: a12 :: a13 :: a14 :: some x :: r) Q := ⟨x, rfl, hf, h⟩
theorem rest_15 {a0 a1 a2 a3 a4 a5 a6 a7 a8 a9 a10 a11 a12 a13 a14 : Option D} {is : List Nat} {ρ : Rho} (h : Rest is (a0 :: a1 :: a2 :: a3 :: a4 :: a5 :: a6 :: a7 :: a8 :: a9 :: a10 :: a11 :: a12 :: a13 :: a14 :: none :: r) ρ QR) : Rest (15 :: is) (a0 :: a1 :: a2 :: a3 :: a4 :: a5 :: a6 :: a7 :: a8 :: a9 :: a10 :: a11 :: a12 :: a13 :: a14 :: none :: r) ρ QR := h
theorem resv_15 {a0 a1 a2 a3 a4 a5 a6 a7 a8 a9 a10 a11 a12 a13 a14 : Option D} {is : List Nat} {ρ : Rho} (hf : x.frz = true) (h : Put 15 (some x) ρ fun ρ1 => Rest is (a0 :: a1 :: a2 :: a3 :: a4 :: a5 :: a6 :: a7 :: a8 :: a9 :: a10 :: a11 :: a12 :: a13 :: a14 :: some x :: r) ρ1 QR) : Rest (15 :: is) (a0 :: a1 :: a2 :: a3 :: a4 :: a5 :: a6 :: a7 :: a8 :: a9 :: a10 :: a11 :: a12 :: a13 :: a14 :: some x :: r) ρ QR := by
  unfold Rest; show QR (restR _ (if x.frz then _ else _) is); rw [hf]; exact h
theorem put_15 {a0 a1 a2 a3 a4 a5 a6 a7 a8 a9 a10 a11 a12 a13 a14 : Option D} (h : QR (a0 :: a1 :: a2 :: a3 :: a4 :: a5 :: a6 :: a7 :: a8 :: a9 :: a10 :: a11 :: a12 :: a13 :: a14 :: v :: r)) : Put 15 v (a0 :: a1 :: a2 :: a3 :: a4 :: a5 :: a6 :: a7 :: a8 :: a9 :: a10 :: a11 :: a12 :: a13 :: a14 :: o :: r) QR := h
theorem get_16 {a0 a1 a2 a3 a4 a5 a6 a7 a8 a9 a10 a11 a12 a13 a14 a15 : Option D} (h : Q x) : Get 16 (a0 :: a1 :: a2 :: a3 :: a4 :: a5 :: a6 :: a7 :: a8 :: a9 :: a10 :: a11 :: a12 :: a13 :: a14 :: a15 :: some x :: r) Q := ⟨x, rfl, h⟩
theorem gef_16 {a0 a1 a2 a3 a4 a5 a6 a7 a8 a9 a10 a11 a12 a13 a14 a15 : Option D} (hf : x.frz = true) (h : Q x) : GetF 16 (a0 :: a1 :: a2 :: a3 :: a4 :: a5 :: a6 :: a7 :: a8 :: a9 :: a10 :: a11 :: a12 :: a13 :: a14 :: a15 :: some x :: r) Q := ⟨x, rfl, hf, h⟩
theorem rest_16 {a0 a1 a2 a3 a4 a5 a6 a7 a8 a9 a10 a11 a12 a13 a14 a15 : Option D} {is : List Nat} {ρ : Rho} (h : Rest is (a0 :: a1 :: a2 :: a3 :: a4 :: a5 :: a6 :: a7 :: a8 :: a9 :: a10 :: a11 :: a12 :: a13 :: a14 :: a15 :: none :: r) ρ QR) : Rest (16 :: is) (a0 :: a1 :: a2 :: a3 :: a4 :: a5 :: a6 :: a7 :: a8 :: a9 :: a10 :: a11 :: a12 :: a13 :: a14 :: a15 :: none :: r) ρ QR := h
theorem resv_16 {a0 a1 a2 a3 a4 a5 a6 a7 a8 a9 a10 a11 a12 a13 a14 a15 : Option D} {is : List Nat} {ρ : Rho} (hf : x.frz = true) (h : Put 16 (some x) ρ fun ρ1 => Rest is (a0 :: a1 :: a2 :: a3 :: a4 :: a5 :: a6 :: a7 :: a8 :: a9 :: a10 :: a11 :: a12 :: a13 :: a14 :: a15 :: some x :: r) ρ1 QR) : Rest (16 :: is) (a0 :: a1 :: a2 :: a3 :: a4 :: a5 :: a6 :: a7 :: a8 :: a9 :: a10 :: a11 :: a12 :: a13 :: a14 :: a15 :: some x :: r) ρ QR := by
  unfold Rest; show QR (restR _ (if x.frz then _ else _) is); rw [hf]; exact h
theorem put_16 {a0 a1 a2 a3 a4 a5 a6 a7 a8 a9 a10 a11 a12 a13 a14 a15 : Option D} (h : QR (a0 :: a1 :: a2 :: a3 :: a4 :: a5 :: a6 :: a7 :: a8 :: a9 :: a10 :: a11 :: a12 :: a13 :: a14 :: a15 :: v :: r)) : Put 16 v (a0 :: a1 :: a2 :: a3 :: a4 :: a5 :: a6 :: a7 :: a8 :: a9 :: a10 :: a11 :: a12 :: a13 :: a14 :: a15 :: o :: r) QR := h
theorem get_17 {a0 a1 a2 a3 a4 a5 a6 a7 a8 a9 a10 a11 a12 a13 a14 a15 a16 : Option D} (h : Q x) : Get 17 (a0 :: a1 :: a2 :: a3 :: a4 :: a5 :: a6 :: a7 :: a8 :: a9 :: a10 :: a11 :: a12 :: a13 :: a14 :: a15 :: a16 :: some x :: r) Q := ⟨x, rfl, h⟩
theorem gef_17 {a0 a1 a2 a3 a4 a5 a6 a7 a8 a9 a10 a11 a12 a13 a14 a15 a16 : Option D} (hf : x.frz = true) (h : Q x) : GetF 17 (a0 :: a1 :: a2 :: a3 :: a4 :: a5 :: a6 :: a7 :: a8 :: a9 :: a10 :: a11 :: a12 :: a13 :: a14 :: a15 :: a16 :: some x :: r) Q := ⟨x, rfl, hf, h⟩
theorem rest_17 {a0 a1 a2 a3 a4 a5 a6 a7 a8 a9 a10 a11 a12 a13 a14 a15 a16 : Option D} {is : List Nat} {ρ : Rho} (h : Rest is (a0 :: a1 :: a2 :: a3 :: a4 :: a5 :: a6 :: a7 :: a8 :: a9 :: a10 :: a11 :: a12 :: a13 :: a14 :: a15 :: a16 :: none :: r) ρ QR) : Rest (17 :: is) (a0 :: a1 :: a2 :: a3 :: a4 :: a5 :: a6 :: a7 :: a8 :: a9 :: a10 :: a11 :: a12 :: a13 :: a14 :: a15 :: a16 :: none :: r) ρ QR := h
theorem resv_17 {a0 a1 a2 a3 a4 a5 a6 a7 a8 a9 a10 a11 a12 a13 a14 a15 a16 : Option D} {is : List Nat} {ρ : Rho} (hf : x.frz = true) (h : Put 17 (some x) ρ fun ρ1 => Rest is (a0 :: a1 :: a2 :: a3 :: a4 :: a5 :: a6 :: a7 :: a8 :: a9 :: a10 :: a11 :: a12 :: a13 :: a14 :: a15 :: a16 :: some x :: r) ρ1 QR) : Rest (17 :: is) (a0 :: a1 :: a2 :: a3 :: a4 :: a5 :: a6 :: a7 :: a8 :: a9 :: a10 :: a11 :: a12 :: a13 :: a14 :: a15 :: a16 :: some x :: r) ρ QR := by
  unfold Rest; show QR (restR _ (if x.frz then _ else _) is); rw [hf]; exact h
theorem put_17 {a0 a1 a2 a3 a4 a5 a6 a7 a8 a9 a10 a11 a12 a13 a14 a15 a16 : Option D} (h : QR (a0 :: a1 :: a2 :: a3 :: a4 :: a5 :: a6 :: a7 :: a8 :: a9 :: a10 :: a11 :: a12 :: a13 :: a14 :: a15 :: a16 :: v :: r)) : Put 17 v (a0 :: a1 :: a2 :: a3 :: a4 :: a5 :: a6 :: a7 :: a8 :: a9 :: a10 :: a11 :: a12 :: a13 :: a14 :: a15 :: a16 :: o :: r) QR := h
theorem get_18 {a0 a1 a2 a3 a4 a5 a6 a7 a8 a9 a10 a11 a12 a13 a14 a15 a16 a17 : Option D} (h : Q x) : Get 18 (a0 :: a1 :: a2 :: a3 :: a4 :: a5 :: a6 :: a7 :: a8 :: a9 :: a10 :: a11 :: a12 :: a13 :: a14 :: a15 :: a16 :: a17 :: some x :: r) Q := ⟨x, rfl, h⟩
theorem gef_18 {a0 a1 a2 a3 a4 a5 a6 a7 a8 a9 a10 a11 a12 a13 a14 a15 a16 a17 : Option D} (hf : x.frz = true) (h : Q x) : GetF 18 (a0 :: a1 :: a2 :: a3 :: a4 :: a5 :: a6 :: a7 :: a8 :: a9 :: a10 :: a11 :: a12 :: a13 :: a14 :: a15 :: a16 :: a17 :: some x :: r) Q := ⟨x, rfl, hf, h⟩
theorem rest_18 {a0 a1 a2 a3 a4 a5 a6 a7 a8 a9 a10 a11 a12 a13 a14 a15 a16 a17 : Option D} {is : List Nat} {ρ : Rho} (h : Rest is (a0 :: a1 :: a2 :: a3 :: a4 :: a5 :: a6 :: a7 :: a8 :: a9 :: a10 :: a11 :: a12 :: a13 :: a14 :: a15 :: a16 :: a17 :: none :: r) ρ QR) : Rest (18 :: is) (a0 :: a1 :: a2 :: a3 :: a4 :: a5 :: a6 :: a7 :: a8 :: a9 :: a10 :: a11 :: a12 :: a13 :: a14 :: a15 :: a16 :: a17 :: none :: r) ρ QR := h
theorem resv_18 {a0 a1 a2 a3 a4 a5 a6 a7 a8 a9 a10 a11 a12 a13 a14 a15 a16 a17 : Option D} {is : List Nat} {ρ : Rho} (hf : x.frz = true) (h : Put 18 (some x) ρ fun ρ1 => Rest is (a0 :: a1 :: a2 :: a3 :: a4 :: a5 :: a6 :: a7 :: a8 :: a9 :: a10 :: a11 :: a12 :: a13 :: a14 :: a15 :: a16 :: a17 :: some x :: r) ρ1 QR) : Rest (18 :: is) (a0 :: a1 :: a2 :: a3 :: a4 :: a5 :: a6 :: a7 :: a8 :: a9 :: a10 :: a11 :: a12 :: a13 :: a14 :: a15 :: a16 :: a17 :: some x :: r) ρ QR := by
  unfold Rest; show QR (restR _ (if x.frz then _ else _) is); rw [hf]; exact h
theorem put_18 {a0 a1 a2 a3 a4 a5 a6 a7 a8 a9 a10 a11 a12 a13 a14 a15 a16 a17 : Option D} (h : QR (a0 :: a1 :: a2 :: a3 :: a4 :: a5 :: a6 :: a7 :: a8 :: a9 :: a10 :: a11 :: a12 :: a13 :: a14 :: a15 :: a16 :: a17 :: v :: r)) : Put 18 v (a0 :: a1 :: a2 :: a3 :: a4 :: a5 :: a6 :: a7 :: a8 :: a9 :: a10 :: a11 :: a12 :: a13 :: a14 :: a15 :: a16 :: a17 :: o :: r) QR := h
theorem get_19 {a0 a1 a2 a3 a4 a5 a6 a7 a8 a9 a10 a11 a12 a13 a14 a15 a16 a17 a18 : Option D} (h : Q x) : Get 19 (a0 :: a1 :: a2 :: a3 :: a4 :: a5 :: a6 :: a7 :: a8 :: a9 :: a10 :: a11 :: a12 :: a13 :: a14 :: a15 :: a16 :: a17 :: a18 :: some x :: r) Q := ⟨x, rfl, h⟩
theorem gef_19 {a0 a1 a2 a3 a4 a5 a6 a7 a8 a9 a10 a11 a12 a13 a14 a15 a16 a17 a18 : Option D} (hf : x.frz = true) (h : Q x) : GetF 19 (a0 :: a1 :: a2 :: a3 :: a4 :: a5 :: a6 :: a7 :: a8 :: a9 :: a10 :: a11 :: a12 :: a13 :: a14 :: a15 :: a16 :: a17 :: a18 :: some x :: r) Q := ⟨x, rfl, hf, h⟩
theorem rest_19 {a0 a1 a2 a3 a4 a5 a6 a7 a8 a9 a10 a11 a12 a13 a14 a15 a16 a17 a18 : Option D} {is : List Nat} {ρ : Rho} (h : Rest is (a0 :: a1 :: a2 :: a3 :: a4 :: a5 :: a6 :: a7 :: a8 :: a9 :: a10 :: a11 :: a12 :: a13 :: a14 :: a15 :: a16 :: a17 :: a18 :: none :: r) ρ QR) : Rest (19 :: is) (a0 :: a1 :: a2 :: a3 :: a4 :: a5 :: a6 :: a7 :: a8 :: a9 :: a10 :: a11 :: a12 :: a13 :: a14 :: a15 :: a16 :: a17 :: a18 :: none :: r) ρ QR := h
theorem resv_19 {a0 a1 a2 a3 a4 a5 a6 a7 a8 a9 a10 a11 a12 a13 a14 a15 a16 a17 a18 : Option D} {is : List Nat} {ρ : Rho} (hf : x.frz = true) (h : Put 19 (some x) ρ fun ρ1 => Rest is (a0 :: a1 :: a2 :: a3 :: a4 :: a5 :: a6 :: a7 :: a8 :: a9 :: a10 :: a11 :: a12 :: a13 :: a14 :: a15 :: a16 :: a17 :: a18 :: some x :: r) ρ1 QR) : Rest (19 :: is) (a0 :: a1 :: a2 :: a3 :: a4 :: a5 :: a6 :: a7 :: a8 :: a9 :: a10 :: a11 :: a12 :: a13 :: a14 :: a15 :: a16 :: a17 :: a18 :: some x :: r) ρ QR := by
  unfold Rest; show QR (restR _ (if x.frz then _ else _) is); rw [hf]; exact h
theorem put_19 {a0 a1 a2 a3 a4 a5 a6 a7 a8 a9 a10 a11 a12 a13 a14 a15 a16 a17 a18 : Option D} (h : QR (a0 :: a1 :: a2 :: a3 :: a4 :: a5 :: a6 :: a7 :: a8 :: a9 :: a10 :: a11 :: a12 :: a13 :: a14 :: a15 :: a16 :: a17 :: a18 :: v :: r)) : Put 19 v (a0 :: a1 :: a2 :: a3 :: a4 :: a5 :: a6 :: a7 :: a8 :: a9 :: a10 :: a11 :: a12 :: a13 :: a14 :: a15 :: a16 :: a17 :: a18 :: o :: r) QR := h
theorem get_20 {a0 a1 a2 a3 a4 a5 a6 a7 a8 a9 a10 a11 a12 a13 a14 a15 a16 a17 a18 a19 : Option D} (h : Q x) : Get 20 (a0 :: a1 :: a2 :: a3 :: a4 :: a5 :: a6 :: a7 :: a8 :: a9 :: a10 :: a11 :: a12 :: a13 :: a14 :: a15 :: a16 :: a17 :: a18 :: a19 :: some x :: r) Q := ⟨x, rfl, h⟩
theorem gef_20 {a0 a1 a2 a3 a4 a5 a6 a7 a8 a9 a10 a11 a12 a13 a14 a15 a16 a17 a18 a19 : Option D} (hf : x.frz = true) (h : Q x) : GetF 20 (a0 :: a1 :: a2 :: a3 :: a4 :: a5 :: a6 :: a7 :: a8 :: a9 :: a10 :: a11 :: a12 :: a13 :: a14 :: a15 :: a16 :: a17 :: a18 :: a19 :: some x :: r) Q := ⟨x, rfl, hf, h⟩
theorem rest_20 {a0 a1 a2 a3 a4 a5 a6 a7 a8 a9 a10 a11 a12 a13 a14 a15 a16 a17 a18 a19 : Option D} {is : List Nat} {ρ : Rho} (h : Rest is (a0 :: a1 :: a2 :: a3 :: a4 :: a5 :: a6 :: a7 :: a8 :: a9 :: a10 :: a11 :: a12 :: a13 :: a14 :: a15 :: a16 :: a17 :: a18 :: a19 :: none :: r) ρ QR) : Rest (20 :: is) (a0 :: a1 :: a2 :: a3 :: a4 :: a5 :: a6 :: a7 :: a8 :: a9 :: a10 :: a11 :: a12 :: a13 :: a14 :: a15 :: a16 :: a17 :: a18 :: a19 :: none :: r) ρ QR := h
theorem resv_20 {a0 a1 a2 a3 a4 a5 a6 a7 a8 a9 a10 a11 a12 a13 a14 a15 a16 a17 a18 a19 : Option D} {is : List Nat} {ρ : Rho} (hf : x.frz = true) (h : Put 20 (some x) ρ fun ρ1 => Rest is (a0 :: a1 :: a2 :: a3 :: a4 :: a5 :: a6 :: a7 :: a8 :: a9 :: a10 :: a11 :: a12 :: a13 :: a14 :: a15 :: a16 :: a17 :: a18 :: a19 :: some x :: r) ρ1 QR) : Rest (20 :: is) (a0 :: a1 :: a2 :: a3 :: a4 :: a5 :: a6 :: a7 :: a8 :: a9 :: a10 :: a11 :: a12 :: a13 :: a14 :: a15 :: a16 :: a17 :: a18 :: a19 :: some x :: r) ρ QR := by
  unfold Rest; show QR (restR _ (if x.frz then _ else _) is); rw [hf]; exact h
theorem put_20 {a0 a1 a2 a3 a4 a5 a6 a7 a8 a9 a10 a11 a12 a13 a14 a15 a16 a17 a18 a19 : Option D} (h : QR (a0 :: a1 :: a2 :: a3 :: a4 :: a5 :: a6 :: a7 :: a8 :: a9 :: a10 :: a11 :: a12 :: a13 :: a14 :: a15 :: a16 :: a17 :: a18 :: a19 :: v :: r)) : Put 20 v (a0 :: a1 :: a2 :: a3 :: a4 :: a5 :: a6 :: a7 :: a8 :: a9 :: a10 :: a11 :: a12 :: a13 :: a14 :: a15 :: a16 :: a17 :: a18 :: a19 :: o :: r) QR := h
theorem get_21 {a0 a1 a2 a3 a4 a5 a6 a7 a8 a9 a10 a11 a12 a13 a14 a15 a16 a17 a18 a19 a20 : Option D} (h : Q x) : Get 21 (a0 :: a1 :: a2 :: a3 :: a4 :: a5 :: a6 :: a7 :: a8 :: a9 :: a10 :: a11 :: a12 :: a13 :: a14 :: a15 :: a16 :: a17 :: a18 :: a19 :: a20 :: some x :: r) Q := ⟨x, rfl, h⟩
theorem gef_21 {a0 a1 a2 a3 a4 a5 a6 a7 a8 a9 a10 a11 a12 a13 a14 a15 a16 a17 a18 a19 a20 : Option D} (hf : x.frz = true) (h : Q x) : GetF 21 (a0 :: a1 :: a2 :: a3 :: a4 :: a5 :: a6 :: a7 :: a8 :: a9 :: a10 :: a11 :: a12 :: a13 :: a14 :: a15 :: a16 :: a17 :: a18 :: a19 :: a20 :: some x :: r) Q := ⟨x, rfl, hf, h⟩
theorem rest_21 {a0 a1 a2 a3 a4 a5 a6 a7 a8 a9 a10 a11 a12 a13 a14 a15 a16 a17 a18 a19 a20 : Option D} {is : List Nat} {ρ : Rho} (h : Rest is (a0 :: a1 :: a2 :: a3 :: a4 :: a5 :: a6 :: a7 :: a8 :: a9 :: a10 :: a11 :: a12 :: a13 :: a14 :: a15 :: a16 :: a17 :: a18 :: a19 :: a20 :: none :: r) ρ QR) : Rest (21 :: is) (a0 :: a1 :: a2 :: a3 :: a4 :: a5 :: a6 :: a7 :: a8 :: a9 :: a10 :: a11 :: a12 :: a13 :: a14 :: a15 :: a16 :: a17 :: a18 :: a19 :: a20 :: none :: r) ρ QR := h
theorem resv_21 {a0 a1 a2 a3 a4 a5 a6 a7 a8 a9 a10 a11 a12 a13 a14 a15 a16 a17 a18 a19 a20 : Option D} {is : List Nat} {ρ : Rho} (hf : x.frz = true) (h : Put 21 (some x) ρ fun ρ1 => Rest is (a0 :: a1 :: a2 :: a3 :: a4 :: a5 :: a6 :: a7 :: a8 :: a9 :: a10 :: a11 :: a12 :: a13 :: a14 :: a15 :: a16 :: a17 :: a18 :: a19 :: a20 :: some x :: r) ρ1 QR) : Rest (21 :: is) (a0 :: a1 :: a2 :: a3 :: a4 :: a5 :: a6 :: a7 :: a8 :: a9 :: a10 :: a11 :: a12 :: a13 :: a14 :: a15 :: a16 :: a17 :: a18 :: a19 :: a20 :: some x :: r) ρ QR := by
  unfold Rest; show QR (restR _ (if x.frz then _ else _) is); rw [hf]; exact h
theorem put_21 {a0 a1 a2 a3 a4 a5 a6 a7 a8 a9 a10 a11 a12 a13 a14 a15 a16 a17 a18 a19 a20 : Option D} (h : QR (a0 :: a1 :: a2 :: a3 :: a4 :: a5 :: a6 :: a7 :: a8 :: a9 :: a10 :: a11 :: a12 :: a13 :: a14 :: a15 :: a16 :: a17 :: a18 :: a19 :: a20 :: v :: r)) : Put 21 v (a0 :: a1 :: a2 :: a3 :: a4 :: a5 :: a6 :: a7 :: a8 :: a9 :: a10 :: a11 :: a12 :: a13 :: a14 :: a15 :: a16 :: a17 :: a18 :: a19 :: a20 :: o :: r) QR := h
theorem get_22 {a0 a1 a2 a3 a4 a5 a6 a7 a8 a9 a10 a11 a12 a13 a14 a15 a16 a17 a18 a19 a20 a21 : Option D} (h : Q x) : Get 22 (a0 :: a1 :: a2 :: a3 :: a4 :: a5 :: a6 :: a7 :: a8 :: a9 :: a10 :: a11 :: a12 :: a13 :: a14 :: a15 :: a16 :: a17 :: a18 :: a19 :: a20 :: a21 :: some x :: r) Q := ⟨x, rfl, h⟩
theorem gef_22 {a0 a1 a2 a3 a4 a5 a6 a7 a8 a9 a10 a11 a12 a13 a14 a15 a16 a17 a18 a19 a20 a21 : Option D} (hf : x.frz = true) (h : Q x) : GetF 22 (a0 :: a1 :: a2 :: a3 :: a4 :: a5 :: a6 :: a7 :: a8 :: a9 :: a10 :: a11 :: a12 :: a13 :: a14 :: a15 :: a16 :: a17 :: a18 :: a19 :: a20 :: a21 :: some x :: r) Q := ⟨x, rfl, hf, h⟩
theorem rest_22 {a0 a1 a2 a3 a4 a5 a6 a7 a8 a9 a10 a11 a12 a13 a14 a15 a16 a17 a18 a19 a20 a21 : Option D} {is : List Nat} {ρ : Rho} (h : Rest is (a0 :: a1 :: a2 :: a3 :: a4 :: a5 :: a6 :: a7 :: a8 :: a9 :: a10 :: a11 :: a12 :: a13 :: a14 :: a15 :: a16 :: a17 :: a18 :: a19 :: a20 :: a21 :: none :: r) ρ QR) : Rest (22 :: is) (a0 :: a1 :: a2 :: a3 :: a4 :: a5 :: a6 :: a7 :: a8 :: a9 :: a10 :: a11 :: a12 :: a13 :: a14 :: a15 :: a16 :: a17 :: a18 :: a19 :: a20 :: a21 :: none :: r) ρ QR := h
theorem resv_22 {a0 a1 a2 a3 a4 a5 a6 a7 a8 a9 a10 a11 a12 a13 a14 a15 a16 a17 a18 a19 a20 a21 : Option D} {is : List Nat} {ρ : Rho} (hf : x.frz = true) (h : Put 22 (some x) ρ fun ρ1 => Rest is (a0 :: a1 :: a2 :: a3 :: a4 :: a5 :: a6 :: a7 :: a8 :: a9 :: a10 :: a11 :: a12 :: a13 :: a14 :: a15 :: a16 :: a17 :: a18 :: a19 :: a20 :: a21 :: some x :: r) ρ1 QR) : Rest (22 :: is) (a0 :: a1 :: a2 :: a3 :: a4 :: a5 :: a6 :: a7 :: a8 :: a9 :: a10 :: a11 :: a12 :: a13 :: a14 :: a15 :: a16 :: a17 :: a18 :: a19 :: a20 :: a21 :: some x :: r) ρ QR := by
  unfold Rest; show QR (restR _ (if x.frz then _ else _) is); rw [hf]; exact h
theorem put_22 {a0 a1 a2 a3 a4 a5 a6 a7 a8 a9 a10 a11 a12 a13 a14 a15 a16 a17 a18 a19 a20 a21 : Option D} (h : QR (a0 :: a1 :: a2 :: a3 :: a4 :: a5 :: a6 :: a7 :: a8 :: a9 :: a10 :: a11 :: a12 :: a13 :: a14 :: a15 :: a16 :: a17 :: a18 :: a19 :: a20 :: a21 :: v :: r)) : Put 22 v (a0 :: a1 :: a2 :: a3 :: a4 :: a5 :: a6 :: a7 :: a8 :: a9 :: a10 :: a11 :: a12 :: a13 :: a14 :: a15 :: a16 :: a17 :: a18 :: a19 :: a20 :: a21 :: o :: r) QR := h
theorem get_23 {a0 a1 a2 a3 a4 a5 a6 a7 a8 a9 a10 a11 a12 a13 a14 a15 a16 a17 a18 a19 a20 a21 a22 : Option D} (h : Q x) : Get 23 (a0 :: a1 :: a2 :: a3 :: a4 :: a5 :: a6 :: a7 :: a8 :: a9 :: a10 :: a11 :: a12 :: a13 :: a14 :: a15 :: a16 :: a17 :: a18 :: a19 :: a20 :: a21 :: a22 :: some x :: r) Q := ⟨x, rfl, h⟩
theorem gef_23 {a0 a1 a2 a3 a4 a5 a6 a7 a8 a9 a10 a11 a12 a13 a14 a15 a16 a17 a18 a19 a20 a21 a22 : Option D} (hf : x.frz = true) (h : Q x) : GetF 23 (a0 :: a1 :: a2 :: a3 :: a4 :: a5 :: a6 :: a7 :: a8 :: a9 :: a10 :: a11 :: a12 :: a13 :: a14 :: a15 :: a16 :: a17 :: a18 :: a19 :: a20 :: a21 :: a22 :: some x :: r) Q := ⟨x, rfl, hf, h⟩
theorem rest_23 {a0 a1 a2 a3 a4 a5 a6 a7 a8 a9 a10 a11 a12 a13 a14 a15 a16 a17 a18 a19 a20 a21 a22 : Option D} {is : List Nat} {ρ : Rho} (h : Rest is (a0 :: a1 :: a2 :: a3 :: a4 :: a5 :: a6 :: a7 :: a8 :: a9 :: a10 :: a11 :: a12 :: a13 :: a14 :: a15 :: a16 :: a17 :: a18 :: a19 :: a20 :: a21 :: a22 :: none :: r) ρ QR) : Rest (23 :: is) (a0 :: a1 :: a2 :: a3 :: a4 :: a5 :: a6 :: a7 :: a8 :: a9 :: a10 :: a11 :: a12 :: a13 :: a14 :: a15 :: a16 :: a17 :: a18 :: a19 :: a20 :: a21 :: a22 :: none :: r) ρ QR := h
theorem resv_23 {a0 a1 a2 a3 a4 a5 a6 a7 a8 a9 a10 a11 a12 a13 a14 a15 a16 a17 a18 a19 a20 a21 a22 : Option D} {is : List Nat} {ρ : Rho} (hf : x.frz = true) (h : Put 23 (some x) ρ fun ρ1 => Rest is (a0 :: a1 :: a2 :: a3 :: a4 :: a5 :: a6 :: a7 :: a8 :: a9 :: a10 :: a11 :: a12 :: a13 :: a14 :: a15 :: a16 :: a17 :: a18 :: a19 :: a20 :: a21 :: a22 :: some x :: r) ρ1 QR) : Rest (23 :: is) (a0 :: a1 :: a2 :: a3 :: a4 :: a5 :: a6 :: a7 :: a8 :: a9 :: a10 :: a11 :: a12 :: a13 :: a14 :: a15 :: a16 :: a17 :: a18 :: a19 :: a20 :: a21 :: a22 :: some x :: r) ρ QR := by
  unfold Rest; show QR (restR _ (if x.frz then _ else _) is); rw [hf]; exact h
theorem put_23 {a0 a1 a2 a3 a4 a5 a6 a7 a8 a9 a10 a11 a12 a13 a14 a15 a16 a17 a18 a19 a20 a21 a22 : Option D} (h : QR (a0 :: a1 :: a2 :: a3 :: a4 :: a5 :: a6 :: a7 :: a8 :: a9 :: a10 :: a11 :: a12 :: a13 :: a14 :: a15 :: a16 :: a17 :: a18 :: a19 :: a20 :: a21 :: a22 :: v :: r)) : Put 23 v (a0 :: a1 :: a2 :: a3 :: a4 :: a5 :: a6 :: a7 :: a8 :: a9 :: a10 :: a11 :: a12 :: a13 :: a14 :: a15 :: a16 :: a17 :: a18 :: a19 :: a20 :: a21 :: a22 :: o :: r) QR := h
theorem get_24 {a0 a1 a2 a3 a4 a5 a6 a7 a8 a9 a10 a11 a12 a13 a14 a15 a16 a17 a18 a19 a20 a21 a22 a23 : Option D} (h : Q x) : Get 24 (a0 :: a1 :: a2 :: a3 :: a4 :: a5 :: a6 :: a7 :: a8 :: a9 :: a10 :: a11 :: a12 :: a13 :: a14 :: a15 :: a16 :: a17 :: a18 :: a19 :: a20 :: a21 :: a22 :: a23 :: some x :: r) Q := ⟨x, rfl, h⟩
theorem gef_24 {a0 a1 a2 a3 a4 a5 a6 a7 a8 a9 a10 a11 a12 a13 a14 a15 a16 a17 a18 a19 a20 a21 a22 a23 : Option D} (hf : x.frz = true) (h : Q x) : GetF 24 (a0 :: a1 :: a2 :: a3 :: a4 :: a5 :: a6 :: a7 :: a8 :: a9 :: a10 :: a11 :: a12 :: a13 :: a14 :: a15 :: a16 :: a17 :: a18 :: a19 :: a20 :: a21 :: a22 :: a23 :: some x :: r) Q := ⟨x, rfl, hf, h⟩
theorem rest_24 {a0 a1 a2 a3 a4 a5 a6 a7 a8 a9 a10 a11 a12 a13 a14 a15 a16 a17 a18 a19 a20 a21 a22 a23 : Option D} {is : List Nat} {ρ : Rho} (h : Rest is (a0 :: a1 :: a2 :: a3 :: a4 :: a5 :: a6 :: a7 :: a8 :: a9 :: a10 :: a11 :: a12 :: a13 :: a14 :: a15 :: a16 :: a17 :: a18 :: a19 :: a20 :: a21 :: a22 :: a23 :: none :: r) ρ QR) : Rest (24 :: is) (a0 :: a1 :: a2 :: a3 :: a4 :: a5 :: a6 :: a7 :: a8 :: a9 :: a10 :: a11 :: a12 :: a13 :: a14 :: a15 :: a16 :: a17 :: a18 :: a19 :: a20 :: a21 :: a22 :: a23 :: none :: r) ρ QR := h
theorem resv_24 {a0 a1 a2 a3 a4 a5 a6 a7 a8 a9 a10 a11 a12 a13 a14 a15 a16 a17 a18 a19 a20 a21 a22 a23 : Option D} {is : List Nat} {ρ : Rho} (hf : x.frz = true) (h : Put 24 (some x) ρ fun ρ1 => Rest is (a0 :: a1 :: a2 :: a3 :: a4 :: a5 :: a6 :: a7 :: a8 :: a9 :: a10 :: a11 :: a12 :: a13 :: a14 :: a15 :: a16 :: a17 :: a18 :: a19 :: a20 :: a21 :: a22 :: a23 :: some x :: r) ρ1 QR) : Rest (24 :: is) (a0 :: a1 :: a2 :: a3 :: a4 :: a5 :: a6 :: a7 :: a8 :: a9 :: a10 :: a11 :: a12 :: a13 :: a14 :: a15 :: a16 :: a17 :: a18 :: a19 :: a20 :: a21 :: a22 :: a23 :: some x :: r) ρ QR := by
  unfold Rest; show QR (restR _ (if x.frz then _ else _) is); rw [hf]; exact h
theorem put_24 {a0 a1 a2 a3 a4 a5 a6 a7 a8 a9 a10 a11 a12 a13 a14 a15 a16 a17 a18 a19 a20 a21 a22 a23 : Option D} (h : QR (a0 :: a1 :: a2 :: a3 :: a4 :: a5 :: a6 :: a7 :: a8 :: a9 :: a10 :: a11 :: a12 :: a13 :: a14 :: a15 :: a16 :: a17 :: a18 :: a19 :: a20 :: a21 :: a22 :: a23 :: v :: r)) : Put 24 v (a0 :: a1 :: a2 :: a3 :: a4 :: a5 :: a6 :: a7 :: a8 :: a9 :: a10 :: a11 :: a12 :: a13 :: a14 :: a15 :: a16 :: a17 :: a18 :: a19 :: a20 :: a21 :: a22 :: a23 :: o :: r) QR := h
theorem get_25 {a0 a1 a2 a3 a4 a5 a6 a7 a8 a9 a10 a11 a12 a13 a14 a15 a16 a17 a18 a19 a20 a21 a22 a23 a24 : Option D} (h : Q x) : Get 25 (a0 :: a1 :: a2 :: a3 :: a4 :: a5 :: a6 :: a7 :: a8 :: a9 :: a10 :: a11 :: a12 :: a13 :: a14 :: a15 :: a16 :: a17 :: a18 :: a19 :: a20 :: a21 :: a22 :: a23 :: a24 :: some x :: r) Q := ⟨x, rfl, h⟩
theorem gef_25 {a0 a1 a2 a3 a4 a5 a6 a7 a8 a9 a10 a11 a12 a13 a14 a15 a16 a17 a18 a19 a20 a21 a22 a23 a24 : Option D} (hf : x.frz = true) (h : Q x) : GetF 25 (a0 :: a1 :: a2 :: a3 :: a4 :: a5 :: a6 :: a7 :: a8 :: a9 :: a10 :: a11 :: a12 :: a13 :: a14 :: a15 :: a16 :: a17 :: a18 :: a19 :: a20 :: a21 :: a22 :: a23 :: a24 :: some x :: r) Q := ⟨x, rfl, hf, h⟩
theorem rest_25 {a0 a1 a2 a3 a4 a5 a6 a7 a8 a9 a10 a11 a12 a13 a14 a15 a16 a17 a18 a19 a20 a21 a22 a23 a24 : Option D} {is : List Nat} {ρ : Rho} (h : Rest is (a0 :: a1 :: a2 :: a3 :: a4 :: a5 :: a6 :: a7 :: a8 :: a9 :: a10 :: a11 :: a12 :: a13 :: a14 :: a15 :: a16 :: a17 :: a18 :: a19 :: a20 :: a21 :: a22 :: a23 :: a24 :: none :: r) ρ QR) : Rest (25 :: is) (a0 :: a1 :: a2 :: a3 :: a4 :: a5 :: a6 :: a7 :: a8 :: a9 :: a10 :: a11 :: a12 :: a13 :: a14 :: a15 :: a16 :: a17 :: a18 :: a19 :: a20 :: a21 :: a22 :: a23 :: a24 :: none :: r) ρ QR := h
theorem resv_25 {a0 a1 a2 a3 a4 a5 a6 a7 a8 a9 a10 a11 a12 a13 a14 a15 a16 a17 a18 a19 a20 a21 a22 a23 a24 : Option D} {is : List Nat} {ρ : Rho} (hf : x.frz = true) (h : Put 25 (some x) ρ fun ρ1 => Rest is (a0 :: a1 :: a2 :: a3 :: a4 :: a5 :: a6 :: a7 :: a8 :: a9 :: a10 :: a11 :: a12 :: a13 :: a14 :: a15 :: a16 :: a17 :: a18 :: a19 :: a20 :: a21 :: a22 :: a23 :: a24 :: some x :: r) ρ1 QR) : Rest (25 :: is) (a0 :: a1 :: a2 :: a3 :: a4 :: a5 :: a6 :: a7 :: a8 :: a9 :: a10 :: a11 :: a12 :: a13 :: a14 :: a15 :: a16 :: a17 :: a18 :: a19 :: a20 :: a21 :: a22 :: a23 :: a24 :: some x :: r) ρ QR := by
  unfold Rest; show QR (restR _ (if x.frz then _ else _) is); rw [hf]; exact h
theorem put_25 {a0 a1 a2 a3 a4 a5 a6 a7 a8 a9 a10 a11 a12 a13 a14 a15 a16 a17 a18 a19 a20 a21 a22 a23 a24 : Option D} (h : QR (a0 :: a1 :: a2 :: a3 :: a4 :: a5 :: a6 :: a7 :: a8 :: a9 :: a10 :: a11 :: a12 :: a13 :: a14 :: a15 :: a16 :: a17 :: a18 :: a19 :: a20 :: a21 :: a22 :: a23 :: a24 :: v :: r)) : Put 25 v (a0 :: a1 :: a2 :: a3 :: a4 :: a5 :: a6 :: a7 :: a8 :: a9 :: a10 :: a11 :: a12 :: a13 :: a14 :: a15 :: a16 :: a17 :: a18 :: a19 :: a20 :: a21 :: a22 :: a23 :: a24 :: o :: r) QR := h
end
end Eng
/-! Eng22: values of the operators. -/
namespace Eng
open PySem PySem.Spec PyProof.Rows L2
mutual
theorem freeze_frz : ∀ d : D, d.frz = true → d.freeze = d
  | .lst o xs, h => by
    simp only [D.frz, Bool.and_eq_true, Bool.not_eq_true'] at h
    simp only [D.freeze, h.1, freezes_frz xs h.2]
  | .tup xs, h => by
    simp only [D.frz] at h
    simp only [D.freeze, freezes_frz xs h]
  | .dic o kvs, h => by
    simp only [D.frz, Bool.and_eq_true, Bool.not_eq_true'] at h
    rw [frzK_eq] at h
    simp only [D.freeze, h.1, freezeK_eq]
    rw [freezesK_frz kvs h.2, List.zip_map']
    exact congrArg _ (List.map_id _)
  | .ins o c fs, h => by
    simp only [D.frz, Bool.and_eq_true, Bool.not_eq_true'] at h
    rw [frzF_eq] at h
    simp only [D.freeze, h.1, freezeF_eq]
    rw [freezesF_frz fs h.2, List.zip_map']
    exact congrArg _ (List.map_id _)
  | .exo c fs, h => rfl
  | .non, _ => rfl
  | .bl _, _ => rfl
  | .int _, _ => rfl
  | .str _, _ => rfl
  | .ty _, _ => rfl
  | .scr _, _ => rfl
theorem freezes_frz : ∀ ds : List D, frzs ds = true → freezes ds = ds
  | [], _ => rfl
  | d :: ds, h => by
    simp only [frzs, Bool.and_eq_true] at h
    simp only [freezes, freeze_frz d h.1, freezes_frz ds h.2]
theorem freezesK_frz : ∀ ds : List (D × D), frzs (ds.map (·.2)) = true → freezes (ds.map (·.2)) = ds.map (·.2)
  | [], _ => rfl
  | (k, d) :: ds, h => by
    simp only [List.map_cons, frzs, Bool.and_eq_true] at h
    simp only [List.map_cons, freezes, freeze_frz d h.1, freezesK_frz ds h.2]
theorem freezesF_frz : ∀ ds : List (Str × D), frzs (ds.map (·.2)) = true → freezes (ds.map (·.2)) = ds.map (·.2)
  | [], _ => rfl
  | (k, d) :: ds, h => by
    simp only [List.map_cons, frzs, Bool.and_eq_true] at h
    simp only [List.map_cons, freezes, freeze_frz d h.1, freezesF_frz ds h.2]
end
theorem w_frzl {i : Nat} {ρ : Rho} {n : MS} {R : Out → Prop} (h : Get i ρ fun d => ∃ o xs, d = .lst o xs ∧ frzs xs = true ∧ Put i (some (.lst false xs)) ρ fun ρ1 => WS n ρ1 R) : WS (sFrz i n) ρ R := by
  obtain ⟨d, e, o, xs, rfl, hf, q⟩ := h
  refine w_frz ⟨_, e, ?_⟩
  simp only [D.freeze, freezes_frz xs hf]
  exact q
section
variable {i j : Int} {s t : List Nat} {Q : D → Prop} {P : Prop} {o : Bool} {xs : List D} {QL : List D → Prop}
theorem wo_add (h : Q (.int (i + j))) : WO (addD (.int i) (.int j)) Q := ⟨_, rfl, h⟩
theorem wo_adds (hl : s.length + t.length ≤ 16777216) (h : Q (.str (s ++ t))) : WO (addD (.str s) (.str t)) Q := ⟨_, if_pos hl, h⟩
theorem wo_sub (h : Q (.int (i - j))) : WO (subD (.int i) (.int j)) Q := ⟨_, rfl, h⟩
theorem wo_iadd (h : Q (.int (i + j))) : WO (iaddD (.int i) (.int j)) Q := ⟨_, rfl, h⟩
theorem wo_mod (hj : 0 < j) (h : Q (.int (i % j))) : WO (modD (.int i) (.int j)) Q := ⟨_, if_pos hj, h⟩
theorem wo_fdiv (hj : 0 < j) (hb : j < 2 ^ 60) (h : Q (.int (i / j))) : WO (fdivD (.int i) (.int j)) Q := ⟨_, if_pos ⟨hj, by
  by_cases h0 : j.natAbs = 0
  · rw [h0]; decide
  · have : j.natAbs < 2 ^ 9000 := Nat.lt_of_lt_of_le (m := 2 ^ 60) (by omega) (Nat.pow_le_pow_right (by decide) (by decide))
    exact (Nat.log2_lt h0).mpr this⟩, h⟩
theorem log_small {n : Nat} (h : n < 2 ^ 90) : n.log2 < 90 := by
  by_cases h0 : n = 0
  · subst h0; decide
  · exact (Nat.log2_lt h0).mpr h
theorem wo_mul (hi : -2 ^ 90 < i ∧ i < 2 ^ 90) (hj : -2 ^ 90 < j ∧ j < 2 ^ 90) (h : Q (.int (i * j))) : WO (mulD (.int i) (.int j)) Q := ⟨_, if_pos (by
  unfold IntMulE
  have h1 := log_small (n := i.natAbs) (by omega)
  have h2 := log_small (n := j.natAbs) (by omega)
  exact decide_eq_true (by omega)), h⟩
theorem wo_pow (hj : 0 ≤ j ∧ j ≤ 1000000 ∧ i.natAbs < 2 ^ 64) (h : Q (.int (i ^ j.toNat))) : WO (powD (.int i) (.int j)) Q := ⟨_, if_pos hj, h⟩
theorem wo_eqi (h : Q (.bl (decide (i = j)))) : WO (eqD (.int i) (.int j)) Q := ⟨_, rfl, h⟩
theorem wo_nei (h : Q (.bl (!decide (i = j)))) : WO (neD (.int i) (.int j)) Q := ⟨_, rfl, h⟩
theorem wo_eqs (h : Q (.bl (decide (s = t)))) : WO (eqD (.str s) (.str t)) Q := ⟨_, rfl, h⟩
theorem wo_nes (h : Q (.bl (!decide (s = t)))) : WO (neD (.str s) (.str t)) Q := ⟨_, rfl, h⟩
theorem wo_lt (h : Q (.bl (decide (i < j)))) : WO (ltD (.int i) (.int j)) Q := ⟨_, rfl, h⟩
theorem wo_le (h : Q (.bl (decide (i ≤ j)))) : WO (leD (.int i) (.int j)) Q := ⟨_, rfl, h⟩
theorem wo_gt (h : Q (.bl (decide (i > j)))) : WO (gtD (.int i) (.int j)) Q := ⟨_, rfl, h⟩
theorem wo_ge (h : Q (.bl (decide (i ≥ j)))) : WO (geD (.int i) (.int j)) Q := ⟨_, rfl, h⟩
theorem wo_neg (h : Q (.int (-i))) : WO (negD (.int i)) Q := ⟨_, rfl, h⟩
theorem wo_lenl (h : Q (.int xs.length)) : WO (lenD [.lst o xs]) Q := ⟨_, rfl, h⟩
theorem wo_lent (h : Q (.int xs.length)) : WO (lenD [.tup xs]) Q := ⟨_, rfl, h⟩
theorem wo_lens (hl : s.length ≤ 16777216) (h : Q (.int s.length)) : WO (lenD [.str s]) Q := ⟨_, if_pos hl, h⟩
theorem wo_int (h : Q (.int i)) : WO (intD [.int i]) Q := ⟨_, rfl, h⟩
theorem wo_abs (h : Q (.int (if i < 0 then -i else i))) : WO (absD [.int i]) Q := ⟨_, rfl, h⟩
theorem wo_listl (hf : frzs xs = true) (h : Q (.lst true xs)) : WO (listD [.lst o xs]) Q := ⟨_, if_pos hf, h⟩
theorem wo_tuplel (hf : frzs xs = true) (h : Q (.tup xs)) : WO (tupleD [.lst o xs]) Q := ⟨_, if_pos hf, h⟩
theorem wo_sls {lo hi : Option Int} (hl : s.length ≤ 16777216) (h : Q (.str (cutL s lo hi))) : WO (slD (.str s) lo hi) Q := ⟨_, if_pos hl, h⟩
theorem wo_itl (h : QL (freezes xs)) : WO (itD (.lst o xs)) QL := ⟨_, rfl, h⟩
theorem wo_itt (h : QL (freezes xs)) : WO (itD (.tup xs)) QL := ⟨_, rfl, h⟩
theorem wo_its (h : QL (s.map fun c => .str [c])) : WO (itD (.str s)) QL := ⟨_, rfl, h⟩
theorem wo_rev (hl : s.length ≤ 16777216) (h : Q (.str s.reverse)) : WO (revD (.str s)) Q := ⟨_, if_pos hl, h⟩
theorem wo_swap (ha : s.all (· < 128) = true) (hl : s.length ≤ 5592405) (h : Q (.str (s.map sw1))) : WO (swapM s []) Q := ⟨_, by unfold swapM; rw [if_pos (by rw [ha, Bool.true_and]; exact decide_eq_true hl)], h⟩
theorem wo_up (ha : s.all (· < 128) = true) (hl : s.length ≤ 5592405) (h : Q (.str (s.map up1))) : WO (upM s []) Q := ⟨_, by unfold upM; rw [if_pos (by rw [ha, Bool.true_and]; exact decide_eq_true hl)], h⟩
theorem wo_lo (ha : s.all (· < 128) = true) (hl : s.length ≤ 5592405) (h : Q (.str (s.map lo1))) : WO (loM s []) Q := ⟨_, by unfold loM; rw [if_pos (by rw [ha, Bool.true_and]; exact decide_eq_true hl)], h⟩
theorem wo_islow (ha : s.all (· < 128) = true) (h : Q (.bl (isLowS s))) : WO (islowM s []) Q := ⟨_, by unfold islowM; rw [if_pos ha], h⟩
theorem wo_muls {k : Int} (hk : 0 ≤ k ∧ k ≤ 1000000) (hl : s.length * k.toNat ≤ 16777216) (h : Q (.str (List.replicate k.toNat s).flatten)) : WO (mulD (.str s) (.int k)) Q := ⟨_, if_pos (decide_eq_true ⟨by omega, by omega, hl⟩), h⟩
theorem cut_to {α : Type} {xs : List α} {k : Nat} (h : k ≤ xs.length) : cutL xs none (some (k : Int)) = xs.take k := by
  unfold cutL
  rw [HT.sIx_none, HT.sIx_nat, List.drop_zero, Nat.sub_zero, Nat.min_eq_left h]
theorem cut_from {α : Type} {xs : List α} {k : Nat} (h : k ≤ xs.length) : cutL xs (some (k : Int)) none = xs.drop k := by
  unfold cutL
  rw [HT.sIx_none, HT.sIx_nat, Nat.min_eq_left h]
  exact List.take_of_length_le (by rw [List.length_drop]; omega)
theorem cut_mid {α : Type} {xs : List α} {a b : Nat} (h : a ≤ b) (hb : b ≤ xs.length) : cutL xs (some (a : Int)) (some (b : Int)) = (xs.drop a).take (b - a) := by
  unfold cutL
  rw [HT.sIx_nat, HT.sIx_nat, Nat.min_eq_left hb, Nat.min_eq_left (by omega)]
theorem fz_int (h : P) : IsFz (.int i) P := ⟨rfl, h⟩
theorem fz_str (h : P) : IsFz (.str s) P := ⟨rfl, h⟩
theorem fz_bl {b : Bool} (h : P) : IsFz (.bl b) P := ⟨rfl, h⟩
theorem atI_nat' {α : Type} {l : List α} {n : Nat} {x : α} (h : l[n]? = some x) : atI l (n : Int) = some x := atI_nat h
theorem wo_ixl {k : Int} {d : D} (h : atI xs k = some d) (q : Q d) : WO (idxD (.lst o xs) (.int k)) Q := ⟨_, h, q⟩
theorem wo_ixs {k : Int} {c : Nat} (hl : s.length ≤ 16777216) (h : atI s k = some c) (q : Q (.str [c])) : WO (idxD (.str s) (.int k)) Q := ⟨.str [c], by show (if s.length ≤ 16777216 then (atI s k).map (fun c => D.str [c]) else none) = _; rw [if_pos hl, h]; rfl, q⟩
end
end Eng
/-! Eng23: try, with clauses that name what they take and clauses that do not. -/
namespace Eng
open PySem PySem.Spec PyProof.Rows L2
abbrev Su := Addr → Value → Option Addr → TS
/-- behind a clause that names: the name is gone -/
def bare (i : Nat) (D : Ends) : Ends := { nx := fun τ G => D.nx (τ.set i none) G, rt := D.rt, bk := fun τ G => D.bk (τ.set i none) G, ct := fun τ G => D.ct (τ.set i none) G }
def wCl (K : PySem.W.Frag) (V : WX) (D : Ends) : List (Value × Option Nat × Su) → WX
  | [] => V
  | (c, none, ts) :: r => fun k d τ G => ∃ b, PySem.W.exmOne K k c = some b ∧ (b = true → ∀ a, G a = none → ts a k d D τ G) ∧ (b = false → wCl K V D r k d τ G)
  | (c, some i, ts) :: r => fun k d τ G => ∃ b, PySem.W.exmOne K k c = some b ∧ (b = true → ∀ a, G a = none → ts a k d (bare i D) (τ.set i (some (.ref a))) G) ∧ (b = false → wCl K V D r k d τ G)
def SuOk (X : Cx) (b : List Stmt) (ts : Su) : Prop := ∀ (a : Addr) (ob : Obj) (k : Value) (d : Option Addr) (pn : List (Addr × Obj)), Zc k d ob → (∃ vs, ob.data = .fields vs) → PSs (X.suite a ((a, ob) :: pn)) b (ts a k d)
inductive Cls (X : Cx) : List ExceptHandler → List (Value × Option Nat × Su) → Prop
  | nil : Cls X [] []
  | plain {x : Str} {c : Value} {ts : Su} {st : Stmt} {sts : List Stmt} {p q : Pos} {hs : List ExceptHandler} {l : List (Value × Option Nat × Su)} (nm : Names X x c) (su : SuOk X (st :: sts) ts) (r : Cls X hs l) :
      Cls X (.ExceptHandler (some (.Name x p)) none (st :: sts) q :: hs) ((c, none, ts) :: l)
  | named {x n : Str} {i : Nat} {c : Value} {ts : Su} {st : Stmt} {sts : List Stmt} {p q : Pos} {hs : List ExceptHandler} {l : List (Value × Option Nat × Su)} (nm : Names X x c) (ix : X.N[i]? = some n) (lc : X.env.kindOf n = some .local) (su : SuOk X (st :: sts) ts)
      (r : Cls X hs l) : Cls X (.ExceptHandler (some (.Name x p)) (some n) (st :: sts) q :: hs) ((c, some i, ts) :: l)
section
variable {X : Cx} {body : List Stmt} {h0 : ExceptHandler} {hs : List ExceptHandler} {l : List (Value × Option Nat × Su)} {pos : Pos} {tb : WX → TS} {V : WX}
theorem end_of {pins : List (Addr × Obj)} {D : Ends} {f : Flow} {s : Shared} (ok : X.Ok) {Y : Cx} {pn : List (Addr × Obj)} (back : ∀ {τ : L2.St} {G : Hp}, Inv Y pn τ G s → Inv X pins τ G s) (h : SP Y pn D f s) : SP X pins D f s := by
  cases f with
  | ret u => obtain ⟨v, τ, G, J, r, q⟩ := h; exact ⟨v, τ, G, back J, r, q⟩
  | next => obtain ⟨τ, G, J, q⟩ := h; exact ⟨τ, G, back J, q⟩
  | brk => obtain ⟨τ, G, J, q⟩ := h; exact ⟨τ, G, back J, q⟩
  | cont => obtain ⟨τ, G, J, q⟩ := h; exact ⟨τ, G, back J, q⟩
theorem ps_tryC (hst : X.stack = X.env :: X.outer) (hfr : X.env.frame = some X.env.locals) (hN : X.N.Nodup) (tk : Takes X V)
    (hb : ∀ (W : WX) (pn : List (Addr × Obj)) (xe : Value → Shared → Prop), Takes (X.tr pn xe) W → PassesOwn (model X.prog X.w) X.A X.env xe → PSs (X.tr pn xe) body (tb W))
    (hc : Cls X (h0 :: hs) l) : PS X (.Try body (h0 :: hs) [] [] pos) (fun D τ G => tb (wCl X.K V D l) D τ G) := by
  refine ⟨fun pins s τ G D I h => wpAny_Try_except ?_⟩
  have ok := I.ok
  have fr : X.A.frames = some (X.env :: X.outer) := by rw [ok.frames, hst]
  let xe : Value → Shared → Prop := fun e s₁ => wpAny (model X.prog X.w) X.A (noteFrame e X.env) (fun _ s₂ => wpAny (model X.prog X.w) X.A (setFlight e none) (fun _ s₃ =>
    wpAny (model X.prog X.w) X.A (handleBy e X.env (h0 :: hs)) (SP X pins D) X.xe s₃) X.xe s₂) X.xe s₁
  refine wpAny_mono ((hb (wCl X.K V D l) (X.pn ++ pins) xe (fun u s' xx => ?_) PassesOwn.looking).run [] s τ G D (I.toTry _) h) (fun f s1 sp => ?_) (fun e s1 he => he)
  case refine_2 =>
    have q := end_of ok (fun J => J.ofTry ok) sp
    cases f with
    | next => exact wpAny_execs_nil q
    | ret u => exact q
    | brk => exact q
    | cont => exact q
  obtain ⟨a, B, sI, _, τ', G', k, d, rfl, J0, nb, up, sky, na, os, ag, w⟩ := xx
  have J : Inv X pins τ' G' sI := J0.ofTry ok
  have sky2 : Sky B (X.env :: X.outer) a (Zc k d) X.env.locals s'.heap := by rw [← hst]; exact sky
  show wpAny (model X.prog X.w) X.A (noteFrame (.ref a) X.env) _ _ _
  refine Sky.land Zc.steady fr hfr sky2 fun h3 fl up3 => ?_
  have J3 : Inv X pins τ' G' { s' with heap := h3 } := J.landed nb fl.1 (up.trans up3) os ag
  obtain ⟨ob, vs, e3, z3, d3⟩ := fl.there
  have out : a ∉ frs (X.env :: X.outer) := fun hm => by
    obtain ⟨_, o', e', nf⟩ := fl.2.2.1.mem hm
    rw [e3] at e'
    cases e'
    exact nf _ d3
  have nL : a ≠ X.env.locals := fun z => out (List.mem_filterMap.mpr ⟨X.env, List.mem_cons_self, by rw [hfr, z]⟩)
  have nF : a ∉ X.fs := fun hm => by
    obtain ⟨e, he, q⟩ := List.mem_filterMap.mp hm
    exact out (List.mem_filterMap.mpr ⟨e, List.mem_cons_of_mem _ he, q⟩)
  have S3 := J3.suite e3 d3 na nL nF
  have LT : PySem.W.Looks (model X.prog X.w) h3 (typeOf (.ref a)) k := fun A Q E s kk q => wpAny_typeOf_ref (kk _ _ e3) (by rw [z3.1]; exact q)
  have look : ∀ {x : Str} {c : Value} {p : Pos} {Q E : Value → Shared → Prop}, Names X x c → Q c { s' with heap := h3 } → wpAny (model X.prog X.w) (X.A.mark (some (.ref a))) (eval (.Name x p) X.env) Q E { s' with heap := h3 } := fun nm q => by
    rcases nm with ⟨hg, hd, hm | ⟨hm, hv, hn⟩⟩
    · exact ld_glob (X := X.suite a ((a, ob) :: (X.pn ++ pins))) S3 hg hm q hd
    · exact ld_blt (X := X.suite a ((a, ob) :: (X.pn ++ pins))) S3 hg hm hv q hn hd
  suffices go : ∀ {hs' : List ExceptHandler} {l' : List (Value × Option Nat × Su)}, Cls X hs' l' → wCl X.K V D l' k d τ' G' → wpAny (model X.prog X.w) X.A (handleBy (.ref a) X.env hs') (SP X pins D) X.xe { s' with heap := h3 } from go hc w
  intro hs' l' hk
  induction hk with
  | nil =>
    refine fun w => wpAny_handleBy_nil ?_
    obtain ⟨k1, k2, k3, oe, us, T, oT, ts', he, hz, hd, h1, hr⟩ := id fl
    unfold PySem.passOn
    refine wpAny_bind (wpAny_field he hd h1 ?_)
    rw [if_neg (show ¬ ((Value.ref T == Value.none) = true) from by simp)]
    have fin : wpAny (model X.prog X.w) X.A (setFlight (.ref a) X.env.frame) (fun _ s4 => wpAny (model X.prog X.w) X.A (throw (.ref a) : Sem Flow) (SP X pins D) X.xe s4) X.xe { s' with heap := h3 } := by
      rw [hfr]
      exact HandSPX.setFlight_upZ fl fun h4 hh4 up4 => wpAny_throw (tk _ _ ⟨a, B, sI, pins, τ', G', k, d, rfl, J, nb, (up.trans up3).trans up4, .inr (.inr (by rw [hst]; exact hh4)), na, os, ag, w⟩)
    first
      | exact wpAny_bind (wpAny_pure (wpAny_bind fin))
      | exact wpAny_bind fin
  | plain nm su r ih =>
    rintro ⟨b, hb1, yes, no⟩
    refine wpAny_handleBy_cons (codeAny_handlers_test ?_) (by intro q; cases q)
    refine look nm ((PySem.W.exm_one (M := model X.prog X.w) J3.kIn LT hb1).here ?_)
    cases b with
    | false => exact ih (no rfl)
    | true =>
      refine codeAny_handlers_suite (HandSPX.lands_againZ fl fun h4 fl4 up4 => ?_)
      have J4 : Inv X pins τ' G' { s' with heap := h4 } := J.landed nb fl4.1 ((up.trans up3).trans up4) os ag
      obtain ⟨ob4, vs4, e4, z4, d4⟩ := fl4.there
      have S4 := J4.suite e4 d4 na nL nF
      exact wpAny_mono ((su a ob4 k d (X.pn ++ pins) z4 ⟨_, d4⟩).run [] _ _ G' _ S4 (yes rfl a na)) (fun f s6 sp => end_of ok (fun S6 => S6.unsuite ok) sp) fun _ _ z => z.elim
  | named nm ix lc su r ih =>
    rintro ⟨b, hb1, yes, no⟩
    refine wpAny_handleBy_cons (codeAny_handlers_test ?_) (by intro q; cases q)
    refine look nm ((PySem.W.exm_one (M := model X.prog X.w) J3.kIn LT hb1).here ?_)
    cases b with
    | false => exact ih (no rfl)
    | true =>
      refine codeAny_handlers_suite_as (HandSPX.lands_againZ fl fun h4 fl4 up4 => ?_)
      have J4 : Inv X pins τ' G' { s' with heap := h4 } := J.landed nb fl4.1 ((up.trans up3).trans up4) os ag
      obtain ⟨ob4, vs4, e4, z4, d4⟩ := fl4.there
      have S4 := J4.suite e4 d4 na nL nF
      refine store_ok (X := X.suite a ((a, ob4) :: (X.pn ++ pins))) (v := .ref a) S4 hN ix (.inl lc) rfl (fun s5 S5 => ?_) (.inr lc)
      refine wpAny_mono ((su a ob4 k d (X.pn ++ pins) z4 ⟨_, d4⟩).run [] s5 _ G' _ S5 (yes rfl a na)) (fun f s6 sp => ?_) fun _ _ z => z.elim
      cases f with
      | ret u =>
        obtain ⟨v6, τ6, G6, S6, r6, q6⟩ := sp
        exact gone_ok (S6.unsuite ok) hN ix lc fun s7 J7 => ⟨v6, _, G6, J7, r6, q6⟩
      | next =>
        obtain ⟨τ6, G6, S6, q6⟩ := sp
        exact gone_ok (S6.unsuite ok) hN ix lc fun s7 J7 => ⟨_, G6, J7, q6⟩
      | brk =>
        obtain ⟨τ6, G6, S6, q6⟩ := sp
        exact gone_ok (S6.unsuite ok) hN ix lc fun s7 J7 => ⟨_, G6, J7, q6⟩
      | cont =>
        obtain ⟨τ6, G6, S6, q6⟩ := sp
        exact gone_ok (S6.unsuite ok) hN ix lc fun s7 J7 => ⟨_, G6, J7, q6⟩
end
end Eng
/-! Eng24: raise of an own class without arguments. -/
namespace Eng
open PySem PySem.Spec PyProof.Rows L2
abbrev veMro : List Value := [.type "ValueError", .type "Exception", .type "BaseException", .type "object"]
/-- x is an error class of the program's own, below ValueError -/
structure ErrAt (K : PySem.W.Frag) (mg : Str → Option Value) (x : Str) : Prop where
  ex : ∃ C, mg x = some (.ref C) ∧ PySem.W.excIn K C veMro "ValueError.__new__" = true ∧ PySem.W.keepIn K (.ref C) = true ∧ PySem.W.subIn K (.ref C) (.type "BaseException") = some true ∧ PySem.W.typeIn K (.ref C) = some (.type "type")
section
variable {X : Cx} {W : WX} {kp : List Nat} {pos p q : Pos} {x : Str}
theorem mk_own0 {C : Addr} (F : ExcBaseFacts "ValueError" "ValueError.__new__" "ValueError.__init__" veMro) (hx : PySem.W.excIn X.K C veMro "ValueError.__new__" = true) (hm : X.mg x = some (.ref C)) (hk : PySem.W.keepIn X.K (.ref C) = true) (r : Raises X (.ref C)) (hg : Gl X x)
    (hd : (x == ("__debug__" : Str)) = false := by decide) : PMk X (.Call (.Name x p) [] [] pos) (fun _ H Q => Q (.ref C) none H) := by
  intro pins s σ H Q I h
  refine wpAny_Call_Name_kw (ld_glob I hg hm ?_ hd)
  refine PySem.W.callWith_K0 I.kIn hk ?_
  show wpAny _ _ (call (.ref C) []) _ _ _
  obtain ⟨bm, N, nm, qn, bs, hdct, sn, sub, ab, col, dd, k0, k1, k2, k3, k5, mN, hC, hN, hni, T⟩ := exc_obj I.kIn hx
  exact wpAny_call_exc_subT F T hC hN hni (fun h' e made => mk_of I made r h (I.hok.gone made.new)) (by show 0 ≤ sizeLine; omega)
theorem s_raise0 (e : ErrAt X.K X.mg x) (tk : Takes X W) (hc : X.calm = true := by rfl) (hg : Gl X x := by rfl) (hd : (x == ("__debug__" : Str)) = false := by decide) : PDS X W kp (.Raise (some (.Call (.Name x p) [] [] pos)) none q) (sRaise x) := by
  obtain ⟨C, hm, hx, hk, hb, ht⟩ := e.ex
  exact s_raise hm (ps_raise hc tk (mk_own0 PySem.F.excBase_ValueError hx hm hk (raises_own hb ht) hg hd))
end
end Eng
/-! Eng25: try: the mirror. -/
namespace Eng
open PySem PySem.Spec PyProof.Rows L2
mutual
def D.nx : D → Bool
  | .lst _ xs => nxs xs
  | .tup xs => nxs xs
  | .dic _ kvs => nxK kvs
  | .ins _ _ fs => nxF fs
  | .exo _ _ => false
  | .non => true
  | .bl _ => true
  | .int _ => true
  | .str _ => true
  | .ty _ => true
  | .scr _ => true
def nxs : List D → Bool
  | [] => true
  | d :: ds => d.nx && nxs ds
def nxK : List (D × D) → Bool
  | [] => true
  | (_, d) :: ds => d.nx && nxK ds
def nxF : List (Str × D) → Bool
  | [] => true
  | (_, d) :: ds => d.nx && nxF ds
end
theorem nxK_eq : ∀ l : List (D × D), nxK l = nxs (l.map (·.2))
  | [] => rfl
  | (k, d) :: r => by simp [nxK, nxs, nxK_eq r]
theorem nxF_eq : ∀ l : List (Str × D), nxF l = nxs (l.map (·.2))
  | [] => rfl
  | (k, d) :: r => by simp [nxF, nxs, nxF_eq r]
theorem nx_kids {d : D} (h : d.nx = true) : nxs d.kids = true := by
  cases d <;> simp only [D.nx, D.kids, nxK_eq, nxF_eq, nxs] at h ⊢ <;> exact h
section
variable {mg : Ev} {B H : Hp}
theorem Atom.hd {v : V} {d : D} (z : Option Addr) (h : Atom mg B v d) (k : d.nx = true) : Atom ⟨mg.mg, mg.K, z⟩ B v d := by
  cases v <;> cases d <;> simp only [Atom] at h ⊢ <;> first | exact h | (simp [D.nx] at k)
theorem Shape.hd {X : Hp} {v : V} {d : D} {vs : List V} {A : List Addr} (z : Option Addr) (h : Shape mg X v d vs A) : Shape ⟨mg.mg, mg.K, z⟩ X v d vs A := by
  cases v <;> cases d <;> simp only [Shape] at h ⊢ <;> exact h
mutual
theorem Own.hd (z : Option Addr) : ∀ {v d F}, Own mg B H v d F → d.nx = true → Own ⟨mg.mg, mg.K, z⟩ B H v d F
  | _, _, _, .atom h, k => .atom (h.hd z k)
  | _, _, _, .fro a s t e, k => .fro a (s.hd z) (Owns.hd z t (nx_kids k)) e
  | _, _, _, .own a s t, k => .own a (s.hd z) (Owns.hd z t (nx_kids k))
theorem Owns.hd (z : Option Addr) : ∀ {vs ds F}, Owns mg B H vs ds F → nxs ds = true → Owns ⟨mg.mg, mg.K, z⟩ B H vs ds F
  | _, _, _, .nil, _ => .nil
  | _, _, _, .cons h t, k => by
    simp only [nxs, Bool.and_eq_true] at k
    exact .cons (Own.hd z h k.1) (Owns.hd z t k.2)
end
def nxR : Rho → Bool
  | [] => true
  | some d :: r => d.nx && nxR r
  | none :: r => nxR r
theorem nxR_at : ∀ {ρ : Rho} {i : Nat} {d : D}, nxR ρ = true → ρ[i]? = some (some d) → d.nx = true
  | [], i, d, _, h => by simp at h
  | none :: r, 0, d, _, h => by simp at h
  | none :: r, i + 1, d, k, h => nxR_at (ρ := r) k (by simpa using h)
  | some e :: r, 0, d, k, h => by
    simp only [nxR, Bool.and_eq_true] at k
    simp at h; subst h; exact k.1
  | some e :: r, i + 1, d, k, h => by
    simp only [nxR, Bool.and_eq_true] at k
    exact nxR_at (ρ := r) k.2 (by simpa using h)
theorem Sta.hd {σ : L2.St} {ρ : Rho} {U : List Addr} (z : Option Addr) (s : Sta mg B H σ ρ U) (k : nxR ρ = true) : Sta ⟨mg.mg, mg.K, z⟩ B H σ ρ U := by
  obtain ⟨l, Fs, lf, pu, kk⟩ := s.sl
  refine ⟨s.sub, ⟨l, Fs, lf, pu, fun i d hi => ?_⟩, s.nd, s.off, s.ex⟩
  obtain ⟨v, F, a, b, c⟩ := kk i d hi
  exact ⟨v, F, a, b, c.hd z (nxR_at k hi)⟩
end
end Eng
/-! Eng26: try statements. -/
namespace Eng
open PySem PySem.Spec PyProof.Rows L2
abbrev Han := Str × Option Nat × (Exc → MS)
/-- behind a suite -/
def outH (i : Option Nat) (o : Out) : Out := match o with
  | .nx ρ => match i with
    | none => if nxR ρ then .nx ρ else .stuck
    | some i => if nxR (ρ.set i none) then .nx (ρ.set i none) else .stuck
  | .rt d ρ => match i with
    | none => if d.nx && nxR ρ then .rt d ρ else .stuck
    | some i => if d.nx && nxR (ρ.set i none) then .rt d (ρ.set i none) else .stuck
  | _ => .stuck
def tryH (sub : Str → Str → Option Bool) : List Han → Exc → Rho → Out
  | [], e, ρ => .exc e ρ
  | (c, i, m) :: r, e, ρ => match sub e.cls c with
    | none => .stuck
    | some false => tryH sub r e ρ
    | some true => if nxR ρ then (match i with
        | some i => if i < ρ.length then outH (some i) (m e (ρ.set i (some (.exo e.cls e.fs)))) else .stuck
        | none => outH none (m e ρ)) else .stuck
def sTry (sub : Str → Str → Option Bool) (m : MS) (hs : List Han) : MS := fun ρ => match m ρ with
  | .exc e ρ1 => tryH sub hs e ρ1
  | o => o
/-- what a suite may lean on -/
def Caught (X : Cx) (sub : Str → Str → Option Bool) (c : Str) (e : Exc) (k : Value) (d : Option Addr) : Prop := ∃ C : Addr, X.mg e.cls = some (.ref C) ∧ k = .ref C ∧ sub e.cls c = some true ∧ (e.fs = [] → d = none)
theorem caught_d {mg : Ev} {B H : Hp} {e : Exc} {k : Value} {d : Option Addr} (h : ExcR mg B H e k d) (z : e.fs = []) : d = none := by
  obtain ⟨_, _, _, h | ⟨_, _, n, _⟩⟩ := h
  · exact h.2
  · exact absurd z n
inductive Hans (X : Cx) (kp : List Nat) (sub : Str → Str → Option Bool) : List ExceptHandler → List Han → Prop
  | nil : Hans X kp sub [] []
  | plain {x : Str} {c : Value} {m : Exc → MS} {st : Stmt} {sts : List Stmt} {p q : Pos} {hs : List ExceptHandler} {l : List Han} (nm : Names X x c) (ok : ∀ y b C, sub y x = some b → X.mg y = some (.ref C) → PySem.W.exmOne X.K (.ref C) c = some b)
      (su : ∀ (e : Exc) (a : Addr) (ob : Obj) (k : Value) (d : Option Addr) (pn : List (Addr × Obj)), Zc k d ob → (∃ vs, ob.data = .fields vs) → Caught X sub x e k d → PDSs (X.suite a ((a, ob) :: pn)) W0 kp (st :: sts) (m e)) (r : Hans X kp sub hs l) :
      Hans X kp sub (.ExceptHandler (some (.Name x p)) none (st :: sts) q :: hs) ((x, none, m) :: l)
  | named {x n : Str} {i : Nat} {c : Value} {m : Exc → MS} {st : Stmt} {sts : List Stmt} {p q : Pos} {hs : List ExceptHandler} {l : List Han} (nm : Names X x c) (ok : ∀ y b C, sub y x = some b → X.mg y = some (.ref C) → PySem.W.exmOne X.K (.ref C) c = some b)
      (ix : X.N[i]? = some n) (lc : X.env.kindOf n = some .local) (hk : i ∉ kp)
      (su : ∀ (e : Exc) (a : Addr) (ob : Obj) (k : Value) (d : Option Addr) (pn : List (Addr × Obj)), Zc k d ob → (∃ vs, ob.data = .fields vs) → Caught X sub x e k d → PDSs (X.suite a ((a, ob) :: pn)) W0 kp (st :: sts) (m e)) (r : Hans X kp sub hs l) :
      Hans X kp sub (.ExceptHandler (some (.Name x p)) (some n) (st :: sts) q :: hs) ((x, some i, m) :: l)
section
variable {X : Cx} {Wo : WX} {kp : List Nat} {sub : Str → Str → Option Bool}
theorem ev_eta {z : Option Addr} (h : X.ev.hd = z) : X.ev = ⟨X.mg, X.K, z⟩ := by
  subst h; rfl
theorem ev_suite (a : Addr) (pn : List (Addr × Obj)) : (X.suite a pn).ev = ⟨X.mg, X.K, some a⟩ := rfl
theorem Sta.clear {mg : Ev} {B H : Hp} {σ σ2 : L2.St} {ρ : Rho} {U : List Addr} (i : Nat) (s : Sta mg B H σ ρ U) : Sta mg B H (σ.set i none) (ρ.set i none) U := by
  obtain ⟨l, Fs, lf, pu, k⟩ := s.sl
  refine ⟨s.sub, ⟨by simp [l], Fs, by simp [lf], pu, fun j d h => ?_⟩, s.nd, s.off, s.ex⟩
  have ne : j ≠ i := fun e => by
    subst e
    by_cases hj : j < ρ.length
    · rw [List.getElem?_set_self hj] at h; simp at h
    · rw [List.getElem?_eq_none (by simpa using hj)] at h; cases h
  rw [List.getElem?_set_ne (Ne.symm ne)] at h
  obtain ⟨v, F, a, b, c⟩ := k j d h
  exact ⟨v, F, by rw [List.getElem?_set_ne (Ne.symm ne)]; exact a, b, c⟩
/-- the clauses keep what the mirror says -/
theorem hans_ok {hs : List ExceptHandler} {hl : List Han} (h : Hans X kp sub hs hl) : ∃ l, Cls X hs l ∧ ∀ (D : Ends) (e : Exc) (ρ : Rho) (σ : L2.St) (B H : Hp) (U : List Addr) (k : Value) (d : Option Addr),
    Sta X.ev B H σ ρ U → ExcR X.ev B H e k d → Wish X.ev Wo kp D (tryH sub hl e ρ) σ B H U → wCl X.K Wo D l k d σ H := by
  induction h with
  | nil => exact ⟨[], .nil, fun D e ρ σ B H U k d st er w => w σ B H U k d (PostS.refl st) er⟩
  | @plain x c m st sts p q hs hl nm ok su r ih =>
    obtain ⟨l, hc, hw⟩ := ih
    refine ⟨(c, none, fun a k d D σ H => ∃ e, Caught X sub x e k d ∧ tS ⟨X.mg, X.K, some a⟩ W0 kp (m e) D σ H) :: l, .plain nm (fun a ob k d pn hz hv => ⟨fun pins s σ H D I ⟨e, h1, h2⟩ => (su e a ob k d pn hz hv h1).run pins s σ H D I h2⟩) hc, fun D e ρ σ B H U k d sta er w => ?_⟩
    obtain ⟨C, hC, rfl, hd⟩ := id er
    unfold tryH at w
    cases hsb : sub e.cls x with
    | none => rw [hsb] at w; exact w.elim
    | some b =>
      refine ⟨b, ok _ _ _ hsb hC, fun hb a na => ?_, fun hb => ?_⟩
      · subst hb
        rw [hsb] at w
        dsimp only at w
        by_cases hx : nxR ρ = true
        case neg => rw [if_neg hx] at w; exact w.elim
        rw [if_pos hx] at w
        refine ⟨e, ⟨C, hC, rfl, hsb, caught_d er⟩, B, ρ, U, sta.hd (some a) hx, ?_⟩
        unfold outH at w
        cases hm : m e ρ with
        | nx ρ' =>
          rw [hm] at w
          intro σ' B' H' U' p
          dsimp only at w
          by_cases hy : nxR ρ' = true
          case neg => rw [if_neg hy] at w; exact w.elim
          rw [if_pos hy] at w
          exact w σ' B' H' U' ⟨p.st.hd X.ev.hd hy, p.step, p.kp⟩
        | rt d' ρ' =>
          rw [hm] at w
          intro v σ' B' H' U' F p
          dsimp only at w
          by_cases hy : (d'.nx && nxR ρ') = true
          case neg => rw [if_neg hy] at w; exact w.elim
          rw [if_pos hy] at w
          rw [Bool.and_eq_true] at hy
          exact w v σ' B' H' U' F ⟨p.st.hd X.ev.hd hy.2, p.own.hd X.ev.hd hy.1, p.sep, p.new, p.step, p.kp⟩
        | bk ρ' => rw [hm] at w; exact w.elim
        | ct ρ' => rw [hm] at w; exact w.elim
        | exc e ρ' => rw [hm] at w; exact w.elim
        | stuck => rw [hm] at w; exact w.elim
      · subst hb
        rw [hsb] at w
        exact hw D e ρ σ B H U _ d sta er w
  | @named x n i c m st sts p q hs hl nm ok ix lc hk su r ih =>
    obtain ⟨l, hc, hw⟩ := ih
    refine ⟨(c, some i, fun a k d D σ H => ∃ e, Caught X sub x e k d ∧ tS ⟨X.mg, X.K, some a⟩ W0 kp (m e) D σ H) :: l, .named nm ix lc (fun a ob k d pn hz hv => ⟨fun pins s σ H D I ⟨e, h1, h2⟩ => (su e a ob k d pn hz hv h1).run pins s σ H D I h2⟩) hc, fun D e ρ σ B H U k d sta er w => ?_⟩
    obtain ⟨C, hC, rfl, hd⟩ := id er
    unfold tryH at w
    cases hsb : sub e.cls x with
    | none => rw [hsb] at w; exact w.elim
    | some b =>
      refine ⟨b, ok _ _ _ hsb hC, fun hb a na => ?_, fun hb => ?_⟩
      · subst hb
        rw [hsb] at w
        dsimp only at w
        by_cases hx : nxR ρ = true
        case neg => rw [if_neg hx] at w; exact w.elim
        rw [if_pos hx] at w
        by_cases hi : i < ρ.length
        case neg => rw [if_neg hi] at w; exact w.elim
        rw [if_pos hi] at w
        have own : Own ⟨X.mg, X.K, some a⟩ B H (.ref a) (.exo e.cls e.fs) [] := .atom rfl
        obtain ⟨U0, s0, m0⟩ := (sta.hd (some a) hx).put hi own Sep.nil
        rw [List.nil_append] at s0
        have kp0 : ∀ j ∈ kp, (σ.set i (some (L2.V.ref a)))[j]? = σ[j]? := fun j hj => List.getElem?_set_ne fun (z : i = j) => hk (by rw [z]; exact hj)
        have kp1 : ∀ {τ : L2.St}, (∀ j ∈ kp, τ[j]? = (σ.set i (some (L2.V.ref a)))[j]?) → ∀ j ∈ kp, (τ.set i none)[j]? = σ[j]? := fun h j hj => by
          rw [List.getElem?_set_ne fun (z : i = j) => hk (by rw [z]; exact hj), h j hj, kp0 j hj]
        refine ⟨e, ⟨C, hC, rfl, hsb, caught_d er⟩, B, _, U0, s0, ?_⟩
        unfold outH at w
        cases hm : m e (ρ.set i (some (.exo e.cls e.fs))) with
        | nx ρ' =>
          rw [hm] at w
          intro σ' B' H' U' p
          dsimp only at w
          by_cases hy : nxR (ρ'.set i none) = true
          case neg => rw [if_neg hy] at w; exact w.elim
          rw [if_pos hy] at w
          exact w _ B' H' U' ⟨(p.st.clear (σ2 := σ') i).hd X.ev.hd hy, p.step.weak m0 fun a h => .inl h, kp1 p.kp⟩
        | rt d' ρ' =>
          rw [hm] at w
          intro v σ' B' H' U' F p
          dsimp only at w
          by_cases hy : (d'.nx && nxR (ρ'.set i none)) = true
          case neg => rw [if_neg hy] at w; exact w.elim
          rw [if_pos hy] at w
          rw [Bool.and_eq_true] at hy
          exact w v _ B' H' U' F ⟨(p.st.clear (σ2 := σ') i).hd X.ev.hd hy.2, p.own.hd X.ev.hd hy.1, p.sep, fun a h => (p.new a h).imp (m0 a) id, p.step.weak m0 fun a h => .inl h, kp1 p.kp⟩
        | bk ρ' => rw [hm] at w; exact w.elim
        | ct ρ' => rw [hm] at w; exact w.elim
        | exc e ρ' => rw [hm] at w; exact w.elim
        | stuck => rw [hm] at w; exact w.elim
      · subst hb
        rw [hsb] at w
        exact hw D e ρ σ B H U _ d sta er w
theorem s_try {body : List Stmt} {h0 : ExceptHandler} {hs : List ExceptHandler} {hl : List Han} {mb : MS} {pos : Pos} (hst : X.stack = X.env :: X.outer) (hfr : X.env.frame = some X.env.locals) (hN : X.N.Nodup) (tk : Takes X Wo)
    (hb : ∀ (W : WX) (pn : List (Addr × Obj)) (xe : Value → Shared → Prop), Takes (X.tr pn xe) W → PassesOwn (model X.prog X.w) X.A X.env xe → PDSs (X.tr pn xe) W kp body mb)
    (hh : Hans X kp sub (h0 :: hs) hl) : PDS X Wo kp (.Try body (h0 :: hs) [] [] pos) (sTry sub mb hl) := by
  obtain ⟨l, hc, hw⟩ := hans_ok (Wo := Wo) hh
  refine PS.weak (ps_tryC (tb := fun W => tS X.ev W kp mb) hst hfr hN tk hb hc) fun D σ H ⟨B, ρ, U, st, k⟩ => ⟨B, ρ, U, st, ?_⟩
  dsimp only [sTry] at k
  cases hm : mb ρ with
  | exc e ρ1 =>
    rw [hm] at k
    intro σ1 B1 H1 U1 cls dx p er
    exact hw D e ρ1 σ1 B1 H1 U1 cls dx p.st er (Wish.back (σa := σ) (Ba := B) (Ha := H) (Ua := U) k p)
  | nx ρ' => rw [hm] at k; exact k
  | rt d ρ' => rw [hm] at k; exact k
  | bk ρ' => rw [hm] at k; exact k
  | ct ρ' => rw [hm] at k; exact k
  | stuck => rw [hm] at k; exact k
end
end Eng
/-! Eng27: words for try and raise. -/
namespace Eng
open PySem PySem.Spec PyProof.Rows L2
/-- a class that a clause names, and whom it takes -/
structure HanAt (K : PySem.W.Frag) (mg : Str → Option Value) (sub : Str → Str → Option Bool) (x : Str) : Prop where
  ex : ∃ c, (mg x = some c ∨ (mg x = none ∧ bootBuiltins x = some c ∧ x ≠ "__name__")) ∧ ∀ y b C, sub y x = some b → mg y = some (.ref C) → PySem.W.exmOne K (.ref C) c = some b
section
variable {X : Cx} {kp : List Nat} {sub : Str → Str → Option Bool} {x n : Str} {m : Exc → MS} {st : Stmt} {sts : List Stmt} {p q : Pos} {hs : List ExceptHandler} {l : List Han}
theorem h_plain (h : HanAt X.K X.mg sub x) (su : ∀ (e : Exc) (a : Addr) (ob : Obj) (k : Value) (d : Option Addr) (pn : List (Addr × Obj)), Zc k d ob → (∃ vs, ob.data = .fields vs) → Caught X sub x e k d → PDSs (X.suite a ((a, ob) :: pn)) W0 kp (st :: sts) (m e)) (r : Hans X kp sub hs l)
    (hg : Gl X x := by rfl) (hd : (x == ("__debug__" : Str)) = false := by decide) : Hans X kp sub (.ExceptHandler (some (.Name x p)) none (st :: sts) q :: hs) ((x, none, m) :: l) := by
  obtain ⟨c, hm, ok⟩ := h.ex
  exact .plain ⟨hg, hd, hm⟩ ok su r
theorem h_named (i : Nat) (h : HanAt X.K X.mg sub x) (su : ∀ (e : Exc) (a : Addr) (ob : Obj) (k : Value) (d : Option Addr) (pn : List (Addr × Obj)), Zc k d ob → (∃ vs, ob.data = .fields vs) → Caught X sub x e k d → PDSs (X.suite a ((a, ob) :: pn)) W0 kp (st :: sts) (m e)) (r : Hans X kp sub hs l)
    (ix : X.N[i]? = some n := by rfl) (lc : X.env.kindOf n = some .local := by rfl) (hk : i ∉ kp := by decide)
    (hg : Gl X x := by rfl) (hd : (x == ("__debug__" : Str)) = false := by decide) : Hans X kp sub (.ExceptHandler (some (.Name x p)) (some n) (st :: sts) q :: hs) ((x, some i, m) :: l) := by
  obtain ⟨c, hm, ok⟩ := h.ex
  exact .named ⟨hg, hd, hm⟩ ok ix lc hk su r
end
end Eng
/-! Eng28: isinstance of what was caught. -/
namespace Eng
open PySem PySem.Spec PyProof.Rows L2
structure IsAt (K : PySem.W.Frag) (mg : Str → Option Value) (sub : Str → Str → Option Bool) (h x : Str) (tb : Str → Option Bool) : Prop where
  ex : ∃ (v : V) (cv : Value), (mg x = some cv ∨ (mg x = none ∧ bootBuiltins x = some cv ∧ x ≠ "__name__")) ∧ RelV v cv ∧ (∀ u, RelV v u → u = cv) ∧
    ∀ y C, sub y h = some true → mg y = some (.ref C) → ExcC K C ∧ ∃ b, tb y = some b ∧ PySem.W.kitOne K (.ref C) cv = some b
def eIsE (e : Exc) (tb : Str → Option Bool) (i : Nat) : M D := fun ρ => if e.fs.isEmpty then (match tb e.cls with
  | some b => (match ρ[i]? with
    | some (some (.exo _ _)) => .ok (.bl b) ρ
    | _ => .stuck)
  | none => .stuck) else .stuck
section
variable {X : Cx} {sub : Str → Str → Option Bool} {h x n : Str} {e : Exc} {a : Addr} {ob : Obj} {k : Value} {d : Option Addr} {pn : List (Addr × Obj)} {p p1 p2 pos : Pos} {tb : Str → Option Bool}
theorem d_isE (i : Nat) (T : IsAt X.K X.mg sub h x tb) (hz : Zc k d ob) (hv : ∃ vs, ob.data = .fields vs) (cg : Caught X sub h e k d) (hm : X.mg "isinstance" = none)
    (hN : X.N[i]? = some n := by rfl) (hvs : Vis X.env.scope n := by first | exact Or.inl rfl | exact Or.inr (Or.inl rfl) | exact Or.inr (Or.inr rfl)) (hd : (n == ("__debug__" : Str)) = false := by decide)
    (hcd : (n == ("__classdict__" : Str)) = false := by decide) (hg : Gl X "isinstance" := by rfl) (hgx : Gl X x := by rfl) (hdx : (x == ("__debug__" : Str)) = false := by decide) :
    PD (X.suite a ((a, ob) :: pn)) W0 false true (.Call (.Name "isinstance" p) [.Name n p1, .Name x p2] [] pos) (eIsE e tb i) := by
  obtain ⟨C, hC, rfl, hs, hd0⟩ := cg
  obtain ⟨v, cv, hx, rv, ru, tbl⟩ := T.ex
  obtain ⟨xc, b, hb, hk⟩ := tbl _ _ hs hC
  by_cases hf : e.fs = []
  case neg =>
    refine ⟨fun pins s σ H Q I ⟨B, ρ, U, st, q⟩ => ?_⟩
    unfold eIsE at q
    rw [if_neg (by simpa using hf)] at q
    exact q.elim
  obtain rfl := hd0 hf
  have gl : PE (X.suite a ((a, ob) :: pn)) (.Name x p2) (tC v) := by
    rcases hx with hx | ⟨h1, h2, h3⟩
    · exact pe_glob (X := X.suite a ((a, ob) :: pn)) hgx hx rv hdx
    · exact pe_bltn (X := X.suite a ((a, ob) :: pn)) hgx h1 h2 rv h3 hdx
  have pv0 := pe_var (X := X.suite a ((a, ob) :: pn)) (pos := p1) hN hvs hd hcd
  refine PE.weak (pe_callB (X := X.suite a ((a, ob) :: pn)) (call_isE xc hz hv) hg hm boot_isinstance (pa_cons pv0 (pa_cons gl pa_nil))) fun σ H Q ⟨B, ρ, U, st, q⟩ => ?_
  unfold eIsE at q
  rw [if_pos (by simpa using hf), hb] at q
  dsimp only at q
  cases hr : ρ[i]? with
  | none => rw [hr] at q; exact q.elim
  | some o1 =>
  cases o1 with
  | none => rw [hr] at q; exact q.elim
  | some dd =>
  cases dd with
  | exo c fs =>
    rw [hr] at q
    obtain ⟨w, F, U', e1, o, _⟩ := st.take hr
    have hw : w = .ref a := by
      cases o with
      | atom h =>
        cases w <;> simp only [Atom] at h
        cases h; rfl
      | fro z s => cases w <;> simp [Shape] at s
      | own z => simp [D.own] at z
    subst hw
    exact ⟨_, e1, v, cv, b, rfl, ru, hk, q _ B H U [] ((Post.start st).fin (New.flat st.sub (.atom rfl)))⟩
  | _ => rw [hr] at q; exact q.elim
end
end Eng
/-! Eng29: a dict of one text. -/
namespace Eng
open PySem PySem.Spec PyProof.Rows L2
theorem New.dic1 {mg : Ev} {B H : Hp} {x y : Str} {s t : List Nat} (hx : x.cps.toList = s) (hy : y.cps.toList = t) (hs : ∀ a o, B a = some o → H a = some o) {p : Addr} (hp : H p = none) {H' : Hp} (e : H' = upd (upd H p (.dK [])) p (.dK [((.inr x : Key), V.str y)])) :
    New mg B H (.ref p) (.dic true [(.str s, .str t)]) B H' [p] where
  own := by
    subst e hx hy
    refine .own (A := [p]) (F := []) (vs := [V.str y]) rfl ⟨rfl, rfl, .inl ⟨[.inr x], rfl, upd_same⟩⟩ (.cons (F := []) (G := []) (.atom rfl) .nil)
  step := by
    subst e
    have ne : ∀ a, H a ≠ none → a ≠ p := fun a h z => h (by rw [z]; exact hp)
    exact ⟨fun a o h => by
        have hh := hs a o h
        rw [upd_ne (ne a (by rw [hh]; simp)), upd_ne (ne a (by rw [hh]; simp))]; exact hh, fun _ _ h => h,
      fun a h _ => by rw [upd_ne (ne a h), upd_ne (ne a h)], fun _ h => absurd h (by simp), fun a h => .inl h⟩
  nd := by simp
  nw := fun a h => by
    simp at h; subst h
    refine ⟨hp, ?_⟩
    cases z : B a with
    | none => rfl
    | some o => rw [hs _ _ z] at hp; cases hp
theorem d_dic1 {X : Cx} {W : WX} {x y : Str} {s t : List Nat} {i j : Nat} {p1 p2 pos : Pos} (hx : x.cps.toList = s := by rfl) (hy : y.cps.toList = t := by rfl) :
    PD X W false true (.Dict [some (.Constant (.str x) i p1)] [.Constant (.str y) j p2] pos) (eK (.dic true [(.str s, .str t)])) :=
  PE.weak (pe_disp (pps_cons pe_str pe_str pps_nil) rfl rfl (by simp) (by simp)) fun σ H Q ⟨B, ρ, U, st, k⟩ => fun p hp =>
    ⟨upd_same, [((.inr x : Key), V.str y)], rfl, by simp, k _ B _ U [p] ((Post.start st).fin (New.dic1 hx hy st.sub hp rfl))⟩
end Eng
/-! Eng30: outcomes of try and raise. -/
namespace Eng
open PySem PySem.Spec PyProof.Rows L2
/-- what becomes of a try's body -/
def Tried (sub : Str → Str → Option Bool) (hs : List Han) (R : Out → Prop) (o : Out) : Prop := match o with
  | .exc e ρ => R (tryH sub hs e ρ)
  | o => R o
/-- what becomes of a suite -/
def Suited (i : Option Nat) (R : Out → Prop) (o : Out) : Prop := R (outH i o)
section
variable {ρ : Rho} {R : Out → Prop} {sub : Str → Str → Option Bool} {hs : List Han} {e : Exc} {c : Str} {m : Exc → MS} {mb : MS} {d : D} {i : Nat} {n : MS}
theorem w_try (h : WS mb ρ (Tried sub hs R)) : WS (sTry sub mb hs) ρ R := by
  unfold WS Tried sTry at *
  cases hm : mb ρ <;> rw [hm] at h <;> exact h
theorem w_raise (h : R (.exc ⟨c, []⟩ ρ)) : WS (sRaise c) ρ R := h
theorem td_nx (h : R (.nx ρ)) : Tried sub hs R (.nx ρ) := h
theorem td_rt (h : R (.rt d ρ)) : Tried sub hs R (.rt d ρ) := h
theorem td_exc (h : R (tryH sub hs e ρ)) : Tried sub hs R (.exc e ρ) := h
theorem th_exc (h : R (.exc e ρ)) : Then n R (.exc e ρ) := h
theorem hd_no (hb : sub e.cls c = some false) {o : Option Nat} (h : R (tryH sub hs e ρ)) : R (tryH sub ((c, o, m) :: hs) e ρ) := by
  unfold tryH
  rw [hb]
  exact h
theorem hd_plain (hb : sub e.cls c = some true) (hx : nxR ρ = true) (h : WS (m e) ρ (Suited none R)) : R (tryH sub ((c, none, m) :: hs) e ρ) := by
  unfold tryH
  rw [hb]
  simp only [hx, if_true]
  exact h
theorem hd_named (hb : sub e.cls c = some true) (hx : nxR ρ = true) (hi : i < ρ.length) (h : Put i (some (.exo e.cls e.fs)) ρ fun ρ1 => WS (m e) ρ1 (Suited (some i) R)) : R (tryH sub ((c, some i, m) :: hs) e ρ) := by
  unfold tryH
  rw [hb]
  simp only [hx, hi, if_true]
  exact h
theorem su_nx (hx : nxR ρ = true) (h : R (.nx ρ)) : Suited none R (.nx ρ) := by
  unfold Suited outH
  simp only [hx, if_true]
  exact h
theorem su_rt (hd : d.nx = true) (hx : nxR ρ = true) (h : R (.rt d ρ)) : Suited none R (.rt d ρ) := by
  unfold Suited outH
  simp only [hx, hd, Bool.and_self, if_true]
  exact h
theorem sn_nx (h : Put i none ρ fun ρ1 => nxR ρ1 = true ∧ R (.nx ρ1)) : Suited (some i) R (.nx ρ) := by
  obtain ⟨hx, h⟩ := h
  unfold Suited outH
  simp only [hx, if_true]
  exact h
theorem fn_exc {kp : List Nat} {np : Nat} {E : Exc → List (Option D) → Prop} {Q : D → List (Option D) → Prop} {ps : List (Option D)} (hp : pick kp 0 np ρ = ps) (h : E e ps) : Fin kp np E Q (.exc e ρ) := by subst hp; exact h
theorem wf_exc {f : Fo} {ps : List (Option D)} {E : Exc → List (Option D) → Prop} {Q : D → List (Option D) → Prop} (h : f = .exc e ps) (q : E e ps) : WF f E Q := by subst h; exact q
theorem w_ise {tb : Str → Option Bool} {b : Bool} {E : Exc → Rho → Prop} {Q : D → Rho → Prop} (hf : e.fs = []) (ht : tb e.cls = some b) (h : Get i ρ fun d => ∃ c fs, d = .exo c fs ∧ Q (.bl b) ρ) : W (eIsE e tb i) ρ E Q := by
  obtain ⟨d, hr, c, fs, rfl, q⟩ := h
  unfold W eIsE
  rw [if_pos (by rw [hf]; rfl), ht]
  dsimp only
  rw [hr]
  exact q
end
end Eng
/-! Eng31: the facts about classes, from what the top has written. -/
namespace Eng
open PySem PySem.Spec PyProof.Rows L2
theorem look_mem {α β : Type} [BEq α] [LawfulBEq α] {k : α} {b : β} : ∀ {l : List (α × β)}, l.lookup k = some b → (k, b) ∈ l
  | [], h => by simp at h
  | (a, c) :: l, h => by
    rw [List.lookup_cons] at h
    by_cases e : (k == a) = true
    · rw [e] at h
      cases h
      rw [eq_of_beq e]; exact List.mem_cons_self
    · rw [Bool.not_eq_true] at e
      rw [e] at h
      exact List.mem_cons_of_mem _ (look_mem h)
section
variable {K : PySem.W.Frag} {h : Heap} {mg : Str → Option Value} {x y z : Str} {C : Addr}
theorem err_mk (X : K.In h) (G : h.Ns mainGlobals mg) (a : PySem.W.nsIn K mainGlobals x = some (some (.ref C))) (hx : PySem.W.excIn K C veMro "ValueError.__new__" = true) (hk : PySem.W.keepIn K (.ref C) = true) (hb : PySem.W.subIn K (.ref C) (.type "BaseException") = some true)
    (ht : PySem.W.typeIn K (.ref C) = some (.type "type")) : ErrAt K mg x := ⟨⟨C, PySem.W.mg_of X G a, hx, hk, hb, ht⟩⟩
/-- a clause's class of the program's own; ys: whom it takes, each with its class -/
theorem han_mk {sub : Str → Str → Option Bool} (X : K.In h) (G : h.Ns mainGlobals mg) (a : PySem.W.nsIn K mainGlobals x = some (some (.ref C))) (ys : List (Str × Addr × Bool))
    (hsub : ∀ y b, sub y x = some b → ∃ D, (y, D, b) ∈ ys) (hy : ∀ t ∈ ys, PySem.W.nsIn K mainGlobals t.1 = some (some (.ref t.2.1)) ∧ PySem.W.exmOne K (.ref t.2.1) (.ref C) = some t.2.2) : HanAt K mg sub x := by
  refine ⟨⟨.ref C, .inl (PySem.W.mg_of X G a), fun y b C' h1 h2 => ?_⟩⟩
  obtain ⟨D, hm⟩ := hsub y b h1
  obtain ⟨k1, k2⟩ := hy _ hm
  have e := (PySem.W.mg_of X G k1).symm.trans h2
  cases e
  exact k2
theorem is_mk {sub : Str → Str → Option Bool} {tb : Str → Option Bool} {v : V} {cv : Value} {hc : Str} (X : K.In h) (G : h.Ns mainGlobals mg) (a : mg x = some cv ∨ (mg x = none ∧ bootBuiltins x = some cv ∧ x ≠ "__name__")) (rv : RelV v cv) (ru : ∀ u, RelV v u → u = cv) (ys : List (Str × Addr × Bool))
    (hsub : ∀ y, sub y hc = some true → ∃ D b, (y, D, b) ∈ ys) (hy : ∀ t ∈ ys, PySem.W.nsIn K mainGlobals t.1 = some (some (.ref t.2.1)) ∧ ExcC K t.2.1 ∧ tb t.1 = some t.2.2 ∧ PySem.W.kitOne K (.ref t.2.1) cv = some t.2.2) : IsAt K mg sub hc x tb := by
  refine ⟨⟨v, cv, a, rv, ru, fun y C' h1 h2 => ?_⟩⟩
  obtain ⟨D, b, hm⟩ := hsub y h1
  obtain ⟨k1, k2, k3, k4⟩ := hy _ hm
  have e := (PySem.W.mg_of X G k1).symm.trans h2
  cases e
  exact ⟨k2, b, k3, k4⟩
end
end Eng
/-! Eng32: isinstance's facts from subIn. -/
namespace Eng
open PySem PySem.Spec PyProof.Rows L2
theorem kit_sub {K : PySem.W.Frag} {C D : Addr} (hd : PySem.W.hasDictIn K D = true) (ht : PySem.W.typeIn K (.ref D) = some (.type "type")) (hs : PySem.W.subIn K (.ref C) (.ref D) = some true) : PySem.W.kitOne K (.ref C) (.ref D) = some true := by
  obtain ⟨cd, hc, _⟩ := PySem.W.any_some hd
  unfold PySem.W.kitOne PySem.W.kitCls
  split
  · rfl
  · dsimp only
    rw [hc, ht]
    exact hs
theorem kit_subT {K : PySem.W.Frag} {C : Addr} {T : String} {b : Bool} (hm : PySem.W.kitMeta T = true) (hs : PySem.W.subIn K (.ref C) (.type T) = some b) : PySem.W.kitOne K (.ref C) (.type T) = some b := by
  unfold PySem.W.kitOne PySem.W.kitCls
  rw [if_neg (by intro z; cases (beq_iff_eq.mp z))]
  dsimp only
  rw [if_pos hm]
  exact hs
end Eng
/-! Eng33: looks at a goal's head. -/
namespace Eng
theorem gWO {α : Type} {o : Option α} {Q : α → Prop} (h : WO o Q) : WO o Q := h
theorem gEx {α : Sort _} {p : α → Prop} (h : ∃ x, p x) : ∃ x, p x := h
theorem gAnd {p q : Prop} (h : p ∧ q) : p ∧ q := h
end Eng
/-! Eng34: isupper; range downwards; comparisons of data that are alike. -/
namespace Eng
open PySem PySem.Spec PyProof.Rows L2
/-! ### isupper -/
def isUpS (s : List Nat) : Bool := s.any isUp && !s.any isLo
theorem isupper_S {s : List Nat} (h : s.all (· < 128) = true) : Txt.isupper (S s) = isUpS s := by
  have hh : ∀ c ∈ s, c < 128 := fun c hc => of_decide_eq_true (List.all_eq_true.mp h c hc)
  unfold Txt.isupper isUpS
  have e1 : s.any Unicode.isUpper = s.any isUp := any_congr fun c hc => (isUp_ascii c (hh c hc)).1
  have e2 : (s.any fun c => Unicode.isLower c || Unicode.isTitle c) = s.any isLo := any_congr fun c hc => by
    obtain ⟨_, a, b⟩ := isUp_ascii c (hh c hc)
    rw [a, b, Bool.or_false]
  rw [← Array.any_toList, ← Array.any_toList, S_list, e1, e2]
def isupM : List Nat → List D → Option D := fun s ds => match ds with
  | [] => if s.all (· < 128) then some (.bl (isUpS s)) else none
  | _ => none
section
variable {X : Cx}
theorem md_isup : MtD X "str.isupper" isupM := by
  intro pins s σ H x xs v us Q I rx rs ⟨B, t, ds, G, z, hs, ex, o, hf, q⟩
  subst ex
  unfold isupM at hf
  split at hf
  · obtain rfl := owns_nil o
    split at hf <;> cases hf
    rename_i hc
    exact mt_isupper pins s σ H _ _ v us Q I rx rs ⟨_, rfl, rfl, trivial, by rw [isupper_S hc]; exact q _ B H [] (New.flat hs (.atom rfl))⟩
  · cases hf
end
theorem wo_isup {s : List Nat} {Q : D → Prop} (ha : s.all (· < 128) = true) (h : Q (.bl (isUpS s))) : WO (isupM s []) Q := ⟨_, by unfold isupM; rw [if_pos ha], h⟩
/-! ### range(i, j, -1) -/
def dnL : D → D → D → Option (List D)
  | .int i, .int j, .int k => if k = -1 ∧ -(2 ^ 62) ≤ i ∧ i < 2 ^ 62 ∧ -(2 ^ 62) ≤ j ∧ j < 2 ^ 62 then some ((List.range (i - j).toNat).map fun (k : Nat) => .int (i - (k : Int))) else none
  | _, _, _ => none
theorem dnL_some {d e f : D} {ds : List D} (h : dnL d e f = some ds) : ∃ i j, d = .int i ∧ e = .int j ∧ f = .int (-1) ∧ (-(2 ^ 62) ≤ i ∧ i < 2 ^ 62 ∧ -(2 ^ 62) ≤ j ∧ j < 2 ^ 62) ∧ ds = (List.range (i - j).toNat).map fun (k : Nat) => D.int (i - (k : Int)) := by
  unfold dnL at h
  split at h
  · split at h
    · rename_i hj
      cases h
      obtain ⟨rfl, hj⟩ := hj
      exact ⟨_, _, rfl, rfl, rfl, hj, rfl⟩
    · cases h
  · cases h
def iRgN (m n k : M D) : M (List D) := mBind m fun d => mBind n fun e => mBind k fun f => mOpt (dnL d e f)
section
variable {mg : Ev} {B : Hp}
theorem itr_dn {lo : Int} {n : Nat} : ItR mg B (Itc lo (-1) n) ((List.range n).map fun (k : Nat) => .int (lo - (k : Int))) where
  go := fun i H _ hi => by
    have : i < n := by simpa using hi
    exact this
  stop := fun H _ => by show n ≤ _; simp
  yld := fun i H x H' d B1 hb hb1 hd ⟨e, ex⟩ => by
    subst e ex
    rw [List.getElem?_map] at hd
    cases h : (List.range n)[i]? with
    | none => rw [h] at hd; cases hd
    | some k =>
      rw [h] at hd; cases hd
      have := List.getElem?_eq_some_iff.mp h
      obtain ⟨_, e⟩ := this
      simp at e; subst e
      exact ⟨B1, .atom (show lo + (i : Int) * -1 = lo - (i : Int) by omega), Step.refl hb1⟩
end
section
variable {X : Cx} {W : WX} {a1 a2 a3 s1 s2 s3 : Bool} {tg ea eb ec : Expr} {ma mb mc : M D} {pos : Pos}
theorem i_rgN {p : Pos} (ha : PD X W a1 s1 ea ma) (hb : PD X W a2 s2 eb mb) (hc : PD X W a3 s3 ec mc) (hm : X.mg "range" = none) (hg : Gl X "range" := by rfl)
    (hs : starEach [ea, eb, ec] X.env = (false, eval ea X.env) :: starEach [eb, ec] X.env := by rfl) (hs2 : starEach [eb, ec] X.env = (false, eval eb X.env) :: starEach [ec] X.env := by rfl) (hs3 : starEach [ec] X.env = [(false, eval ec X.env)] := by rfl)
    (hpl : (backTo pos (starEach [eb, ec] X.env)).any (·.1) = false := by rfl) : PDI X W tg (.Call (.Name "range" p) [ea, eb, ec] [] pos) (iRgN ma mb mc) :=
  PI.weak (pi_range3 hg hm (pa_cons ha (pa_cons hb (pa_cons hc pa_nil hs3) hs2) hs) hs hpl) fun σ H R ⟨B, ρ, U, st, k⟩ => by
    refine ⟨B, ρ, U, st, ?_⟩
    dsimp only [iRgN, mBind] at k
    cases hm : ma ρ with
    | ok d ρ1 =>
      rw [hm] at k
      intro v B1 H1 U1 F p
      refine ⟨B1, ρ1, U1, p.st, ?_⟩
      dsimp only [Res.bind, mBind] at k
      cases hm2 : mb ρ1 with
      | ok d2 ρ2 =>
        rw [hm2] at k
        intro v2 B2 H2 U2 F2 q
        refine ⟨B2, ρ2, U2, q.st, ?_⟩
        dsimp only [Res.bind, mBind] at k
        cases hm3 : mc ρ2 with
        | ok d3 ρ3 =>
          rw [hm3] at k
          intro v3 B3 H3 U3 F3 r
          dsimp only [Res.bind, mBind, mOpt] at k
          cases hh : dnL d d2 d3 with
          | none => rw [hh] at k; exact k.elim
          | some ds =>
            rw [hh] at k
            obtain ⟨i', j', rfl, rfl, rfl, hj, rfl⟩ := dnL_some hh
            obtain ⟨rfl, rfl⟩ := own_int p.own
            obtain ⟨rfl, rfl⟩ := own_int q.own
            obtain ⟨rfl, rfl⟩ := own_int r.own
            exact ⟨i', j', -1, _, rfl, RgC.neg hj.1 hj.2.1 hj.2.2.1 hj.2.2.2, k _ B3 H3 U3 ((p.toS.trans q.toS).trans r.toS) itr_dn⟩
        | exc x ρ3 => rw [hm3] at k; exact (k.back p.step).back q.step
        | stuck => rw [hm3] at k; exact k
      | exc x ρ2 => rw [hm2] at k; exact k.back p.step
      | stuck => rw [hm2] at k; exact k
    | exc x ρ1 => rw [hm] at k; exact k
    | stuck => rw [hm] at k; exact k
end
/-! ### order of data that are alike -/
def ltOk (d e : D) : Bool := SeqAt.shaped (toPy d) && SeqAt.shaped (toPy e) && PySem.W.alike (toPy d) (toPy e) && (match d with | .lst _ _ => true | .tup _ => true | _ => false)
def lt2D (d e : D) : Option D := if ltOk d e then some (.bl (PySem.W.dataLt (toPy d) (toPy e))) else none
def gt2D (d e : D) : Option D := if ltOk d e then some (.bl (PySem.W.dataLt (toPy e) (toPy d))) else none
def le2D (d e : D) : Option D := if ltOk d e then some (.bl !(PySem.W.dataLt (toPy e) (toPy d))) else none
def ge2D (d e : D) : Option D := if ltOk d e then some (.bl !(PySem.W.dataLt (toPy d) (toPy e))) else none
theorem ltOk_of {d e : D} (h : ltOk d e = true) : SeqAt.shaped (toPy d) = true ∧ SeqAt.shaped (toPy e) = true ∧ PySem.W.alike (toPy d) (toPy e) = true ∧ toPy d ≠ .none := by
  unfold ltOk at h
  simp only [Bool.and_eq_true] at h
  refine ⟨h.1.1.1, h.1.1.2, h.1.2, fun z => ?_⟩
  have k := h.2
  cases d <;> simp [toPy] at z <;> simp at k
section
variable {X : Cx}
theorem od_lt2 (hu : X.A.units + 64 < cLine) : OpD X (compareOp .Lt) lt2D := by
  intro pins s σ H x y v u Q I r1 r2 ⟨B, d, e, F, G, z, hs, o1, o2, hf, q⟩
  unfold lt2D at hf
  split at hf <;> cases hf
  rename_i hc
  obtain ⟨h1, h2, h3, h4⟩ := ltOk_of hc
  obtain ⟨as, ra⟩ := Dp.reads I _ x v (own_dp hs o1 (SeqAt.canLay_of_shaped h1)) r1
  obtain ⟨bs, rb⟩ := Dp.reads I _ y u (own_dp hs o2 (SeqAt.canLay_of_shaped h2)) r2
  exact PySem.W.lt_data ra rb h3 h4 (SeqAt.room_of_shaped h1 hu) ⟨.bl _, H, I, rfl, q _ B H [] (New.flat hs (.atom rfl))⟩
theorem od_gt2 (hu : X.A.units + 64 < cLine) : OpD X (compareOp .Gt) gt2D := by
  intro pins s σ H x y v u Q I r1 r2 ⟨B, d, e, F, G, z, hs, o1, o2, hf, q⟩
  unfold gt2D at hf
  split at hf <;> cases hf
  rename_i hc
  obtain ⟨h1, h2, h3, h4⟩ := ltOk_of hc
  obtain ⟨as, ra⟩ := Dp.reads I _ x v (own_dp hs o1 (SeqAt.canLay_of_shaped h1)) r1
  obtain ⟨bs, rb⟩ := Dp.reads I _ y u (own_dp hs o2 (SeqAt.canLay_of_shaped h2)) r2
  exact PySem.W.gt_data ra rb h3 h4 (SeqAt.room_of_shaped h1 hu) ⟨.bl _, H, I, rfl, q _ B H [] (New.flat hs (.atom rfl))⟩
theorem od_le2 (hu : X.A.units + 64 < cLine) : OpD X (compareOp .LtE) le2D := by
  intro pins s σ H x y v u Q I r1 r2 ⟨B, d, e, F, G, z, hs, o1, o2, hf, q⟩
  unfold le2D at hf
  split at hf <;> cases hf
  rename_i hc
  obtain ⟨h1, h2, h3, h4⟩ := ltOk_of hc
  obtain ⟨as, ra⟩ := Dp.reads I _ x v (own_dp hs o1 (SeqAt.canLay_of_shaped h1)) r1
  obtain ⟨bs, rb⟩ := Dp.reads I _ y u (own_dp hs o2 (SeqAt.canLay_of_shaped h2)) r2
  exact PySem.W.le_data ra rb h3 h4 (SeqAt.room_of_shaped h1 hu) ⟨.bl _, H, I, rfl, q _ B H [] (New.flat hs (.atom rfl))⟩
theorem od_ge2 (hu : X.A.units + 64 < cLine) : OpD X (compareOp .GtE) ge2D := by
  intro pins s σ H x y v u Q I r1 r2 ⟨B, d, e, F, G, z, hs, o1, o2, hf, q⟩
  unfold ge2D at hf
  split at hf <;> cases hf
  rename_i hc
  obtain ⟨h1, h2, h3, h4⟩ := ltOk_of hc
  obtain ⟨as, ra⟩ := Dp.reads I _ x v (own_dp hs o1 (SeqAt.canLay_of_shaped h1)) r1
  obtain ⟨bs, rb⟩ := Dp.reads I _ y u (own_dp hs o2 (SeqAt.canLay_of_shaped h2)) r2
  exact PySem.W.ge_data ra rb h3 h4 (SeqAt.room_of_shaped h1 hu) ⟨.bl _, H, I, rfl, q _ B H [] (New.flat hs (.atom rfl))⟩
end
end Eng
/-! Eng35: more outcome rules. -/
namespace Eng
open PySem PySem.Spec PyProof.Rows L2
section
variable {ρ : Rho} {E : Exc → Rho → Prop} {Q : D → Rho → Prop} {QL : List D → Rho → Prop} {m ma mb mc : M D}
theorem w_rgN (h : W ma ρ E fun a ρ1 => W mb ρ1 E fun b ρ2 => W mc ρ2 E fun c ρ3 => WO (dnL a b c) fun ds => QL ds ρ3) : W (iRgN ma mb mc) ρ E QL :=
  w_bind (h.imp (fun _ _ h => h) fun _ _ h => w_bind (h.imp (fun _ _ h => h) fun _ _ h => w_bind (h.imp (fun _ _ h => h) fun _ _ h => w_opt h)))
def rgL : D → D → Option (List D)
  | .int i, .int j => if -(2 ^ 62) ≤ i ∧ i < 2 ^ 62 ∧ -(2 ^ 62) ≤ j ∧ j < 2 ^ 62 then some ((List.range (j - i).toNat).map fun (k : Nat) => .int (i + (k : Int))) else none
  | _, _ => none
theorem w_rg2 (h : W ma ρ E fun a ρ1 => W mb ρ1 E fun b ρ2 => WO (rgL a b) fun ds => QL ds ρ2) : W (iRg2 ma mb) ρ E QL :=
  w_bind (h.imp (fun _ _ h => h) fun _ _ h => w_bind (h.imp (fun _ _ h => h) fun _ _ h => w_opt h))
theorem wo_rg2 {i j : Int} {QL : List D → Prop} (h : -4611686018427387904 ≤ i ∧ i < 4611686018427387904 ∧ -4611686018427387904 ≤ j ∧ j < 4611686018427387904)
    (q : QL ((List.range (j - i).toNat).map fun (k : Nat) => .int (i + (k : Int)))) : WO (rgL (.int i) (.int j)) QL := ⟨_, if_pos (by omega), q⟩
theorem dnL_ok {i j : Int} (h : -(2 ^ 62) ≤ i ∧ i < 2 ^ 62 ∧ -(2 ^ 62) ≤ j ∧ j < 2 ^ 62) : dnL (.int i) (.int j) (.int (-1)) = some ((List.range (i - j).toNat).map fun (k : Nat) => .int (i - (k : Int))) := if_pos ⟨rfl, h⟩
theorem w_ch {f g : D → D → Option D} (h : W ma ρ E fun a ρ1 => W mb ρ1 E fun b ρ2 => WO (f a b) fun c => IsBl c fun v => Bif v (W mc ρ2 E fun d ρ3 => WO (g b d) fun z => Q z ρ3) (Q (.bl false) ρ2)) : W (eCh f g ma mb mc) ρ E Q := by
  refine w_bind (h.imp (fun _ _ h => h) fun a ρ1 h => w_bind (h.imp (fun _ _ h => h) fun b ρ2 h => w_bind (w_opt ?_)))
  obtain ⟨c, hc, v, rfl, h⟩ := h
  refine ⟨_, hc, ?_⟩
  cases v
  · exact w_pure h
  · exact w_bind (h.imp (fun _ _ h => h) fun _ _ h => w_opt h)
end
end Eng
local macro_rules | `(tactic| walk_at "EV1") => `(tactic| (first | with_reducible refine Eng.w_pk ?_ | with_reducible refine Eng.w_var ?_ | with_reducible refine Eng.w_k ?_ | with_reducible refine Eng.w_op ?_ | with_reducible refine Eng.w_lcons ?_ | with_reducible refine Eng.w_lnil ?_ | with_reducible refine Eng.w_fn ?_ | with_reducible refine Eng.w_set ?_ | with_reducible refine Eng.w_ret ?_ | with_reducible refine Eng.w_sex ?_ | with_reducible refine Eng.w_sif ?_ | with_reducible refine Eng.w_mb ?_ | with_reducible refine Eng.w_mand ?_ | with_reducible refine Eng.w_mor ?_ | with_reducible refine Eng.w_not ?_ | with_reducible refine Eng.w_bo ?_ | with_reducible refine Eng.w_if ?_ | with_reducible refine Eng.w_fz ?_ | with_reducible refine Eng.w_un ?_ | with_reducible refine Eng.w_lst ?_ | with_reducible refine Eng.w_tup ?_ | with_reducible refine Eng.w_mt ?_ | with_reducible refine Eng.w_onone ?_ | with_reducible refine Eng.w_osome ?_ | with_reducible refine Eng.w_sl ?_ | with_reducible refine Eng.w_mov ?_ | with_reducible refine Eng.w_yes ?_ | with_reducible refine Eng.s_seq ?_ | with_reducible refine Eng.th_nx ?_ | with_reducible refine Eng.th_rt ?_ | with_reducible refine Eng.w_next ?_ | with_reducible refine Eng.w_aug ?_ | with_reducible refine Eng.w_app ?_ | with_reducible refine Eng.w_pop ?_ | with_reducible refine Eng.w_setix ?_ | with_reducible refine Eng.w_aval ?_ | with_reducible refine Eng.w_alend ?_ | with_reducible refine Eng.w_anil ?_ | with_reducible refine Eng.w_call ?_ | with_reducible refine Eng.tk_nil ?_ | with_reducible refine Eng.tk_val ?_ | with_reducible refine Eng.tk_lendO ?_ | with_reducible refine Eng.bk_nil ?_ | with_reducible refine Eng.bk_val ?_ | with_reducible refine Eng.w_ival ?_ | with_reducible refine Eng.is_bl ?_ | with_reducible refine Eng.bif_t ?_ | with_reducible refine Eng.bif_f ?_ | with_reducible refine Eng.bif_n ?_ | with_reducible refine Eng.w_for ?_ | with_reducible refine Eng.g_n ?_ | with_reducible refine Eng.tn_nx ?_ | with_reducible refine Eng.tn_rt ?_ | with_reducible refine Eng.w_retn ?_ | with_reducible refine Eng.w_brk ?_ | with_reducible refine Eng.w_cnt ?_ | with_reducible refine Eng.tn_bk ?_ | with_reducible refine Eng.tn_ct ?_ | with_reducible refine Eng.th_bk ?_ | with_reducible refine Eng.th_ct ?_ | with_reducible refine Eng.getL ?_ | with_reducible refine Eng.w_lc ?_ | with_reducible refine Eng.rest_nil ?_ | with_reducible refine Eng.w_rg1 ?_ | with_reducible refine Eng.w_try ?_ | with_reducible refine Eng.w_raise ?_ | with_reducible refine Eng.td_nx ?_ | with_reducible refine Eng.td_rt ?_ | with_reducible refine Eng.td_exc ?_ | with_reducible refine Eng.th_exc ?_ | with_reducible refine Eng.tn_exc ?_ | with_reducible refine Eng.w_rgN ?_ | with_reducible refine Eng.w_rg2 ?_ | with_reducible refine Eng.w_ch ?_ | with_reducible refine Eng.get_0 ?_ | with_reducible refine Eng.get_1 ?_ | with_reducible refine Eng.get_2 ?_ | with_reducible refine Eng.get_3 ?_ | with_reducible refine Eng.get_4 ?_ | with_reducible refine Eng.get_5 ?_ | with_reducible refine Eng.get_6 ?_ | with_reducible refine Eng.get_7 ?_ | with_reducible refine Eng.get_8 ?_ | with_reducible refine Eng.get_9 ?_ | with_reducible refine Eng.get_10 ?_ | with_reducible refine Eng.get_11 ?_ | with_reducible refine Eng.get_12 ?_ | with_reducible refine Eng.get_13 ?_ | with_reducible refine Eng.get_14 ?_ | with_reducible refine Eng.get_15 ?_ | with_reducible refine Eng.put_0 ?_ | with_reducible refine Eng.put_1 ?_ | with_reducible refine Eng.put_2 ?_ | with_reducible refine Eng.put_3 ?_ | with_reducible refine Eng.put_4 ?_ | with_reducible refine Eng.put_5 ?_ | with_reducible refine Eng.put_6 ?_ | with_reducible refine Eng.put_7 ?_ | with_reducible refine Eng.put_8 ?_ | with_reducible refine Eng.put_9 ?_ | with_reducible refine Eng.put_10 ?_ | with_reducible refine Eng.put_11 ?_ | with_reducible refine Eng.put_12 ?_ | with_reducible refine Eng.put_13 ?_ | with_reducible refine Eng.put_14 ?_ | with_reducible refine Eng.put_15 ?_ | with_reducible refine Eng.is_rg (by omega) (by omega) ?_ | with_reducible refine Eng.rest_0 ?_ | with_reducible refine Eng.rest_1 ?_ | with_reducible refine Eng.rest_2 ?_ | with_reducible refine Eng.rest_3 ?_ | with_reducible refine Eng.rest_4 ?_ | with_reducible refine Eng.rest_5 ?_ | with_reducible refine Eng.rest_6 ?_ | with_reducible refine Eng.rest_7 ?_ | with_reducible refine Eng.rest_8 ?_ | with_reducible refine Eng.rest_9 ?_ | with_reducible refine Eng.rest_10 ?_ | with_reducible refine Eng.rest_11 ?_ | with_reducible refine Eng.rest_12 ?_ | with_reducible refine Eng.rest_13 ?_ | with_reducible refine Eng.rest_14 ?_ | with_reducible refine Eng.rest_15 ?_ | ((with_reducible refine Eng.resv_0 ?_ ?_); (first | rfl | assumption)) | ((with_reducible refine Eng.resv_1 ?_ ?_); (first | rfl | assumption)) | ((with_reducible refine Eng.resv_2 ?_ ?_); (first | rfl | assumption)) | ((with_reducible refine Eng.resv_3 ?_ ?_); (first | rfl | assumption)) | ((with_reducible refine Eng.resv_4 ?_ ?_); (first | rfl | assumption)) | ((with_reducible refine Eng.resv_5 ?_ ?_); (first | rfl | assumption)) | ((with_reducible refine Eng.resv_6 ?_ ?_); (first | rfl | assumption)) | ((with_reducible refine Eng.resv_7 ?_ ?_); (first | rfl | assumption)) | ((with_reducible refine Eng.resv_8 ?_ ?_); (first | rfl | assumption)) | ((with_reducible refine Eng.resv_9 ?_ ?_); (first | rfl | assumption)) | ((with_reducible refine Eng.resv_10 ?_ ?_); (first | rfl | assumption)) | ((with_reducible refine Eng.resv_11 ?_ ?_); (first | rfl | assumption)) | ((with_reducible refine Eng.resv_12 ?_ ?_); (first | rfl | assumption)) | ((with_reducible refine Eng.resv_13 ?_ ?_); (first | rfl | assumption)) | ((with_reducible refine Eng.resv_14 ?_ ?_); (first | rfl | assumption)) | ((with_reducible refine Eng.resv_15 ?_ ?_); (first | rfl | assumption)) | ((with_reducible refine Eng.gef_0 ?_ ?_); (first | rfl | assumption)) | ((with_reducible refine Eng.gef_1 ?_ ?_); (first | rfl | assumption)) | ((with_reducible refine Eng.gef_2 ?_ ?_); (first | rfl | assumption)) | ((with_reducible refine Eng.gef_3 ?_ ?_); (first | rfl | assumption)) | ((with_reducible refine Eng.gef_4 ?_ ?_); (first | rfl | assumption)) | ((with_reducible refine Eng.gef_5 ?_ ?_); (first | rfl | assumption)) | ((with_reducible refine Eng.gef_6 ?_ ?_); (first | rfl | assumption)) | ((with_reducible refine Eng.gef_7 ?_ ?_); (first | rfl | assumption)) | ((with_reducible refine Eng.gef_8 ?_ ?_); (first | rfl | assumption)) | ((with_reducible refine Eng.gef_9 ?_ ?_); (first | rfl | assumption)) | ((with_reducible refine Eng.gef_10 ?_ ?_); (first | rfl | assumption)) | ((with_reducible refine Eng.gef_11 ?_ ?_); (first | rfl | assumption)) | ((with_reducible refine Eng.gef_12 ?_ ?_); (first | rfl | assumption)) | ((with_reducible refine Eng.gef_13 ?_ ?_); (first | rfl | assumption)) | ((with_reducible refine Eng.gef_14 ?_ ?_); (first | rfl | assumption)) | ((with_reducible refine Eng.gef_15 ?_ ?_); (first | rfl | assumption)) | ((with_reducible refine Eng.w_frz0 ?_ Eng.freeze_frz); (with_reducible refine Eng.gef_0 ?_ ?_); (first | rfl | assumption)) | ((with_reducible refine Eng.w_frz0 ?_ Eng.freeze_frz); (with_reducible refine Eng.gef_1 ?_ ?_); (first | rfl | assumption)) | ((with_reducible refine Eng.w_frz0 ?_ Eng.freeze_frz); (with_reducible refine Eng.gef_2 ?_ ?_); (first | rfl | assumption)) | ((with_reducible refine Eng.w_frz0 ?_ Eng.freeze_frz); (with_reducible refine Eng.gef_3 ?_ ?_); (first | rfl | assumption)) | ((with_reducible refine Eng.w_frz0 ?_ Eng.freeze_frz); (with_reducible refine Eng.gef_4 ?_ ?_); (first | rfl | assumption)) | ((with_reducible refine Eng.w_frz0 ?_ Eng.freeze_frz); (with_reducible refine Eng.gef_5 ?_ ?_); (first | rfl | assumption)) | ((with_reducible refine Eng.w_frz0 ?_ Eng.freeze_frz); (with_reducible refine Eng.gef_6 ?_ ?_); (first | rfl | assumption)) | ((with_reducible refine Eng.w_frz0 ?_ Eng.freeze_frz); (with_reducible refine Eng.gef_7 ?_ ?_); (first | rfl | assumption)) | ((with_reducible refine Eng.w_frz0 ?_ Eng.freeze_frz); (with_reducible refine Eng.gef_8 ?_ ?_); (first | rfl | assumption)) | ((with_reducible refine Eng.w_frz0 ?_ Eng.freeze_frz); (with_reducible refine Eng.gef_9 ?_ ?_); (first | rfl | assumption)) | ((with_reducible refine Eng.w_frz0 ?_ Eng.freeze_frz); (with_reducible refine Eng.gef_10 ?_ ?_); (first | rfl | assumption)) | ((with_reducible refine Eng.w_frz0 ?_ Eng.freeze_frz); (with_reducible refine Eng.gef_11 ?_ ?_); (first | rfl | assumption)) | ((with_reducible refine Eng.w_frz0 ?_ Eng.freeze_frz); (with_reducible refine Eng.gef_12 ?_ ?_); (first | rfl | assumption)) | ((with_reducible refine Eng.w_frz0 ?_ Eng.freeze_frz); (with_reducible refine Eng.gef_13 ?_ ?_); (first | rfl | assumption)) | ((with_reducible refine Eng.w_frz0 ?_ Eng.freeze_frz); (with_reducible refine Eng.gef_14 ?_ ?_); (first | rfl | assumption)) | ((with_reducible refine Eng.w_frz0 ?_ Eng.freeze_frz); (with_reducible refine Eng.gef_15 ?_ ?_); (first | rfl | assumption)) | with_reducible refine Eng.wo_add ?_ | with_reducible refine Eng.wo_sub ?_ | with_reducible refine Eng.wo_iadd ?_ | with_reducible refine Eng.wo_eqi ?_ | with_reducible refine Eng.wo_nei ?_ | with_reducible refine Eng.wo_eqs ?_ | with_reducible refine Eng.wo_nes ?_ | with_reducible refine Eng.wo_lt ?_ | with_reducible refine Eng.wo_le ?_ | with_reducible refine Eng.wo_gt ?_ | with_reducible refine Eng.wo_ge ?_ | with_reducible refine Eng.wo_neg ?_ | with_reducible refine Eng.wo_lenl ?_ | with_reducible refine Eng.wo_lent ?_ | with_reducible refine Eng.wo_int ?_ | with_reducible refine Eng.wo_abs ?_ | with_reducible refine Eng.wo_itl ?_ | with_reducible refine Eng.wo_itt ?_ | with_reducible refine Eng.wo_its ?_ | with_reducible refine Eng.fz_int ?_ | with_reducible refine Eng.fz_str ?_ | with_reducible refine Eng.fz_bl ?_ | with_reducible refine Eng.wo_mod (by first | assumption | omega) ?_ | with_reducible refine Eng.wo_fdiv (by first | assumption | omega) (by first | assumption | omega) ?_ | with_reducible refine Eng.wo_mul (by first | assumption | omega) (by first | assumption | omega) ?_ | with_reducible refine Eng.wo_adds (by (first | assumption | decide | omega | (simp only [List.length_map, List.length_reverse, List.length_append]; omega))) ?_ | with_reducible refine Eng.wo_lens (by (first | assumption | decide | omega | (simp only [List.length_map, List.length_reverse, List.length_append]; omega))) ?_ | with_reducible refine Eng.wo_sls (by (first | assumption | decide | omega | (simp only [List.length_map, List.length_reverse, List.length_append]; omega))) ?_ | with_reducible refine Eng.wo_rev (by (first | assumption | decide | omega | (simp only [List.length_map, List.length_reverse, List.length_append]; omega))) ?_ | with_reducible refine Eng.wo_swap (by first | assumption | omega | rfl | decide) (by (first | assumption | decide | omega | (simp only [List.length_map, List.length_reverse, List.length_append]; omega))) ?_ | with_reducible refine Eng.wo_up (by first | assumption | omega | rfl | decide) (by (first | assumption | decide | omega | (simp only [List.length_map, List.length_reverse, List.length_append]; omega))) ?_ | with_reducible refine Eng.wo_lo (by first | assumption | omega | rfl | decide) (by (first | assumption | decide | omega | (simp only [List.length_map, List.length_reverse, List.length_append]; omega))) ?_ | with_reducible refine Eng.wo_islow (by first | assumption | rfl | decide) ?_ | with_reducible refine Eng.wo_isup (by first | assumption | rfl | decide) ?_ | with_reducible refine Eng.wo_rg2 (by omega) ?_ | with_reducible refine Eng.wo_pow (by decide) ?_ | ((with_reducible refine Eng.bk_lendO ?_ ?_); (rfl)) | with_reducible refine Eng.bif_dec (fun h => ?_) (fun h => ?_) | with_reducible refine Eng.fn_rt rfl ?_ | with_reducible refine Eng.fn_exc rfl ?_ | with_reducible refine Eng.fn_nx rfl ?_ | ((with_reducible refine Eng.hd_no ?_ ?_); (rfl)) | ((with_reducible refine Eng.hd_plain ?_ ?_ ?_); (rfl); (first | rfl | assumption)) | ((with_reducible refine Eng.hd_named ?_ ?_ ?_ ?_); (rfl); (first | rfl | assumption); (first | decide | simp)) | ((with_reducible refine Eng.su_nx ?_ ?_); (first | rfl | assumption)) | ((with_reducible refine Eng.su_rt ?_ ?_ ?_); (first | rfl | assumption); (first | rfl | assumption)) | with_reducible refine Eng.sn_nx ?_ | ((with_reducible refine Eng.w_ise (b := true) ?_ ?_ ?_); (rfl); (rfl)) | ((with_reducible refine Eng.w_ise (b := false) ?_ ?_ ?_); (rfl); (rfl)) | ((with_reducible refine Eng.gWO ?_); (with_reducible apply Eng.wo_ixs); (first | assumption | omega); assumption) | ((with_reducible refine Eng.gWO ?_); (with_reducible apply Eng.wo_ixl); (first | assumption | rfl)) | ((with_reducible refine Eng.gWO ?_); (with_reducible apply Eng.wo); (assumption)) | ((with_reducible refine Eng.gWO ?_); (with_reducible apply Eng.wo); (rfl)) | ((with_reducible refine Eng.gEx ?_); (refine ⟨_, rfl, ?_⟩)) | ((with_reducible refine Eng.gAnd ?_); (refine ⟨rfl, ?_⟩)) | ((with_reducible refine Eng.gEx ?_); (refine ⟨_, _, rfl, rfl, ?_⟩)) | ((with_reducible refine Eng.gAnd ?_); (apply And.intro); (first | decide | omega | exact Nat.le_of_ble_eq_true rfl))))
/-! the words of deeds: what is left when pairs are struck out -/
namespace Words
open Eng
theorem sw_sw (c : Nat) : sw1 (sw1 c) = c := by
  unfold sw1
  repeat' split
  all_goals omega
theorem sw_inj {c d : Nat} (h : sw1 c = sw1 d) : c = d := by rw [← sw_sw c, h, sw_sw]
def act (c : Nat) : List Nat → List Nat
  | [] => [c]
  | d :: r => if d = sw1 c then r else c :: d :: r
def F (w s : List Nat) : List Nat := w.foldl (fun s c => act c s) s
def nf (w : List Nat) : List Nat := (F w []).reverse
def back (w : List Nat) : List Nat := w.reverse.map sw1
def Red : List Nat → Prop
  | [] => True
  | [_] => True
  | a :: b :: r => b ≠ sw1 a ∧ Red (b :: r)
theorem red0 : Red [] := trivial
theorem Red.tail {a : Nat} {r : List Nat} (h : Red (a :: r)) : Red r := by
  cases r with
  | nil => trivial
  | cons b r => exact h.2
theorem red_act {c : Nat} {s : List Nat} (h : Red s) : Red (act c s) := by
  cases s with
  | nil => trivial
  | cons d r =>
    by_cases n : d = sw1 c
    · rw [act, if_pos n]; exact h.tail
    · rw [act, if_neg n]; exact ⟨n, h⟩
theorem act_inv {c : Nat} {s : List Nat} (h : Red s) : act (sw1 c) (act c s) = s := by
  cases s with
  | nil => simp [act, sw_sw]
  | cons d r =>
    by_cases e : d = sw1 c
    · subst e
      rw [act, if_pos rfl]
      cases r with
      | nil => rfl
      | cons b r =>
        have n := h.1
        rw [act, if_neg n]
    · rw [act, if_neg e, act, if_pos (sw_sw c).symm]
theorem F_app (u v s : List Nat) : F (u ++ v) s = F v (F u s) := List.foldl_append
theorem F_cons (c : Nat) (w s : List Nat) : F (c :: w) s = F w (act c s) := rfl
theorem F_red {w : List Nat} : ∀ {s : List Nat}, Red s → Red (F w s) := by
  induction w with
  | nil => exact fun h => h
  | cons c w ih => exact fun h => ih (red_act h)
theorem back_cons (c : Nat) (w : List Nat) : back (c :: w) = back w ++ [sw1 c] := by simp [back]
theorem back_back (w : List Nat) : back (back w) = w := by
  unfold back
  rw [← List.map_reverse, List.map_map, List.reverse_reverse]
  conv => rhs; rw [← List.map_id w]
  exact List.map_congr_left fun c _ => sw_sw c
theorem back_app (u v : List Nat) : back (u ++ v) = back v ++ back u := by simp [back]
theorem back_len (w : List Nat) : (back w).length = w.length := by simp [back]
theorem F_back {w : List Nat} : ∀ {s : List Nat}, Red s → F (back w) (F w s) = s := by
  induction w with
  | nil => exact fun _ => rfl
  | cons c w ih =>
    intro s h
    rw [back_cons, F_app, F_cons c w, ih (red_act h)]
    exact act_inv h
theorem F_back2 {w s : List Nat} (h : Red s) : F w (F (back w) s) = s := by
  conv => lhs; arg 1; rw [← back_back w]
  exact F_back h
theorem F_one {c : Nat} {st s : List Nat} (hs : Red s) : F (act c st).reverse s = act c (F st.reverse s) := by
  cases st with
  | nil => rfl
  | cons d r =>
    by_cases e : d = sw1 c
    · rw [act, if_pos e, List.reverse_cons, F_app]
      show _ = act c (act d _)
      rw [show c = sw1 d by rw [e, sw_sw]]
      exact (act_inv (F_red hs)).symm
    · rw [act, if_neg e, List.reverse_cons, F_app]
      rfl
theorem F_stack {s : List Nat} (hs : Red s) : ∀ (w st : List Nat), F (F w st).reverse s = F w (F st.reverse s)
  | [], st => rfl
  | c :: w, st => by rw [F_cons, F_stack hs w, F_one hs]; rfl
theorem F_nf {w s : List Nat} (hs : Red s) : F (nf w) s = F w s := F_stack hs w []
theorem red_app : ∀ {x y : List Nat}, Red x → Red y → (∀ a b, x.getLast? = some a → y.head? = some b → b ≠ sw1 a) → Red (x ++ y)
  | [], y, _, hy, _ => hy
  | [a], [], _, _, _ => trivial
  | [a], b :: r, _, hy, h => ⟨h a b rfl rfl, hy⟩
  | a :: b :: r, y, hx, hy, h => ⟨hx.1, red_app (x := b :: r) hx.2 hy fun c d e => h c d (by rw [List.getLast?_cons_cons]; exact e)⟩
theorem red_rev : ∀ {x : List Nat}, Red x → Red x.reverse
  | [], _ => trivial
  | [a], _ => trivial
  | a :: b :: r, h => by
    rw [List.reverse_cons]
    refine red_app (red_rev h.2) trivial fun c d hc hd => ?_
    rw [List.getLast?_reverse] at hc
    cases hc; cases hd
    exact fun e => h.1 (by rw [e, sw_sw])
theorem red_map : ∀ {x : List Nat}, Red x → Red (x.map sw1)
  | [], _ => trivial
  | [a], _ => trivial
  | a :: b :: r, h => ⟨fun e => h.1 (sw_inj e), red_map (x := b :: r) h.2⟩
theorem red_back {x : List Nat} (h : Red x) : Red (back x) := red_map (red_rev h)
theorem red_nf (w : List Nat) : Red (nf w) := red_rev (F_red (by trivial))
theorem F_of_red : ∀ {st : List Nat}, Red st → F st.reverse [] = st
  | [], _ => rfl
  | c :: st, h => by
    rw [List.reverse_cons, F_app, F_of_red h.tail]
    cases st with
    | nil => rfl
    | cons d r =>
      show act c (d :: r) = _
      rw [act, if_neg h.1]
theorem nf_of_red {w : List Nat} (h : Red w) : nf w = w := by
  unfold nf
  rw [← List.reverse_reverse w, F_of_red (red_rev h), List.reverse_reverse]
theorem F_back_nf {w s : List Nat} (hs : Red s) : F (back (nf w)) s = F (back w) s := by
  have h : s = F (nf w) (F (back w) s) := by rw [F_nf (F_red hs), F_back2 hs]
  conv => lhs; rw [h]
  exact F_back (F_red hs)
theorem nf_back (w : List Nat) : nf (back w) = back (nf w) := by
  rw [← nf_of_red (red_back (red_nf w))]
  unfold nf
  exact congrArg List.reverse (F_back_nf (w := w) red0).symm
theorem nf_app_nf (u v w : List Nat) : nf (u ++ nf v ++ w) = nf (u ++ v ++ w) := by
  unfold nf
  rw [F_app, F_app, F_app, F_app]
  have h : F (F v []).reverse (F u []) = F v (F u []) := F_nf (F_red red0)
  rw [h]
theorem undone_undone (w : List Nat) : back (nf (back (nf w))) = nf w := by rw [nf_back, nf_of_red (red_nf w), back_back]
theorem turned_back (row b : List Nat) : nf (back (nf b) ++ nf (b ++ row ++ back b) ++ back (back (nf b))) = nf row := by
  rw [nf_app_nf, back_back]
  unfold nf
  have t0 : Red ([] : List Nat) := trivial
  rw [F_app, F_app, F_app, F_app]
  have h1 : F (back (F b []).reverse) [] = F (back b) [] := F_back_nf (w := b) t0
  rw [h1, F_back2 t0]
  have h2 : ∀ s, Red s → F (F b []).reverse s = F b s := fun s hs => F_nf hs
  rw [h2 _ (F_red (F_red t0)), F_back2 (F_red t0)]
theorem join_back (w : List Nat) : nf (w ++ back (nf w)) = [] := by
  unfold nf
  rw [F_app]
  have h := F_back_nf (w := w) (s := F w []) (F_red red0)
  unfold nf at h
  rw [h, F_back red0]
  rfl
theorem back_join (w : List Nat) : nf (back (nf w) ++ w) = [] := by
  unfold nf
  rw [F_app]
  have h := F_back_nf (w := w) (s := []) red0
  unfold nf at h
  rw [h, F_back2 red0]
  rfl
/-! powers -/
def It (f : List Nat → List Nat) : Nat → List Nat → List Nat
  | 0, s => s
  | n + 1, s => f (It f n s)
def Z (w : List Nat) (t : Int) (s : List Nat) : List Nat := if 0 ≤ t then It (F w) t.toNat s else It (F (back w)) (-t).toNat s
theorem It_red {w : List Nat} : ∀ n {s}, Red s → Red (It (F w) n s)
  | 0, _, h => h
  | n + 1, _, h => F_red (It_red n h)
theorem Z_red {w : List Nat} {t : Int} {s : List Nat} (h : Red s) : Red (Z w t s) := by
  unfold Z
  split <;> exact It_red _ h
theorem Z_up {w : List Nat} {t : Int} {s : List Nat} (h : Red s) : Z w (t + 1) s = F w (Z w t s) := by
  unfold Z
  by_cases h0 : 0 ≤ t
  · rw [if_pos h0, if_pos (by omega), show (t + 1).toNat = t.toNat + 1 by omega]; rfl
  · rw [if_neg h0]
    obtain ⟨n, hn⟩ : ∃ n : Nat, (-t).toNat = n + 1 := ⟨(-t).toNat - 1, by omega⟩
    rw [hn]
    show _ = F w (F (back w) (It (F (back w)) n s))
    rw [F_back2 (It_red n h)]
    by_cases h1 : 0 ≤ t + 1
    · rw [if_pos h1, show (t + 1).toNat = 0 by omega, show n = 0 by omega]; rfl
    · rw [if_neg h1, show (-(t + 1)).toNat = n by omega]
theorem Z_dn {w : List Nat} {t : Int} {s : List Nat} (h : Red s) : Z w (t - 1) s = F (back w) (Z w t s) := by
  have e := Z_up (w := w) (t := t - 1) h
  rw [show t - 1 + 1 = t by omega] at e
  rw [e, F_back (Z_red h)]
theorem Z_add {w : List Nat} {a : Int} {s : List Nat} (h : Red s) : ∀ b : Int, Z w b (Z w a s) = Z w (a + b) s := by
  have up : ∀ n : Nat, Z w n (Z w a s) = Z w (a + n) s := fun n => by
    induction n with
    | zero => show Z w 0 _ = _; rw [show a + ((0 : Nat) : Int) = a by omega]; rfl
    | succ n ih => rw [show ((n + 1 : Nat) : Int) = (n : Int) + 1 by omega, Z_up (Z_red h), ih, ← Z_up h, Int.add_assoc]
  have dn : ∀ n : Nat, Z w (-(n : Int)) (Z w a s) = Z w (a + -(n : Int)) s := fun n => by
    induction n with
    | zero => show Z w 0 _ = _; rw [show a + -((0 : Nat) : Int) = a by omega]; rfl
    | succ n ih => rw [show -((n + 1 : Nat) : Int) = -(n : Int) - 1 by omega, Z_dn (Z_red h), ih, ← Z_dn h, show a + -(n : Int) - 1 = a + (-(n : Int) - 1) by omega]
  intro b
  by_cases hb : 0 ≤ b
  · have := up b.toNat
    rwa [Int.toNat_of_nonneg hb] at this
  · have := dn (-b).toNat
    rwa [Int.toNat_of_nonneg (by omega), Int.neg_neg] at this
def Pw (w : List Nat) (t : Int) : List Nat := (Z w t []).reverse
theorem red_Pw (w : List Nat) (t : Int) : Red (Pw w t) := red_rev (Z_red red0)
theorem F_rep (w : List Nat) : ∀ (n : Nat) (s : List Nat), F (List.replicate n w).flatten s = It (F w) n s
  | 0, s => rfl
  | n + 1, s => by
    rw [List.replicate_succ', List.flatten_append, F_app, F_rep w n]
    simp [It]
theorem nf_rep (w : List Nat) (n : Nat) : nf (List.replicate n w).flatten = Pw w n := by
  unfold nf Pw Z
  rw [F_rep, if_pos (by omega)]; rfl
theorem nf_repB (w : List Nat) {t : Int} (h : t < 0) : nf (List.replicate (-t).toNat (back w)).flatten = Pw w t := by
  unfold nf Pw Z
  rw [F_rep, if_neg (by omega)]
theorem Pw_zero (w : List Nat) : Pw w 0 = [] := rfl
theorem Pw_one (w : List Nat) : Pw w 1 = nf w := rfl
theorem Pw_neg1 (w : List Nat) : Pw w (-1) = back (nf w) := by rw [← nf_back]; rfl
theorem F_Pw {w : List Nat} {t : Int} {s : List Nat} (hs : Red s) : F (Pw w t) s = Z w t s := by
  unfold Pw
  unfold Z
  split
  · rw [← F_rep w, ← F_rep w, F_stack hs]; rfl
  · rw [← F_rep, ← F_rep, F_stack hs]; rfl
theorem join_Pw (w : List Nat) (a b : Int) : nf (Pw w a ++ Pw w b) = Pw w (a + b) := by
  unfold nf
  rw [F_app, F_Pw red0, F_Pw (Z_red red0), Z_add red0]
  rfl
/-- a turned row so often -/
theorem F_conj (x m : List Nat) : ∀ (n : Nat) (s : List Nat), Red s → F (x ++ (List.replicate n m).flatten ++ back x) s = It (F (x ++ m ++ back x)) n s
  | 0, s, h => by simp only [List.replicate_zero, List.flatten_nil, List.append_nil]; rw [F_app, F_back h]; rfl
  | n + 1, s, h => by
    show _ = F (x ++ m ++ back x) (It (F (x ++ m ++ back x)) n s)
    rw [← F_conj x m n s h]
    rw [List.replicate_succ', List.flatten_append]
    simp only [F_app, List.flatten_cons, List.flatten_nil, List.append_nil]
    rw [F_back2 (F_red (F_red h))]
theorem last_flat {m : List Nat} (hm : m ≠ []) : ∀ n : Nat, (List.replicate (n + 1) m).flatten.getLast? = m.getLast? := fun n => by
  rw [List.replicate_succ', List.flatten_append, List.getLast?_append]
  simp only [List.flatten_cons, List.flatten_nil, List.append_nil]
  cases h : m.getLast? with
  | none => exact absurd (List.getLast?_eq_none_iff.mp h) hm
  | some a => rfl
theorem head_flat {m : List Nat} (hm : m ≠ []) : ∀ n : Nat, (List.replicate (n + 1) m).flatten.head? = m.head? := fun n => by
  cases m with
  | nil => exact absurd rfl hm
  | cons a r => rfl
theorem red_rep {m : List Nat} (hm : m ≠ []) (hr : Red m) (hc : ∀ a b, m.getLast? = some a → m.head? = some b → b ≠ sw1 a) : ∀ n : Nat, Red (List.replicate n m).flatten
  | 0 => trivial
  | 1 => by simpa using hr
  | n + 2 => by
    show Red (m ++ (List.replicate (n + 1) m).flatten)
    refine red_app hr (red_rep hm hr hc (n + 1)) fun a b ha hb => hc a b ha ?_
    rw [← head_flat hm n]; exact hb
theorem red_split {x y : List Nat} : ∀ (h : Red (x ++ y)), Red x ∧ Red y ∧ ∀ a b, x.getLast? = some a → y.head? = some b → b ≠ sw1 a := by
  induction x with
  | nil => exact fun h => ⟨trivial, h, fun a b e => by cases e⟩
  | cons c x ih =>
    intro h
    cases x with
    | nil =>
      cases y with
      | nil => exact ⟨trivial, trivial, fun a b _ e => by cases e⟩
      | cons d r => exact ⟨trivial, h.2, fun a b e1 e2 => by cases e1; cases e2; exact h.1⟩
    | cons d r =>
      obtain ⟨h1, h2, h3⟩ := ih h.2
      exact ⟨⟨h.1, h1⟩, h2, fun a b e1 e2 => h3 a b (by rw [List.getLast?_cons_cons] at e1; exact e1) e2⟩
theorem conj_pow {w x m : List Nat} (hw : nf w = x ++ m ++ back x) (hm : m ≠ []) (hc : ∀ a b, m.getLast? = some a → m.head? = some b → b ≠ sw1 a) (n : Nat) : x ++ (List.replicate (n + 1) m).flatten ++ back x = Pw w ((n + 1 : Nat) : Int) := by
  have hr : Red (x ++ m ++ back x) := hw ▸ red_nf w
  obtain ⟨r1, r2, r3⟩ := red_split hr
  obtain ⟨r4, r5, r6⟩ := red_split r1
  have hl : ∀ {u v : List Nat}, v ≠ [] → (u ++ v).getLast? = v.getLast? := fun {u v} hv => by
    rw [List.getLast?_append]
    cases h : v.getLast? with
    | none => exact absurd (List.getLast?_eq_none_iff.mp h) hv
    | some a => rfl
  have red : Red (x ++ (List.replicate (n + 1) m).flatten ++ back x) := by
    have ne : (List.replicate (n + 1) m).flatten ≠ [] := fun e => by
      have := last_flat hm n
      rw [e] at this
      exact hm (List.getLast?_eq_none_iff.mp this.symm)
    refine red_app (red_app r4 (red_rep hm r5 hc (n + 1)) fun a b ha hb => r6 a b ha (by rw [← head_flat hm n]; exact hb)) r2 fun a b ha hb => r3 a b ?_ hb
    rw [hl ne, last_flat hm n] at ha
    rw [hl hm]
    exact ha
  rw [← nf_of_red red]
  unfold nf Pw Z
  rw [F_conj x m _ _ red0, if_pos (by omega), ← hw]
  congr 1
  have : ∀ k, It (F (nf w)) k [] = It (F w) k [] := fun k => by
    induction k with
    | zero => rfl
    | succ k ih => show F (nf w) (It (F (nf w)) k []) = F w _; rw [ih, F_nf (It_red k red0)]
  exact this (n + 1)
end Words
set_option maxHeartbeats 1000000
/-! the first place where a text stands; the periods of a word -/
namespace Words
open PySem Eng
open PySem.StrLaws in
theorem occ_done (s sub : Str) (hi : Nat) : ∀ (l : List Nat) (a : Array Nat) (free : Nat), 1 ≤ a.size → (forIn (m := Id) l (a, free) (occBody s sub hi 1)).run.fst = a
  | [], a, free, _ => rfl
  | x :: l, a, free, h => by
    rw [List.forIn_cons]
    unfold occBody
    have c : ¬ ((((a, free).fst.size < 1 ∧ (a, free).snd ≤ x) ∧ x + sub.length ≤ hi) ∧ Builtin.Str.subAt s sub x = true) := fun z => by
      have := z.1.1.1
      simp only at this
      omega
    rw [if_neg c]
    exact occ_done s sub hi l a free h
open PySem.StrLaws in
theorem occ_hit (s sub : Str) (hi k : Nat) (hk : k + sub.length ≤ hi) (hs : Builtin.Str.subAt s sub k = true) : ∀ (l : List Nat) (free : Nat), (∀ i ∈ l, free ≤ i) → k ∈ l → l.Pairwise (· < ·) →
    (∀ i ∈ l, i < k → ¬ Builtin.Str.subAt s sub i = true) → (forIn (m := Id) l ((#[] : Array Nat), free) (occBody s sub hi 1)).run.fst = #[k]
  | [], free, _, h, _, _ => absurd h (by simp)
  | x :: l, free, hf, hm, hp, hn => by
    rw [List.forIn_cons]
    unfold occBody
    have hx : free ≤ x := hf x (List.mem_cons_self ..)
    by_cases e : x = k
    · subst e
      have c1 : ((((#[] : Array Nat), free).fst.size < 1 ∧ ((#[] : Array Nat), free).snd ≤ x) ∧ x + sub.length ≤ hi) ∧ Builtin.Str.subAt s sub x = true := ⟨⟨⟨by simp, hx⟩, hk⟩, hs⟩
      rw [if_pos c1]
      exact occ_done s sub hi l _ _ (by simp)
    · have hkl : k ∈ l := (List.mem_cons.mp hm).resolve_left fun z => e z.symm
      have hlt : x < k := (List.pairwise_cons.mp hp).1 k hkl
      have c2 : ¬ (((((#[] : Array Nat), free).fst.size < 1 ∧ ((#[] : Array Nat), free).snd ≤ x) ∧ x + sub.length ≤ hi) ∧ Builtin.Str.subAt s sub x = true) := fun h => hn x (List.mem_cons_self ..) hlt h.2
      rw [if_neg c2]
      exact occ_hit s sub hi k hk hs l free (fun i hi' => hf i (List.mem_cons_of_mem _ hi')) hkl (List.pairwise_cons.mp hp).2 fun i hi' => hn i (List.mem_cons_of_mem _ hi')
theorem S_cps (s : List Nat) : (S s).cps.toList = s := rfl
theorem S_length (s : List Nat) : (S s).length = s.length := by simp [S, Str.length]
theorem occ_first {s t : List Nat} {lo k : Nat} (h1 : lo ≤ k) (h2 : k + t.length ≤ s.length) (h3 : (s.drop k).take t.length = t) (h4 : ∀ i, lo ≤ i → i < k → (s.drop i).take t.length ≠ t) :
    Builtin.Str.occurrences (S s) (S t) lo (S s).length 1 = [k] := by
  rw [StrLaws.occ_eq, occ_hit (S s) (S t) (S s).length k (by rw [S_length, S_length]; exact h2) (by rw [StrLaws.subAt_eq, S_cps, S_length, S_cps, h3]; simp)]
  · intro i hi
    simp [List.mem_range'] at hi; omega
  · refine List.mem_range'_1.mpr ⟨h1, ?_⟩
    rw [S_length]; omega
  · exact List.pairwise_lt_range'
  · intro i hi hik hc
    rw [StrLaws.subAt_eq, S_cps, S_length, S_cps] at hc
    simp [List.mem_range'] at hi
    exact h4 i (by omega) hik (by simpa using hc)
theorem find3_first {s t : List Nat} {lo k : Nat} (h1 : lo ≤ k) (h2 : k + t.length ≤ s.length) (h3 : (s.drop k).take t.length = t) (h4 : ∀ i, lo ≤ i → i < k → (s.drop i).take t.length ≠ t) : find3S s t (lo : Int) = (k : Int) := by
  unfold find3S Txt.find3
  have e : fromIndex (S s).length (lo : Int) = lo := by unfold fromIndex; rw [if_neg (by omega)]; omega
  rw [e, occ_first h1 h2 h3 h4]
/-! periods of a word in the round -/
def at_ (m : List Nat) (i : Nat) : Nat := m.getD (i % m.length) 0
def Per (m : List Nat) (p : Nat) : Prop := ∀ i, at_ m (i + p) = at_ m i
theorem at_lt {m : List Nat} {i : Nat} (h : i < m.length) : m[i]? = some (at_ m i) := by
  unfold at_
  rw [Nat.mod_eq_of_lt h, List.getD_eq_getElem?_getD, List.getElem?_eq_getElem h]; rfl
theorem per_len (m : List Nat) : Per m m.length := fun i => by
  unfold at_; rw [Nat.add_mod_right]
theorem per_mul {m : List Nat} {p : Nat} (h : Per m p) : ∀ k, Per m (p * k)
  | 0 => fun i => rfl
  | k + 1 => fun i => by
    rw [Nat.mul_succ, ← Nat.add_assoc, h, per_mul h k]
theorem per_mod {m : List Nat} {p q : Nat} (h : Per m p) (h2 : Per m q) : Per m (q % p) := fun i => by
  have e := per_mul h (q / p) (i + q % p)
  rw [Nat.add_assoc, Nat.mod_add_div, h2] at e
  exact e.symm
theorem per_dvd {m : List Nat} {p : Nat} (hp : 0 < p) (h : Per m p) (hmin : ∀ q, 0 < q → q < p → ¬ Per m q) {q : Nat} (hq : Per m q) : p ∣ q := by
  have := Nat.mod_lt q hp
  by_cases z : q % p = 0
  · exact Nat.dvd_of_mod_eq_zero z
  · exact absurd (per_mod h hq) (hmin _ (Nat.pos_of_ne_zero z) this)
theorem dbl_at {m : List Nat} {i : Nat} (h : i < 2 * m.length) : (m ++ m)[i]? = some (at_ m i) := by
  by_cases c : i < m.length
  · rw [List.getElem?_append_left c, at_lt c]
  · rw [List.getElem?_append_right (by omega), at_lt (by omega)]
    unfold at_
    rw [Nat.mod_eq_of_lt (show i - m.length < m.length by omega), Nat.mod_eq_sub_mod (show i ≥ m.length by omega), Nat.mod_eq_of_lt (show i - m.length < m.length by omega)]
theorem per_iff {m : List Nat} {p : Nat} (hp : p ≤ m.length) : ((m ++ m).drop p).take m.length = m ↔ Per m p := by
  constructor
  · intro h i
    by_cases h0 : m.length = 0
    · unfold at_; rw [h0]; simp [List.eq_nil_of_length_eq_zero h0]
    have hj : i % m.length < m.length := Nat.mod_lt _ (by omega)
    have e := congrArg (fun l => l[i % m.length]?) h
    simp only [List.getElem?_take_of_lt hj, List.getElem?_drop] at e
    rw [dbl_at (by omega), at_lt hj] at e
    have e := Option.some.inj e
    unfold at_ at e ⊢
    rw [Nat.mod_mod] at e
    rw [← e]
    congr 1
    rw [Nat.add_mod_mod, Nat.add_comm]
  · intro h
    apply List.ext_getElem?
    intro i
    by_cases hi : i < m.length
    · rw [List.getElem?_take_of_lt hi, List.getElem?_drop, dbl_at (by omega), at_lt hi, Nat.add_comm, h]
    · rw [List.getElem?_eq_none (by rw [List.length_take]; omega), List.getElem?_eq_none (by omega)]
/-- there is a least one -/
theorem per_least (m : List Nat) (hm : m ≠ []) : ∃ p, 0 < p ∧ p ≤ m.length ∧ Per m p ∧ ∀ q, 0 < q → q < p → ¬ Per m q := by
  have hl : 0 < m.length := List.length_pos_iff.mpr hm
  have key : ∀ n, n ≤ m.length → (∃ p, 0 < p ∧ p ≤ n ∧ Per m p ∧ ∀ q, 0 < q → q < p → ¬ Per m q) ∨ ∀ q, 0 < q → q ≤ n → ¬ Per m q := by
    intro n
    induction n with
    | zero => exact fun _ => .inr fun q h1 h2 => absurd h1 (by omega)
    | succ n ih =>
      intro hn
      rcases ih (by omega) with ⟨p, a, b, c, d⟩ | h
      · exact .inl ⟨p, a, by omega, c, d⟩
      · by_cases hp : Per m (n + 1)
        · exact .inl ⟨n + 1, by omega, Nat.le_refl _, hp, fun q h1 h2 => h q h1 (by omega)⟩
        · refine .inr fun q h1 h2 => ?_
          by_cases e : q = n + 1
          · rw [e]; exact hp
          · exact h q h1 (by omega)
  rcases key m.length (Nat.le_refl _) with ⟨p, a, b, c, d⟩ | h
  · exact ⟨p, a, b, c, d⟩
  · exact absurd (per_len m) (h _ hl (Nat.le_refl _))
theorem rep_at {l : List Nat} (hl : l ≠ []) : ∀ {t i : Nat}, i < t * l.length → (List.replicate t l).flatten[i]? = some (at_ l i)
  | 0, i, h => absurd h (by omega)
  | t + 1, i, h => by
    have h0 : 0 < l.length := List.length_pos_iff.mpr hl
    rw [List.replicate_succ, List.flatten_cons]
    by_cases c : i < l.length
    · rw [List.getElem?_append_left c, at_lt c]
    · rw [List.getElem?_append_right (by omega), rep_at hl (t := t) (by rw [Nat.succ_mul] at h; omega)]
      unfold at_
      rw [← Nat.mod_eq_sub_mod (by omega)]
theorem rep_length (m : List Nat) (j : Nat) : (List.replicate j m).flatten.length = j * m.length := by
  induction j with
  | zero => simp
  | succ j ih => rw [List.replicate_succ, List.flatten_cons, List.length_append, ih, Nat.succ_mul, Nat.add_comm]
/-- a word with a period that divides its length is a power -/
theorem per_pow {m : List Nat} {p t : Nat} (hp : 0 < p) (ht : m.length = t * p) (h : Per m p) : m = (List.replicate t (m.take p)).flatten := by
  by_cases h0 : m = []
  · subst h0; simp
  have ht0 : 0 < t := Nat.pos_of_ne_zero fun z => by
    subst z; rw [Nat.zero_mul] at ht; exact h0 (List.eq_nil_of_length_eq_zero ht)
  have hpl : p ≤ m.length := by rw [ht]; exact Nat.le_mul_of_pos_left p ht0
  have hlp : (m.take p).length = p := by rw [List.length_take]; omega
  apply List.ext_getElem?
  intro i
  by_cases hi : i < m.length
  · rw [rep_at (fun z => by rw [z] at hlp; simp at hlp; omega) (by rw [hlp, ← ht]; exact hi), at_lt hi]
    congr 1
    have hip : i % p < p := Nat.mod_lt _ hp
    have e1 : at_ (m.take p) i = at_ m (i % p) := by
      unfold at_
      rw [hlp, Nat.mod_eq_of_lt (show i % p < m.length by omega), List.getD_eq_getElem?_getD, List.getD_eq_getElem?_getD, List.getElem?_take_of_lt hip]
    rw [e1]
    have e2 := per_mul h (i / p) (i % p)
    rw [Nat.mod_add_div] at e2
    exact e2
  · rw [List.getElem?_eq_none (by omega), List.getElem?_eq_none (by rw [rep_length, hlp, ← ht]; omega)]
/-- a power has the period -/
theorem pow_per {l : List Nat} {t : Nat} (hl : l ≠ []) (ht : 0 < t) : Per (List.replicate t l).flatten l.length := by
  have h0 : 0 < l.length := List.length_pos_iff.mpr hl
  have hlen := rep_length l t
  have hN : 0 < (List.replicate t l).flatten.length := by rw [hlen]; exact Nat.mul_pos ht h0
  have key : ∀ i, at_ (List.replicate t l).flatten i = at_ l i := fun i => by
    have hi := Nat.mod_lt i hN
    have e := rep_at hl (t := t) (i := i % (List.replicate t l).flatten.length) (by rw [← hlen]; exact hi)
    rw [at_lt hi] at e
    have e := Option.some.inj e
    unfold at_ at e ⊢
    rw [Nat.mod_mod] at e
    rw [e]
    congr 1
    rw [hlen, Nat.mod_mul_left_mod]
  intro i
  rw [key, key, per_len l]
end Words
namespace K02
open PySem PySem.Spec PyProof.Rows L2 Eng
def fuel : Nat := 100000000
def topS (i : Nat) : Stmt := PySem.Challenge.pw_runsturned_k02_whole_roots_and_earlier_r.main.body.getD i (.Pass ⟨0, 0, 0, 0⟩)
def c_LETTERS : List Nat := [97, 98, 99, 100, 101, 102, 103, 104, 105, 106, 107, 108, 109, 110, 111, 112, 113, 114, 115, 116, 117, 118, 119, 120, 121, 122, 65, 66, 67, 68, 69, 70, 71, 72, 73, 74, 75, 76, 77, 78, 79, 80, 81, 82, 83, 84, 85, 86, 87, 88, 89, 90]
def c_SMALL : List Nat := [97, 98, 99, 100, 101, 102, 103, 104, 105, 106, 107, 108, 109, 110, 111, 112, 113, 114, 115, 116, 117, 118, 119, 120, 121, 122]
def subT : Str → Str → Option Bool := fun y x => ([(("NoNumber", "NoRoot"), false), (("NoRoot", "NoRoot"), true), (("NoRow", "NoRoot"), false)] : List ((Str × Str) × Bool)).lookup (y, x)
structure Gs (mg : Str → Option Value) : Prop where
  b_abs : mg "abs" = none
  b_bool : mg "bool" = none
  b_int : mg "int" = none
  b_isinstance : mg "isinstance" = none
  b_len : mg "len" = none
  b_range : mg "range" = none
  b_str : mg "str" = none
  b_tuple : mg "tuple" = none
  c_LETTERS : ∃ t, mg "LETTERS" = some (.str ⟨c_LETTERS.toArray⟩ t)
  c_MOST_TIMES : ∃ t, mg "MOST_TIMES" = some (.int 1000 t)
  c_SMALL : ∃ t, mg "SMALL" = some (.str ⟨c_SMALL.toArray⟩ t)
abbrev t__law_hand : Stmt := topS 26
def N__law_hand : List Str := ["script", "cells", "cell"]
theorem sc__law_hand : FnScope N__law_hand ["script"] (defScope t__law_hand) := ⟨rfl, rfl, rfl, by decide +kernel, rfl, by decide +kernel, by decide +kernel⟩
abbrev t__law_draw : Stmt := topS 27
def N__law_draw : List Str := ["hand", "many", "cell", "digit", "number"]
theorem sc__law_draw : FnScope N__law_draw ["hand", "many"] (defScope t__law_draw) := ⟨rfl, rfl, rfl, by decide +kernel, rfl, by decide +kernel, by decide +kernel⟩
abbrev t__law_deeds : Stmt := topS 31
def N__law_deeds : List Str := ["hand", "most", "many", "found", "rest", "turn", "at"]
theorem sc__law_deeds : FnScope N__law_deeds ["hand", "most"] (defScope t__law_deeds) := ⟨rfl, rfl, rfl, by decide +kernel, rfl, by decide +kernel, by decide +kernel⟩
abbrev t__law_row : Stmt := topS 32
def N__law_row : List Str := ["hand", "deeds", "many", "letters", "turn"]
theorem sc__law_row : FnScope N__law_row ["hand", "deeds", "many"] (defScope t__law_row) := ⟨rfl, rfl, rfl, by decide +kernel, rfl, by decide +kernel, by decide +kernel⟩
abbrev t__law_undoing : Stmt := topS 28
def N__law_undoing : List Str := ["letter"]
theorem sc__law_undoing : FnScope N__law_undoing ["letter"] (defScope t__law_undoing) := ⟨rfl, rfl, rfl, by decide +kernel, rfl, by decide +kernel, by decide +kernel⟩
abbrev t__law_back : Stmt := topS 29
def N__law_back : List Str := ["row", "letter"]
theorem sc__law_back : FnScope N__law_back ["row"] (defScope t__law_back) := ⟨rfl, rfl, rfl, by decide +kernel, rfl, by decide +kernel, by decide +kernel⟩
abbrev t__law_net : Stmt := topS 30
def N__law_net : List Str := ["row", "kept", "letter"]
theorem sc__law_net : FnScope N__law_net ["row"] (defScope t__law_net) := ⟨rfl, rfl, rfl, by decide +kernel, rfl, by decide +kernel, by decide +kernel⟩
abbrev t_is_string_of : Stmt := topS 10
def N_is_string_of : List Str := ["thing", "signs", "sign"]
theorem sc_is_string_of : FnScope N_is_string_of ["thing", "signs"] (defScope t_is_string_of) := ⟨rfl, rfl, rfl, by decide +kernel, rfl, by decide +kernel, by decide +kernel⟩
abbrev t_is_row : Stmt := topS 12
def N_is_row : List Str := ["thing"]
theorem sc_is_row : FnScope N_is_row ["thing"] (defScope t_is_row) := ⟨rfl, rfl, rfl, by decide +kernel, rfl, by decide +kernel, by decide +kernel⟩
abbrev t_check_any_row : Stmt := topS 13
def N_check_any_row : List Str := ["thing"]
theorem sc_check_any_row : FnScope N_check_any_row ["thing"] (defScope t_check_any_row) := ⟨rfl, rfl, rfl, by decide +kernel, rfl, by decide +kernel, by decide +kernel⟩
abbrev t_undoing_of : Stmt := topS 11
def N_undoing_of : List Str := ["letter"]
theorem sc_undoing_of : FnScope N_undoing_of ["letter"] (defScope t_undoing_of) := ⟨rfl, rfl, rfl, by decide +kernel, rfl, by decide +kernel, by decide +kernel⟩
abbrev t_net_letters : Stmt := topS 16
def N_net_letters : List Str := ["row", "kept", "letter"]
theorem sc_net_letters : FnScope N_net_letters ["row"] (defScope t_net_letters) := ⟨rfl, rfl, rfl, by decide +kernel, rfl, by decide +kernel, by decide +kernel⟩
abbrev t_bent : Stmt := topS 19
def N_bent : List Str := ["net", "many"]
theorem sc_bent : FnScope N_bent ["net"] (defScope t_bent) := ⟨rfl, rfl, rfl, by decide +kernel, rfl, by decide +kernel, by decide +kernel⟩
abbrev t_root : Stmt := topS 24
def N_root : List Str := ["row", "whole", "ends", "inner", "size"]
theorem sc_root : FnScope N_root ["row"] (defScope t_root) := ⟨rfl, rfl, rfl, by decide +kernel, rfl, by decide +kernel, by decide +kernel⟩
abbrev t__law_asked : Stmt := topS 35
def N__law_asked : List Str := ["row", "told"]
theorem sc__law_asked : FnScope N__law_asked ["row"] (defScope t__law_asked) := ⟨rfl, rfl, rfl, by decide +kernel, rfl, by decide +kernel, by decide +kernel⟩
abbrev t__law_root : Stmt := topS 33
def N__law_root : List Str := ["whole", "ends", "many", "times", "found"]
theorem sc__law_root : FnScope N__law_root ["whole"] (defScope t__law_root) := ⟨rfl, rfl, rfl, by decide +kernel, rfl, by decide +kernel, by decide +kernel⟩
abbrev t_is_integer : Stmt := topS 8
def N_is_integer : List Str := ["thing"]
theorem sc_is_integer : FnScope N_is_integer ["thing"] (defScope t_is_integer) := ⟨rfl, rfl, rfl, by decide +kernel, rfl, by decide +kernel, by decide +kernel⟩
abbrev t_is_within : Stmt := topS 9
def N_is_within : List Str := ["thing", "least", "most"]
theorem sc_is_within : FnScope N_is_within ["thing", "least", "most"] (defScope t_is_within) := ⟨rfl, rfl, rfl, by decide +kernel, rfl, by decide +kernel, by decide +kernel⟩
abbrev t_turned_about : Stmt := topS 17
def N_turned_about : List Str := ["row"]
theorem sc_turned_about : FnScope N_turned_about ["row"] (defScope t_turned_about) := ⟨rfl, rfl, rfl, by decide +kernel, rfl, by decide +kernel, by decide +kernel⟩
abbrev t_power_letters : Stmt := topS 21
def N_power_letters : List Str := ["net", "times", "ends"]
theorem sc_power_letters : FnScope N_power_letters ["net", "times"] (defScope t_power_letters) := ⟨rfl, rfl, rfl, by decide +kernel, rfl, by decide +kernel, by decide +kernel⟩
abbrev t_power : Stmt := topS 22
def N_power : List Str := ["row", "times"]
theorem sc_power : FnScope N_power ["row", "times"] (defScope t_power) := ⟨rfl, rfl, rfl, by decide +kernel, rfl, by decide +kernel, by decide +kernel⟩
abbrev t_net : Stmt := topS 20
def N_net : List Str := ["row"]
theorem sc_net : FnScope N_net ["row"] (defScope t_net) := ⟨rfl, rfl, rfl, by decide +kernel, rfl, by decide +kernel, by decide +kernel⟩
abbrev t__law_roots_right : Stmt := topS 36
def N__law_roots_right : List Str := ["hand", "deeds", "inner", "by", "row", "kind", "whole", "told"]
theorem sc__law_roots_right : FnScope N__law_roots_right ["hand", "deeds"] (defScope t__law_roots_right) := ⟨rfl, rfl, rfl, by decide +kernel, rfl, by decide +kernel, by decide +kernel⟩
abbrev t_row_key : Stmt := topS 18
def N_row_key : List Str := ["row", "places", "letter"]
theorem sc_row_key : FnScope N_row_key ["row"] (defScope t_row_key) := ⟨rfl, rfl, rfl, by decide +kernel, rfl, by decide +kernel, by decide +kernel⟩
abbrev t_earlier : Stmt := topS 23
def N_earlier : List Str := ["row", "second"]
theorem sc_earlier : FnScope N_earlier ["row", "second"] (defScope t_earlier) := ⟨rfl, rfl, rfl, by decide +kernel, rfl, by decide +kernel, by decide +kernel⟩
abbrev t__law_is_earlier : Stmt := topS 34
def N__law_is_earlier : List Str := ["one", "other", "order", "at"]
theorem sc__law_is_earlier : FnScope N__law_is_earlier ["one", "other"] (defScope t__law_is_earlier) := ⟨rfl, rfl, rfl, by decide +kernel, rfl, by decide +kernel, by decide +kernel⟩
abbrev t_law : Stmt := topS 37
def N_law : List Str := ["script", "hand", "deeds", "turn", "begin", "rows", "one", "other", "told"]
theorem sc_law : FnScope N_law ["script"] (defScope t_law) := ⟨rfl, rfl, rfl, by decide +kernel, rfl, by decide +kernel, by decide +kernel⟩
structure Fa (K : PySem.W.Frag) (mg : Str → Option Value) : Prop where
  e_NoNumber : ErrAt K mg "NoNumber"
  e_NoRoot : ErrAt K mg "NoRoot"
  e_NoRow : ErrAt K mg "NoRow"
  h_NoRoot : HanAt K mg subT "NoRoot"
  f__law_hand : FunAt K mg "_law_hand" t__law_hand
  f__law_draw : FunAt K mg "_law_draw" t__law_draw
  f__law_deeds : FunAt K mg "_law_deeds" t__law_deeds
  f__law_row : FunAt K mg "_law_row" t__law_row
  f__law_undoing : FunAt K mg "_law_undoing" t__law_undoing
  f__law_back : FunAt K mg "_law_back" t__law_back
  f__law_net : FunAt K mg "_law_net" t__law_net
  f_is_string_of : FunAt K mg "is_string_of" t_is_string_of
  f_is_row : FunAt K mg "is_row" t_is_row
  f_check_any_row : FunAt K mg "check_any_row" t_check_any_row
  f_undoing_of : FunAt K mg "undoing_of" t_undoing_of
  f_net_letters : FunAt K mg "net_letters" t_net_letters
  f_bent : FunAt K mg "bent" t_bent
  f_root : FunAt K mg "root" t_root
  f__law_asked : FunAt K mg "_law_asked" t__law_asked
  f__law_root : FunAt K mg "_law_root" t__law_root
  f_is_integer : FunAt K mg "is_integer" t_is_integer
  f_is_within : FunAt K mg "is_within" t_is_within
  f_turned_about : FunAt K mg "turned_about" t_turned_about
  f_power_letters : FunAt K mg "power_letters" t_power_letters
  f_power : FunAt K mg "power" t_power
  f_net : FunAt K mg "net" t_net
  f__law_roots_right : FunAt K mg "_law_roots_right" t__law_roots_right
  f_row_key : FunAt K mg "row_key" t_row_key
  f_earlier : FunAt K mg "earlier" t_earlier
  f__law_is_earlier : FunAt K mg "_law_is_earlier" t__law_is_earlier
  f_law : FunAt K mg "law" t_law
def b__law_hand : MS := (sFrz 0 (sSeq (sSet 1 (eLc (gN 2) (iVal (eSl (eVar 0) oNone (oSome (eK (.int 63))))) mYes (eFn absD (lCons (eFn intD (lCons (eVar 2) lNil)) lNil)) [2])) (sFrz 1 (sRet (eLst (lCons (eVar 1) (lCons (eK (.int 0)) (lCons (eK (.int 0)) (lCons (eOp addD (eK (.int 1)) (eFn lenD (lCons (eVar 1) lNil))) (lCons (eK (.int 0)) lNil))))))))))
def g__law_hand : List D → Fo := runF [0] 1 2 b__law_hand
theorem D__law_hand {P : Program} {w : World} {K : PySem.W.Frag} {mg : Str → Option Value} {base : Heap} (G : Gs mg) (F : Fa K mg) : DefOk P w K mg base 1 1 "_law_hand" ["script"] g__law_hand :=
  def_okD F.f__law_hand sc__law_hand rfl rfl (fun _ _ _ _ _ _ us hl => match us, hl with | [_], _ => rfl) fun f cdv A outer s H E hr => (s_frz (i := 0) (s_cons (s_setLc (i := 1) (kp := [0, 1]) rfl sc__law_hand.nd (i_val (d_sl (d_var 0) o_none (o_some d_int))) (blkOk_by (N := N__law_hand) (sc := defScope t__law_hand) (own := [("cell", 2)]) (by decide +kernel)) rfl (hkp_of (N := N__law_hand) [2] (by decide)) (fun _ _ _ _ _ => (g_name sc__law_hand.nd)) (fun _ _ _ _ _ => ts_nil) (fun _ _ _ _ _ => PD.to (d_bi fd_abs rfl G.b_abs boot_abs (l_consT (d_bt fd_int rfl G.b_int boot_int (l_consT (d_var 2) l_nil)) l_nil)))) (s_frz (i := 1) (s_one (s_ret (d_lst (l_consT (d_var 1) (l_consT d_int (l_consT d_int (l_consT (d_op od_add d_int (d_bi fd_len rfl G.b_len boot_len (l_consT (d_var 1) l_nil))) (l_consT d_int l_nil)))))))))))
def b__law_draw : MS := (sFrz 1 (sSeq (sIf (mAnd (mB (eOp eqD (eOp idxD (ePk 0) (eK (.int 2))) (eK (.int 0)))) (mB (eOp ltD (eOp idxD (ePk 0) (eK (.int 1))) (eFn lenD (lCons (eOp idxD (ePk 0) (eK (.int 0))) lNil))))) (sSeq (sSet 2 (eFz (eOp idxD (eOp idxD (ePk 0) (eK (.int 0))) (eOp idxD (ePk 0) (eK (.int 1)))))) (sSeq (sSetIx 0 (eK (.int 1)) (eOp addD (eOp idxD (ePk 0) (eK (.int 1))) (eK (.int 1)))) (sSeq (sSetIx 0 (eK (.int 3)) (eOp modD (eFn intD (lCons (eOp addD (eOp addD (eOp mulD (eOp idxD (ePk 0) (eK (.int 3))) (eK (.int 69621))) (eVar 2)) (eK (.int 11))) lNil)) (eK (.int 2147483629)))) (sIf (mB (eOp geD (eVar 2) (eOp powD (eK (.int 10)) (eK (.int 18))))) (sSetIx 0 (eK (.int 2)) (eVar 2)) sNext)))) sNext) (sSeq (sIf (mB (eOp gtD (eOp idxD (ePk 0) (eK (.int 2))) (eK (.int 0)))) (sSeq (sSet 3 (eOp modD (eFn intD (lCons (eOp idxD (ePk 0) (eK (.int 2))) lNil)) (eVar 1))) (sSeq (sSetIx 0 (eK (.int 2)) (eOp fdivD (eOp idxD (ePk 0) (eK (.int 2))) (eVar 1))) (sRet (eVar 3)))) sNext) (sSeq (sSetIx 0 (eK (.int 4)) (eOp addD (eOp idxD (ePk 0) (eK (.int 4))) (eK (.int 1)))) (sSeq (sSet 4 (eOp modD (eFn intD (lCons (eOp mulD (eFn intD (lCons (eOp addD (eOp idxD (ePk 0) (eK (.int 3))) (eOp mulD (eK (.int 7919)) (eOp idxD (ePk 0) (eK (.int 4))))) lNil)) (eK (.int 48271))) lNil)) (eK (.int 2147483647)))) (sSeq (sSet 4 (eOp modD (eFn intD (lCons (eOp mulD (eVar 4) (eOp addD (eOp fdivD (eVar 4) (eK (.int 1009))) (eK (.int 69621)))) lNil)) (eK (.int 2147483647)))) (sSeq (sSet 4 (eOp modD (eFn intD (lCons (eOp mulD (eVar 4) (eOp addD (eOp fdivD (eVar 4) (eK (.int 2003))) (eK (.int 40692)))) lNil)) (eK (.int 2147483399)))) (sRet (eOp modD (eFn intD (lCons (eOp fdivD (eVar 4) (eK (.int 16))) lNil)) (eVar 1))))))))))
def g__law_draw : List D → Fo := runF [0, 1] 2 3 b__law_draw
theorem D__law_draw {P : Program} {w : World} {K : PySem.W.Frag} {mg : Str → Option Value} {base : Heap} (G : Gs mg) (F : Fa K mg) : DefOk P w K mg base 1 2 "_law_draw" ["hand", "many"] g__law_draw :=
  def_okD F.f__law_draw sc__law_draw rfl rfl (fun _ _ _ _ _ _ us hl => match us, hl with | [_, _], _ => rfl) fun f cdv A outer s H E hr => (s_frz (i := 1) (s_cons (s_if (PDW.pt (w_and (t_cmp (od_eq (uz hr)) (d_ix (d_pk 0) d_int) d_int) (w_and1 (t_cmp od_lt (d_ix (d_pk 0) d_int) (d_bi fd_len rfl G.b_len boot_len (l_cons (d_ix (d_pk 0) d_int) l_nil)))))) (s_cons (s_let 2 sc__law_draw.nd (d_fz (d_ix (d_ix (d_pk 0) d_int) (d_ix (d_pk 0) d_int)))) (s_cons (s_at 0 d_int (d_op od_add (d_ix (d_pk 0) d_int) d_int)) (s_cons (s_at 0 d_int (d_op od_mod (d_bt fd_int rfl G.b_int boot_int (l_consT (d_op od_add (d_op od_add (d_op od_mul (d_ix (d_pk 0) d_int) d_int) (d_var 2)) d_int) l_nil)) d_int)) (s_one (s_if (t_cmp od_ge (d_var 2) (d_op od_pow d_int d_int)) (s_one (s_at 0 d_int (d_var 2))) s_nil))))) s_nil) (s_cons (s_if (t_cmp od_gt (d_ix (d_pk 0) d_int) d_int) (s_cons (s_let 3 sc__law_draw.nd (d_op od_mod (d_bt fd_int rfl G.b_int boot_int (l_cons (d_ix (d_pk 0) d_int) l_nil)) (d_var 1))) (s_cons (s_at 0 d_int (d_op od_fdiv (d_ix (d_pk 0) d_int) (d_var 1))) (s_one (s_ret (d_var 3))))) s_nil) (s_cons (s_at 0 d_int (d_op od_add (d_ix (d_pk 0) d_int) d_int)) (s_cons (s_let 4 sc__law_draw.nd (d_op od_mod (d_bt fd_int rfl G.b_int boot_int (l_consT (d_op od_mul (d_bt fd_int rfl G.b_int boot_int (l_consT (d_op od_add (d_ix (d_pk 0) d_int) (d_op od_mul d_int (d_ix (d_pk 0) d_int))) l_nil)) d_int) l_nil)) d_int)) (s_cons (s_let 4 sc__law_draw.nd (d_op od_mod (d_bt fd_int rfl G.b_int boot_int (l_consT (d_op od_mul (d_var 4) (d_op od_add (d_op od_fdiv (d_var 4) d_int) d_int)) l_nil)) d_int)) (s_cons (s_let 4 sc__law_draw.nd (d_op od_mod (d_bt fd_int rfl G.b_int boot_int (l_consT (d_op od_mul (d_var 4) (d_op od_add (d_op od_fdiv (d_var 4) d_int) d_int)) l_nil)) d_int)) (s_one (s_ret (d_op od_mod (d_bt fd_int rfl G.b_int boot_int (l_consT (d_op od_fdiv (d_var 4) d_int) l_nil)) (d_var 1)))))))))))
def b__law_deeds : MS := (sFrz 1 (sSeq (sSet 2 (eOp addD (eK (.int 1)) (eCall g__law_draw (aLend 0 (aVal (eVar 1) aNil))))) (sSeq (sSet 3 (eK (.str []))) (sSeq (sSet 4 (eK (.str [97, 98, 99, 100, 101, 102, 103, 104, 105, 106, 107, 108, 109, 110, 111, 112, 113, 114, 115, 116, 117, 118, 119, 120, 121, 122]))) (sSeq (sFor (gN 5) (iRg1 (eVar 2)) (sSeq (sSet 6 (eCall g__law_draw (aLend 0 (aVal (eOp subD (eFn lenD (lCons (eVar 4) lNil)) (eOp subD (eOp subD (eVar 2) (eVar 5)) (eK (.int 1)))) aNil)))) (sSeq (sSet 3 (eOp addD (eVar 3) (eOp idxD (eVar 4) (eVar 6)))) (sSet 4 (eSl (eVar 4) (oSome (eOp addD (eVar 6) (eK (.int 1)))) oNone))))) (sRet (eVar 3)))))))
def g__law_deeds : List D → Fo := runF [0, 1] 2 5 b__law_deeds
theorem D__law_deeds {P : Program} {w : World} {K : PySem.W.Frag} {mg : Str → Option Value} {base : Heap} (G : Gs mg) (F : Fa K mg) : DefOk P w K mg base 2 2 "_law_deeds" ["hand", "most"] g__law_deeds :=
  have D__law_draw : DefOk P w K mg base 1 2 "_law_draw" ["hand", "many"] g__law_draw := D__law_draw G F
  def_okD F.f__law_deeds sc__law_deeds rfl rfl (fun _ _ _ _ _ _ us hl => match us, hl with | [_, _], _ => rfl) fun f cdv A outer s H E hr => (s_frz (i := 1) (s_cons (s_let 2 sc__law_deeds.nd (d_op od_add d_int (d_callD D__law_draw (hr.mono (by decide)) (takes_of rfl rfl rfl rfl) (a_lend 0 (a_val (d_var 1) a_nil))))) (s_cons (s_let 3 sc__law_deeds.nd d_str) (s_cons (s_let 4 sc__law_deeds.nd d_str) (s_cons (s_for (passes_of rfl) rfl (i_rg1 (d_var 2) G.b_range) (g_name sc__law_deeds.nd) (s_cons (s_let 6 sc__law_deeds.nd (d_callD D__law_draw (hr.mono (by decide)) (takes_of rfl rfl rfl rfl) (a_lend 0 (a_val (d_op od_sub (d_bi fd_len rfl G.b_len boot_len (l_consT (d_var 4) l_nil)) (d_op od_sub (d_op od_sub (d_var 2) (d_var 5)) d_int)) a_nil)))) (s_cons (s_let 3 sc__law_deeds.nd (d_op od_add (d_var 3) (d_ix (d_var 4) (d_var 6)))) (s_one (s_let 4 sc__law_deeds.nd (d_sl (d_var 4) (o_some (d_op od_add (d_var 6) d_int)) o_none)))))) (s_one (s_ret (d_var 3))))))))
def b__law_row : MS := (sFrz 1 (sFrz 2 (sSeq (sSet 3 (eOp addD (eVar 1) (eMt upM (eVar 1) lNil))) (sFrz 3 (sRet (eMt joinM (eK (.str [])) (lCons (eLc (gN 4) (iRg1 (eVar 2)) mYes (eOp idxD (eVar 3) (eCall g__law_draw (aLend 0 (aVal (eFn lenD (lCons (eVar 3) lNil)) aNil)))) [4]) lNil)))))))
def g__law_row : List D → Fo := runF [0, 1, 2] 3 2 b__law_row
theorem D__law_row {P : Program} {w : World} {K : PySem.W.Frag} {mg : Str → Option Value} {base : Heap} (G : Gs mg) (F : Fa K mg) : DefOk P w K mg base 2 3 "_law_row" ["hand", "deeds", "many"] g__law_row :=
  have D__law_draw : DefOk P w K mg base 1 2 "_law_draw" ["hand", "many"] g__law_draw := D__law_draw G F
  def_okD F.f__law_row sc__law_row rfl rfl (fun _ _ _ _ _ _ us hl => match us, hl with | [_, _, _], _ => rfl) fun f cdv A outer s H E hr => (s_frz (i := 1) (s_frz (i := 2) (s_cons (s_let 3 sc__law_row.nd (d_op od_add (d_var 1) (d_mt0 PySem.F.plainAttrs_str PySem.F.slot_str_upper PySem.F.type_str_upper md_up (d_var 1)))) (s_frz (i := 3) (s_one (s_ret (d_mt (pe_bm PySem.F.plainAttrs_str PySem.F.slot_str_join PySem.F.type_str_join md_join d_str (l_consT (d_lc (kp := [0, 1, 2, 3]) rfl sc__law_row.nd (i_rg1 (d_var 2) G.b_range) (blkOk_by (N := N__law_row) (sc := defScope t__law_row) (own := [("turn", 4)]) (by decide +kernel)) rfl (hkp_of (N := N__law_row) [4] (by decide)) (fun _ _ _ _ _ => (g_name sc__law_row.nd)) (fun _ _ _ _ _ => ts_nil) (fun _ _ _ _ _ => PD.to (d_ix (d_var 3) (d_callD D__law_draw (hr.mono (by decide)) takes0 (a_lend 0 (a_val (d_bi fd_len rfl G.b_len boot_len (l_consT (d_var 3) l_nil)) a_nil)))))) l_nil)))))))))
def b__law_undoing : MS := (sFrz 0 (sSeq (sIf (mB (eMt islowM (eVar 0) lNil)) (sRet (eMt upM (eVar 0) lNil)) sNext) (sRet (eMt loM (eVar 0) lNil))))
def g__law_undoing : List D → Fo := runF [0] 1 0 b__law_undoing
theorem D__law_undoing {P : Program} {w : World} {K : PySem.W.Frag} {mg : Str → Option Value} {base : Heap} (G : Gs mg) (F : Fa K mg) : DefOk P w K mg base 1 1 "_law_undoing" ["letter"] g__law_undoing :=
  def_okD F.f__law_undoing sc__law_undoing rfl rfl (fun _ _ _ _ _ _ us hl => match us, hl with | [_], _ => rfl) fun f cdv A outer s H E hr => (s_frz (i := 0) (s_cons (s_if (t_val (d_mt0 PySem.F.plainAttrs_str PySem.F.slot_str_islower PySem.F.type_str_islower md_islow (d_var 0))) (s_one (s_ret (d_mt0 PySem.F.plainAttrs_str PySem.F.slot_str_upper PySem.F.type_str_upper md_up (d_var 0)))) s_nil) (s_one (s_ret (d_mt0 PySem.F.plainAttrs_str PySem.F.slot_str_lower PySem.F.type_str_lower md_lo (d_var 0))))))
def b__law_back : MS := (sFrz 0 (sRet (eMt joinM (eK (.str [])) (lCons (eLc (gN 1) (iVal (eUn revD (eVar 0))) mYes (eCall g__law_undoing (aVal (eVar 1) aNil)) [1]) lNil))))
def g__law_back : List D → Fo := runF [0] 1 1 b__law_back
theorem D__law_back {P : Program} {w : World} {K : PySem.W.Frag} {mg : Str → Option Value} {base : Heap} (G : Gs mg) (F : Fa K mg) : DefOk P w K mg base 2 1 "_law_back" ["row"] g__law_back :=
  have D__law_undoing : DefOk P w K mg base 1 1 "_law_undoing" ["letter"] g__law_undoing := D__law_undoing G F
  def_okD F.f__law_back sc__law_back rfl rfl (fun _ _ _ _ _ _ us hl => match us, hl with | [_], _ => rfl) fun f cdv A outer s H E hr => (s_frz (i := 0) (s_one (s_ret (d_mt (pe_bm PySem.F.plainAttrs_str PySem.F.slot_str_join PySem.F.type_str_join md_join d_str (l_consT (d_lc (kp := [0]) rfl sc__law_back.nd (i_val (d_rev (d_var 0))) (blkOk_by (N := N__law_back) (sc := defScope t__law_back) (own := [("letter", 1)]) (by decide +kernel)) rfl (hkp_of (N := N__law_back) [1] (by decide)) (fun _ _ _ _ _ => (g_name sc__law_back.nd)) (fun _ _ _ _ _ => ts_nil) (fun _ _ _ _ _ => PD.to (d_callD D__law_undoing (hr.mono (by decide)) takes0 (a_val (d_var 1) a_nil)))) l_nil))))))
def b__law_net : MS := (sFrz 0 (sSeq (sSet 1 (eLst lNil)) (sSeq (sFor (gN 2) (iVal (eVar 0)) (sIf (mAnd (mB (eOp gtD (eFn lenD (lCons (ePk 1) lNil)) (eK (.int 0)))) (mB (eOp eqD (eFz (eOp idxD (ePk 1) (eUn negD (eK (.int 1))))) (eCall g__law_undoing (aVal (eVar 2) aNil))))) (sEx (ePop 1)) (sEx (eApp 1 (eVar 2))))) (sRet (eMt joinM (eK (.str [])) (lCons (ePk 1) lNil))))))
def g__law_net : List D → Fo := runF [0] 1 2 b__law_net
theorem D__law_net {P : Program} {w : World} {K : PySem.W.Frag} {mg : Str → Option Value} {base : Heap} (G : Gs mg) (F : Fa K mg) : DefOk P w K mg base 2 1 "_law_net" ["row"] g__law_net :=
  have D__law_undoing : DefOk P w K mg base 1 1 "_law_undoing" ["letter"] g__law_undoing := D__law_undoing G F
  def_okD F.f__law_net sc__law_net rfl rfl (fun _ _ _ _ _ _ us hl => match us, hl with | [_], _ => rfl) fun f cdv A outer s H E hr => (s_frz (i := 0) (s_cons (s_let 1 sc__law_net.nd (d_lst l_nil)) (s_cons (s_for (passes_of rfl) rfl (i_val (d_var 0)) (g_name sc__law_net.nd) (s_one (s_if (PDW.pt (w_and (t_cmp od_gt (d_bi fd_len rfl G.b_len boot_len (l_cons (d_pk 1) l_nil)) d_int) (w_and1 (t_cmp (od_eq (uz hr)) (d_fz (d_ix (d_pk 1) (d_neg d_int))) (d_callD D__law_undoing (hr.mono (by decide)) (takes_of rfl rfl rfl rfl) (a_val (d_var 2) a_nil)))))) (s_one (s_expr (s_pop 1))) (s_one (s_expr (s_app 1 (d_var 2))))))) (s_one (s_ret (d_mt (pe_bm PySem.F.plainAttrs_str PySem.F.slot_str_join PySem.F.type_str_join md_join d_str (l_cons (d_pk 1) l_nil))))))))
def b_is_string_of : MS := (sFrz 0 (sFrz 1 (sSeq (sIf (mNot (mB (eFn isiD (lCons (eVar 0) (lCons (eK (.ty "str")) lNil))))) (sRet (eK (.bl false))) sNext) (sSeq (sFor (gN 2) (iVal (eVar 0)) (sIf (mB (eOp ninD (eVar 2) (eVar 1))) (sRet (eK (.bl false))) sNext)) (sRet (eK (.bl true)))))))
def g_is_string_of : List D → Fo := runF [0, 1] 2 1 b_is_string_of
theorem D_is_string_of {P : Program} {w : World} {K : PySem.W.Frag} {mg : Str → Option Value} {base : Heap} (G : Gs mg) (F : Fa K mg) : DefOk P w K mg base 1 2 "is_string_of" ["thing", "signs"] g_is_string_of :=
  def_okD F.f_is_string_of sc_is_string_of rfl rfl (fun _ _ _ _ _ _ us hl => match us, hl with | [_, _], _ => rfl) fun f cdv A outer s H E hr => (s_frz (i := 0) (s_frz (i := 1) (s_cons (s_if (t_not (t_val (d_bi fd_isi rfl G.b_isinstance boot_isinstance (l_consT (d_var 0) (l_consT (d_ty rfl G.b_str boot_str) l_nil))))) (s_one (s_ret d_bl)) s_nil) (s_cons (s_for (passes_of rfl) rfl (i_val (d_var 0)) (g_name sc_is_string_of.nd) (s_one (s_if (t_cmp od_nin (d_var 2) (d_var 1)) (s_one (s_ret d_bl)) s_nil))) (s_one (s_ret d_bl))))))
def b_is_row : MS := (sFrz 0 (sRet (eCall g_is_string_of (aVal (eVar 0) (aVal (eK (.str c_LETTERS)) aNil)))))
def g_is_row : List D → Fo := runF [0] 1 0 b_is_row
theorem D_is_row {P : Program} {w : World} {K : PySem.W.Frag} {mg : Str → Option Value} {base : Heap} (G : Gs mg) (F : Fa K mg) : DefOk P w K mg base 2 1 "is_row" ["thing"] g_is_row :=
  have D_is_string_of : DefOk P w K mg base 1 2 "is_string_of" ["thing", "signs"] g_is_string_of := D_is_string_of G F
  def_okD F.f_is_row sc_is_row rfl rfl (fun _ _ _ _ _ _ us hl => match us, hl with | [_], _ => rfl) fun f cdv A outer s H E hr => (s_frz (i := 0) (s_one (s_ret (d_callD D_is_string_of (hr.mono (by decide)) (takes_of rfl rfl rfl rfl) (a_val (d_var 0) (a_val (d_gstr G.c_LETTERS) a_nil))))))
def b_check_any_row : MS := (sFrz 0 (sIf (mNot (mB (eCall g_is_row (aVal (eVar 0) aNil)))) (sRaise "NoRow") sNext))
def g_check_any_row : List D → Fo := runF [0] 1 0 b_check_any_row
theorem D_check_any_row {P : Program} {w : World} {K : PySem.W.Frag} {mg : Str → Option Value} {base : Heap} (G : Gs mg) (F : Fa K mg) : DefOk P w K mg base 3 1 "check_any_row" ["thing"] g_check_any_row :=
  have D_is_row : DefOk P w K mg base 2 1 "is_row" ["thing"] g_is_row := D_is_row G F
  def_okD F.f_check_any_row sc_check_any_row rfl rfl (fun _ _ _ _ _ _ us hl => match us, hl with | [_], _ => rfl) fun f cdv A outer s H E hr => (s_frz (i := 0) (s_one (s_if (t_not (t_val (d_callD D_is_row (hr.mono (by decide)) (takes_of rfl rfl rfl rfl) (a_val (d_var 0) a_nil)))) (s_one (s_raise0 F.e_NoRow (takes_of rfl rfl rfl rfl))) s_nil)))
def b_undoing_of : MS := (sFrz 0 (sRet (eMt swapM (eVar 0) lNil)))
def g_undoing_of : List D → Fo := runF [0] 1 0 b_undoing_of
theorem D_undoing_of {P : Program} {w : World} {K : PySem.W.Frag} {mg : Str → Option Value} {base : Heap} (G : Gs mg) (F : Fa K mg) : DefOk P w K mg base 1 1 "undoing_of" ["letter"] g_undoing_of :=
  def_okD F.f_undoing_of sc_undoing_of rfl rfl (fun _ _ _ _ _ _ us hl => match us, hl with | [_], _ => rfl) fun f cdv A outer s H E hr => (s_frz (i := 0) (s_one (s_ret (d_mt0 PySem.F.plainAttrs_str PySem.F.slot_str_swapcase PySem.F.type_str_swapcase md_swap (d_var 0)))))
def b_net_letters : MS := (sFrz 0 (sSeq (sSet 1 (eLst lNil)) (sSeq (sFor (gN 2) (iVal (eVar 0)) (sIf (mAnd (mB (eOp gtD (eFn lenD (lCons (ePk 1) lNil)) (eK (.int 0)))) (mB (eOp eqD (eFz (eOp idxD (ePk 1) (eUn negD (eK (.int 1))))) (eCall g_undoing_of (aVal (eVar 2) aNil))))) (sEx (ePop 1)) (sEx (eApp 1 (eVar 2))))) (sRet (eMt joinM (eK (.str [])) (lCons (ePk 1) lNil))))))
def g_net_letters : List D → Fo := runF [0] 1 2 b_net_letters
theorem D_net_letters {P : Program} {w : World} {K : PySem.W.Frag} {mg : Str → Option Value} {base : Heap} (G : Gs mg) (F : Fa K mg) : DefOk P w K mg base 2 1 "net_letters" ["row"] g_net_letters :=
  have D_undoing_of : DefOk P w K mg base 1 1 "undoing_of" ["letter"] g_undoing_of := D_undoing_of G F
  def_okD F.f_net_letters sc_net_letters rfl rfl (fun _ _ _ _ _ _ us hl => match us, hl with | [_], _ => rfl) fun f cdv A outer s H E hr => (s_frz (i := 0) (s_cons (s_let 1 sc_net_letters.nd (d_lst l_nil)) (s_cons (s_for (passes_of rfl) rfl (i_val (d_var 0)) (g_name sc_net_letters.nd) (s_one (s_if (PDW.pt (w_and (t_cmp od_gt (d_bi fd_len rfl G.b_len boot_len (l_cons (d_pk 1) l_nil)) d_int) (w_and1 (t_cmp (od_eq (uz hr)) (d_fz (d_ix (d_pk 1) (d_neg d_int))) (d_callD D_undoing_of (hr.mono (by decide)) (takes_of rfl rfl rfl rfl) (a_val (d_var 2) a_nil)))))) (s_one (s_expr (s_pop 1))) (s_one (s_expr (s_app 1 (d_var 2))))))) (s_one (s_ret (d_mt (pe_bm PySem.F.plainAttrs_str PySem.F.slot_str_join PySem.F.type_str_join md_join d_str (l_cons (d_pk 1) l_nil))))))))
def b_bent : MS := (sFrz 0 (sSeq (sSet 1 (eK (.int 0))) (sSeq (whileN (mAnd (mB (eOp ltD (eOp addD (eOp mulD (eK (.int 2)) (eVar 1)) (eK (.int 1))) (eFn lenD (lCons (eVar 0) lNil)))) (mB (eOp eqD (eOp idxD (eVar 0) (eVar 1)) (eCall g_undoing_of (aVal (eOp idxD (eVar 0) (eOp subD (eUn negD (eK (.int 1))) (eVar 1))) aNil))))) (sAug 1 iaddD (eK (.int 1))) fuel) (sRet (eVar 1)))))
def g_bent : List D → Fo := runF [0] 1 1 b_bent
theorem D_bent {P : Program} {w : World} {K : PySem.W.Frag} {mg : Str → Option Value} {base : Heap} (G : Gs mg) (F : Fa K mg) : DefOk P w K mg base 2 1 "bent" ["net"] g_bent :=
  have D_undoing_of : DefOk P w K mg base 1 1 "undoing_of" ["letter"] g_undoing_of := D_undoing_of G F
  def_okD F.f_bent sc_bent rfl rfl (fun _ _ _ _ _ _ us hl => match us, hl with | [_], _ => rfl) fun f cdv A outer s H E hr => (s_frz (i := 0) (s_cons (s_let 1 sc_bent.nd d_int) (s_cons (s_while fuel (passes_of rfl) (PDW.pt (w_and (t_cmp od_lt (d_op od_add (d_op od_mul d_int (d_var 1)) d_int) (d_bi fd_len rfl G.b_len boot_len (l_consT (d_var 0) l_nil))) (w_and1 (t_cmp (od_eq (uz hr)) (d_ix (d_var 0) (d_var 1)) (d_callD D_undoing_of (hr.mono (by decide)) (takes_of rfl rfl rfl rfl) (a_val (d_ix (d_var 0) (d_op od_sub (d_neg d_int) (d_var 1))) a_nil)))))) (s_one (s_inc 1 od_iadd sc_bent.nd d_int))) (s_one (s_ret (d_var 1))))))
def b_root : MS := (sFrz 0 (sSeq (sEx (eCall g_check_any_row (aVal (eVar 0) aNil))) (sSeq (sSet 1 (eCall g_net_letters (aVal (eVar 0) aNil))) (sSeq (sIf (mB (eOp eqD (eVar 1) (eK (.str [])))) (sRaise "NoRoot") sNext) (sSeq (sSet 2 (eCall g_bent (aVal (eVar 1) aNil))) (sSeq (sSet 3 (eSl (eVar 1) (oSome (eVar 2)) (oSome (eOp subD (eFn lenD (lCons (eVar 1) lNil)) (eVar 2))))) (sSeq (sSet 4 (eMt find2M (eOp addD (eVar 3) (eVar 3)) (lCons (eVar 3) (lCons (eK (.int 1)) lNil)))) (sRet (eTup (lCons (eOp addD (eOp addD (eSl (eVar 1) oNone (oSome (eVar 2))) (eSl (eVar 3) oNone (oSome (eVar 4)))) (eSl (eVar 1) (oSome (eOp subD (eFn lenD (lCons (eVar 1) lNil)) (eVar 2))) oNone)) (lCons (eOp fdivD (eFn lenD (lCons (eVar 3) lNil)) (eVar 4)) lNil)))))))))))
def g_root : List D → Fo := runF [0] 1 4 b_root
theorem D_root {P : Program} {w : World} {K : PySem.W.Frag} {mg : Str → Option Value} {base : Heap} (G : Gs mg) (F : Fa K mg) : DefOk P w K mg base 4 1 "root" ["row"] g_root :=
  have D_check_any_row : DefOk P w K mg base 3 1 "check_any_row" ["thing"] g_check_any_row := D_check_any_row G F
  have D_net_letters : DefOk P w K mg base 2 1 "net_letters" ["row"] g_net_letters := D_net_letters G F
  have D_bent : DefOk P w K mg base 2 1 "bent" ["net"] g_bent := D_bent G F
  def_okD F.f_root sc_root rfl rfl (fun _ _ _ _ _ _ us hl => match us, hl with | [_], _ => rfl) fun f cdv A outer s H E hr => (s_frz (i := 0) (s_cons (s_expr (d_callD D_check_any_row (hr.mono (by decide)) (takes_of rfl rfl rfl rfl) (a_val (d_var 0) a_nil))) (s_cons (s_let 1 sc_root.nd (d_callD D_net_letters (hr.mono (by decide)) (takes_of rfl rfl rfl rfl) (a_val (d_var 0) a_nil))) (s_cons (s_if (t_cmp (od_eq (uz hr)) (d_var 1) d_str) (s_one (s_raise0 F.e_NoRoot (takes_of rfl rfl rfl rfl))) s_nil) (s_cons (s_let 2 sc_root.nd (d_callD D_bent (hr.mono (by decide)) (takes_of rfl rfl rfl rfl) (a_val (d_var 1) a_nil))) (s_cons (s_let 3 sc_root.nd (d_sl (d_var 1) (o_some (d_var 2)) (o_some (d_op od_sub (d_bi fd_len rfl G.b_len boot_len (l_consT (d_var 1) l_nil)) (d_var 2))))) (s_cons (s_let 4 sc_root.nd (d_mt (pe_bm PySem.F.plainAttrs_str PySem.F.slot_str_find PySem.F.type_str_find md_find2 (d_op od_add (d_var 3) (d_var 3)) (l_consT (d_var 3) (l_consT d_int l_nil))))) (s_one (s_ret (d_tup (l_consT (d_op od_add (d_op od_add (d_sl (d_var 1) o_none (o_some (d_var 2))) (d_sl (d_var 3) o_none (o_some (d_var 4)))) (d_sl (d_var 1) (o_some (d_op od_sub (d_bi fd_len rfl G.b_len boot_len (l_consT (d_var 1) l_nil)) (d_var 2))) o_none)) (l_consT (d_op od_fdiv (d_bi fd_len rfl G.b_len boot_len (l_consT (d_var 3) l_nil)) (d_var 4)) l_nil))))))))))))
def b__law_asked : MS := (sFrz 0 (sSeq (sSet 1 (eK .non)) (sSeq (sTry subT (sSeq (sSet 1 (eCall g_root (aVal (eVar 0) aNil))) (sFrz 1 sNext)) (("NoRoot", none, fun exc => (sSet 1 (eK (.str [110, 111, 110, 101])))) :: [])) (sRet (eVar 1)))))
def g__law_asked : List D → Fo := runF [0] 1 1 b__law_asked
theorem D__law_asked {P : Program} {w : World} {K : PySem.W.Frag} {mg : Str → Option Value} {base : Heap} (G : Gs mg) (F : Fa K mg) : DefOk P w K mg base 5 1 "_law_asked" ["row"] g__law_asked :=
  have D_root : DefOk P w K mg base 4 1 "root" ["row"] g_root := D_root G F
  def_okD F.f__law_asked sc__law_asked rfl rfl (fun _ _ _ _ _ _ us hl => match us, hl with | [_], _ => rfl) fun f cdv A outer s H E hr => (s_frz (i := 0) (s_cons (s_let 1 sc__law_asked.nd d_non) (s_cons (s_try rfl rfl sc__law_asked.nd (takes_of rfl rfl rfl rfl) (fun _ _ _ tk pa => (s_cons (s_let 1 sc__law_asked.nd (d_callD D_root (hr.mono (by decide)) tk (a_val (d_var 0) a_nil))) (s_frz (i := 1) s_nil))) (h_plain F.h_NoRoot (fun exc _ _ _ _ _ hz hv cg => (s_one (s_let 1 sc__law_asked.nd d_str))) Hans.nil)) (s_one (s_ret (d_var 1))))))
def b__law_root : MS := (sFrz 0 (sSeq (sSet 1 (eK (.int 0))) (sSeq (whileN (mAnd (mB (eOp ltD (eOp addD (eOp mulD (eK (.int 2)) (eVar 1)) (eK (.int 1))) (eFn lenD (lCons (eVar 0) lNil)))) (mB (eOp eqD (eOp idxD (eVar 0) (eVar 1)) (eCall g__law_undoing (aVal (eOp idxD (eVar 0) (eOp subD (eOp subD (eFn lenD (lCons (eVar 0) lNil)) (eK (.int 1))) (eVar 1))) aNil))))) (sSet 1 (eOp addD (eVar 1) (eK (.int 1)))) fuel) (sSeq (sSet 2 (eOp subD (eFn lenD (lCons (eVar 0) lNil)) (eOp mulD (eK (.int 2)) (eVar 1)))) (sSeq (sFor (gN 3) (iRgN (eVar 2) (eK (.int 0)) (eUn negD (eK (.int 1)))) (sIf (mB (eOp eqD (eOp modD (eFn intD (lCons (eVar 2) lNil)) (eVar 3)) (eK (.int 0)))) (sSeq (sSet 4 (eOp addD (eSl (eVar 0) oNone (oSome (eOp addD (eVar 1) (eOp fdivD (eVar 2) (eVar 3))))) (eSl (eVar 0) (oSome (eOp subD (eFn lenD (lCons (eVar 0) lNil)) (eVar 1))) oNone))) (sFrz 4 (sIf (mB (eOp eqD (eCall g__law_net (aVal (eOp mulD (eVar 4) (eVar 3)) aNil)) (eVar 0))) (sRet (eTup (lCons (eVar 4) (lCons (eVar 3) lNil)))) sNext))) sNext)) (sRet (eK .non)))))))
def g__law_root : List D → Fo := runF [0] 1 4 b__law_root
theorem D__law_root {P : Program} {w : World} {K : PySem.W.Frag} {mg : Str → Option Value} {base : Heap} (G : Gs mg) (F : Fa K mg) : DefOk P w K mg base 3 1 "_law_root" ["whole"] g__law_root :=
  have D__law_undoing : DefOk P w K mg base 1 1 "_law_undoing" ["letter"] g__law_undoing := D__law_undoing G F
  have D__law_net : DefOk P w K mg base 2 1 "_law_net" ["row"] g__law_net := D__law_net G F
  def_okD F.f__law_root sc__law_root rfl rfl (fun _ _ _ _ _ _ us hl => match us, hl with | [_], _ => rfl) fun f cdv A outer s H E hr => (s_frz (i := 0) (s_cons (s_let 1 sc__law_root.nd d_int) (s_cons (s_while fuel (passes_of rfl) (PDW.pt (w_and (t_cmp od_lt (d_op od_add (d_op od_mul d_int (d_var 1)) d_int) (d_bi fd_len rfl G.b_len boot_len (l_consT (d_var 0) l_nil))) (w_and1 (t_cmp (od_eq (uz hr)) (d_ix (d_var 0) (d_var 1)) (d_callD D__law_undoing (hr.mono (by decide)) (takes_of rfl rfl rfl rfl) (a_val (d_ix (d_var 0) (d_op od_sub (d_op od_sub (d_bi fd_len rfl G.b_len boot_len (l_consT (d_var 0) l_nil)) d_int) (d_var 1))) a_nil)))))) (s_one (s_let 1 sc__law_root.nd (d_op od_add (d_var 1) d_int)))) (s_cons (s_let 2 sc__law_root.nd (d_op od_sub (d_bi fd_len rfl G.b_len boot_len (l_consT (d_var 0) l_nil)) (d_op od_mul d_int (d_var 1)))) (s_cons (s_for (passes_of rfl) rfl (i_rgN (d_var 2) d_int (d_neg d_int) G.b_range) (g_name sc__law_root.nd) (s_one (s_if (t_cmp (od_eq (uz hr)) (d_op od_mod (d_bt fd_int rfl G.b_int boot_int (l_consT (d_var 2) l_nil)) (d_var 3)) d_int) (s_cons (s_let 4 sc__law_root.nd (d_op od_add (d_sl (d_var 0) o_none (o_some (d_op od_add (d_var 1) (d_op od_fdiv (d_var 2) (d_var 3))))) (d_sl (d_var 0) (o_some (d_op od_sub (d_bi fd_len rfl G.b_len boot_len (l_consT (d_var 0) l_nil)) (d_var 1))) o_none))) (s_frz (i := 4) (s_one (s_if (t_cmp (od_eq (uz hr)) (d_callD D__law_net (hr.mono (by decide)) (takes_of rfl rfl rfl rfl) (a_val (d_op od_mul (d_var 4) (d_var 3)) a_nil)) (d_var 0)) (s_one (s_ret (d_tup (l_consT (d_var 4) (l_consT (d_var 3) l_nil))))) s_nil)))) s_nil))) (s_one (s_ret d_non)))))))
def b_is_integer : MS := (sFrz 0 (sRet (eBo (mAnd (mB (eFn isiD (lCons (eVar 0) (lCons (eK (.ty "int")) lNil)))) (mB (eBo (mNot (mB (eFn isiD (lCons (eVar 0) (lCons (eK (.ty "bool")) lNil)))))))))))
def g_is_integer : List D → Fo := runF [0] 1 0 b_is_integer
theorem D_is_integer {P : Program} {w : World} {K : PySem.W.Frag} {mg : Str → Option Value} {base : Heap} (G : Gs mg) (F : Fa K mg) : DefOk P w K mg base 1 1 "is_integer" ["thing"] g_is_integer :=
  def_okD F.f_is_integer sc_is_integer rfl rfl (fun _ _ _ _ _ _ us hl => match us, hl with | [_], _ => rfl) fun f cdv A outer s H E hr => (s_frz (i := 0) (s_one (s_ret (d_and (d_bi fd_isi rfl G.b_isinstance boot_isinstance (l_consT (d_var 0) (l_consT (d_ty rfl G.b_int boot_int) l_nil))) (d_one (d_not (d_bi fd_isi rfl G.b_isinstance boot_isinstance (l_consT (d_var 0) (l_consT (d_ty rfl G.b_bool boot_bool) l_nil)))))))))
def b_is_within : MS := (sFrz 0 (sFrz 1 (sFrz 2 (sRet (eBo (mAnd (mB (eCall g_is_integer (aVal (eVar 0) aNil))) (mB (eCh leD leD (eVar 1) (eVar 0) (eVar 2)))))))))
def g_is_within : List D → Fo := runF [0, 1, 2] 3 0 b_is_within
theorem D_is_within {P : Program} {w : World} {K : PySem.W.Frag} {mg : Str → Option Value} {base : Heap} (G : Gs mg) (F : Fa K mg) : DefOk P w K mg base 2 3 "is_within" ["thing", "least", "most"] g_is_within :=
  have D_is_integer : DefOk P w K mg base 1 1 "is_integer" ["thing"] g_is_integer := D_is_integer G F
  def_okD F.f_is_within sc_is_within rfl rfl (fun _ _ _ _ _ _ us hl => match us, hl with | [_, _, _], _ => rfl) fun f cdv A outer s H E hr => (s_frz (i := 0) (s_frz (i := 1) (s_frz (i := 2) (s_one (s_ret (d_and (d_callD D_is_integer (hr.mono (by decide)) (takes_of rfl rfl rfl rfl) (a_val (d_var 0) a_nil)) (d_one (d_ch od_le od_le (d_var 1) (d_var 0) (d_var 2)))))))))
def b_turned_about : MS := (sFrz 0 (sRet (eMt swapM (eUn revD (eVar 0)) lNil)))
def g_turned_about : List D → Fo := runF [0] 1 0 b_turned_about
theorem D_turned_about {P : Program} {w : World} {K : PySem.W.Frag} {mg : Str → Option Value} {base : Heap} (G : Gs mg) (F : Fa K mg) : DefOk P w K mg base 1 1 "turned_about" ["row"] g_turned_about :=
  def_okD F.f_turned_about sc_turned_about rfl rfl (fun _ _ _ _ _ _ us hl => match us, hl with | [_], _ => rfl) fun f cdv A outer s H E hr => (s_frz (i := 0) (s_one (s_ret (d_mt0 PySem.F.plainAttrs_str PySem.F.slot_str_swapcase PySem.F.type_str_swapcase md_swap (d_rev (d_var 0))))))
def b_power_letters (self : List D → Fo) : MS := (sFrz 0 (sFrz 1 (sSeq (sIf (mB (eOp ltD (eVar 1) (eK (.int 0)))) (sRet (eCall self (aVal (eCall g_turned_about (aVal (eVar 0) aNil)) (aVal (eUn negD (eVar 1)) aNil)))) sNext) (sSeq (sIf (mOr (mB (eOp eqD (eVar 1) (eK (.int 0)))) (mB (eOp eqD (eVar 0) (eK (.str []))))) (sRet (eK (.str []))) sNext) (sSeq (sSet 2 (eCall g_bent (aVal (eVar 0) aNil))) (sRet (eOp addD (eOp addD (eSl (eVar 0) oNone (oSome (eVar 2))) (eOp mulD (eSl (eVar 0) (oSome (eVar 2)) (oSome (eOp subD (eFn lenD (lCons (eVar 0) lNil)) (eVar 2)))) (eVar 1))) (eSl (eVar 0) (oSome (eOp subD (eFn lenD (lCons (eVar 0) lNil)) (eVar 2))) oNone))))))))
def r_power_letters : Nat → List D → Fo
  | 0 => fun _ => .stuck
  | n + 1 => runF [0, 1] 2 1 (b_power_letters (r_power_letters n))
def g_power_letters : List D → Fo := r_power_letters 2
theorem R_power_letters {P : Program} {w : World} {K : PySem.W.Frag} {mg : Str → Option Value} {base : Heap} (G : Gs mg) (F : Fa K mg) : ∀ n, DefOk P w K mg base (3 + n) 2 "power_letters" ["net", "times"] (r_power_letters n)
  | 0 => def_none F.f_power_letters rfl (fun _ _ _ _ _ _ us hl => match us, hl with | [_, _], _ => rfl)
  | n + 1 =>
    have D_power_letters : DefOk P w K mg base (3 + n) 2 "power_letters" ["net", "times"] (r_power_letters n) := R_power_letters G F n
    have D_turned_about : DefOk P w K mg base 1 1 "turned_about" ["row"] g_turned_about := D_turned_about G F
    have D_bent : DefOk P w K mg base 2 1 "bent" ["net"] g_bent := D_bent G F
    def_okD F.f_power_letters sc_power_letters rfl rfl (fun _ _ _ _ _ _ us hl => match us, hl with | [_, _], _ => rfl) fun f cdv A outer s H E hr => (s_frz (i := 0) (s_frz (i := 1) (s_cons (s_if (t_cmp od_lt (d_var 1) d_int) (s_one (s_ret (d_callD D_power_letters (hr.mono (by first | exact Nat.le_refl _ | exact Nat.le_trans (by decide) (Nat.le_add_right 3 n))) (takes_of rfl rfl rfl rfl) (a_val (d_callD D_turned_about (hr.mono (by first | exact Nat.le_refl _ | exact Nat.le_trans (by decide) (Nat.le_add_right 3 n))) (takes_of rfl rfl rfl rfl) (a_val (d_var 0) a_nil)) (a_val (d_neg (d_var 1)) a_nil))))) s_nil) (s_cons (s_if (PDW.pt (w_or (t_cmp (od_eq (uz hr)) (d_var 1) d_int) (w_or1 (t_cmp (od_eq (uz hr)) (d_var 0) d_str)))) (s_one (s_ret d_str)) s_nil) (s_cons (s_let 2 sc_power_letters.nd (d_callD D_bent (hr.mono (by first | exact Nat.le_refl _ | exact Nat.le_trans (by decide) (Nat.le_add_right 3 n))) (takes_of rfl rfl rfl rfl) (a_val (d_var 0) a_nil))) (s_one (s_ret (d_op od_add (d_op od_add (d_sl (d_var 0) o_none (o_some (d_var 2))) (d_op od_mul (d_sl (d_var 0) (o_some (d_var 2)) (o_some (d_op od_sub (d_bi fd_len rfl G.b_len boot_len (l_consT (d_var 0) l_nil)) (d_var 2)))) (d_var 1))) (d_sl (d_var 0) (o_some (d_op od_sub (d_bi fd_len rfl G.b_len boot_len (l_consT (d_var 0) l_nil)) (d_var 2))) o_none)))))))))
theorem D_power_letters {P : Program} {w : World} {K : PySem.W.Frag} {mg : Str → Option Value} {base : Heap} (G : Gs mg) (F : Fa K mg) : DefOk P w K mg base 5 2 "power_letters" ["net", "times"] g_power_letters := R_power_letters G F 2
def b_power : MS := (sFrz 0 (sFrz 1 (sSeq (sEx (eCall g_check_any_row (aVal (eVar 0) aNil))) (sSeq (sIf (mNot (mB (eCall g_is_within (aVal (eVar 1) (aVal (eUn negD (eK (.int 1000))) (aVal (eK (.int 1000)) aNil)))))) (sRaise "NoNumber") sNext) (sRet (eCall g_power_letters (aVal (eCall g_net_letters (aVal (eVar 0) aNil)) (aVal (eVar 1) aNil))))))))
def g_power : List D → Fo := runF [0, 1] 2 0 b_power
theorem D_power {P : Program} {w : World} {K : PySem.W.Frag} {mg : Str → Option Value} {base : Heap} (G : Gs mg) (F : Fa K mg) : DefOk P w K mg base 6 2 "power" ["row", "times"] g_power :=
  have D_check_any_row : DefOk P w K mg base 3 1 "check_any_row" ["thing"] g_check_any_row := D_check_any_row G F
  have D_is_within : DefOk P w K mg base 2 3 "is_within" ["thing", "least", "most"] g_is_within := D_is_within G F
  have D_power_letters : DefOk P w K mg base 5 2 "power_letters" ["net", "times"] g_power_letters := D_power_letters G F
  have D_net_letters : DefOk P w K mg base 2 1 "net_letters" ["row"] g_net_letters := D_net_letters G F
  def_okD F.f_power sc_power rfl rfl (fun _ _ _ _ _ _ us hl => match us, hl with | [_, _], _ => rfl) fun f cdv A outer s H E hr => (s_frz (i := 0) (s_frz (i := 1) (s_cons (s_expr (d_callD D_check_any_row (hr.mono (by decide)) (takes_of rfl rfl rfl rfl) (a_val (d_var 0) a_nil))) (s_cons (s_if (t_not (t_val (d_callD D_is_within (hr.mono (by decide)) (takes_of rfl rfl rfl rfl) (a_val (d_var 1) (a_val (d_neg (d_gint G.c_MOST_TIMES)) (a_val (d_gint G.c_MOST_TIMES) a_nil)))))) (s_one (s_raise0 F.e_NoNumber (takes_of rfl rfl rfl rfl))) s_nil) (s_one (s_ret (d_callD D_power_letters (hr.mono (by decide)) (takes_of rfl rfl rfl rfl) (a_val (d_callD D_net_letters (hr.mono (by decide)) (takes_of rfl rfl rfl rfl) (a_val (d_var 0) a_nil)) (a_val (d_var 1) a_nil)))))))))
def b_net : MS := (sFrz 0 (sSeq (sEx (eCall g_check_any_row (aVal (eVar 0) aNil))) (sRet (eCall g_net_letters (aVal (eVar 0) aNil)))))
def g_net : List D → Fo := runF [0] 1 0 b_net
theorem D_net {P : Program} {w : World} {K : PySem.W.Frag} {mg : Str → Option Value} {base : Heap} (G : Gs mg) (F : Fa K mg) : DefOk P w K mg base 4 1 "net" ["row"] g_net :=
  have D_check_any_row : DefOk P w K mg base 3 1 "check_any_row" ["thing"] g_check_any_row := D_check_any_row G F
  have D_net_letters : DefOk P w K mg base 2 1 "net_letters" ["row"] g_net_letters := D_net_letters G F
  def_okD F.f_net sc_net rfl rfl (fun _ _ _ _ _ _ us hl => match us, hl with | [_], _ => rfl) fun f cdv A outer s H E hr => (s_frz (i := 0) (s_cons (s_expr (d_callD D_check_any_row (hr.mono (by decide)) (takes_of rfl rfl rfl rfl) (a_val (d_var 0) a_nil))) (s_one (s_ret (d_callD D_net_letters (hr.mono (by decide)) (takes_of rfl rfl rfl rfl) (a_val (d_var 0) a_nil))))))
def b__law_roots_right : MS := (sFrz 1 (sSeq (sSet 2 (eCall g__law_row (aLend 0 (aVal (eVar 1) (aVal (eOp addD (eK (.int 1)) (eCall g__law_draw (aLend 0 (aVal (eK (.int 4)) aNil)))) aNil))))) (sSeq (sSet 3 (eCall g__law_row (aLend 0 (aVal (eVar 1) (aVal (eCall g__law_draw (aLend 0 (aVal (eK (.int 4)) aNil))) aNil))))) (sSeq (sSet 4 (eOp addD (eOp addD (eVar 3) (eOp mulD (eVar 2) (eOp addD (eK (.int 1)) (eCall g__law_draw (aLend 0 (aVal (eK (.int 13)) aNil)))))) (eCall g__law_back (aVal (eVar 3) aNil)))) (sSeq (sSet 5 (eCall g__law_draw (aLend 0 (aVal (eK (.int 6)) aNil)))) (sSeq (sIf (mB (eOp ltD (eVar 5) (eK (.int 2)))) (sSet 4 (eCall g__law_row (aLend 0 (aVal (eVar 1) (aVal (eCall g__law_draw (aLend 0 (aVal (eK (.int 30)) aNil))) aNil))))) sNext) (sSeq (sIf (mB (eOp eqD (eVar 5) (eK (.int 2)))) (sSeq (sSet 2 (eCall g__law_row (aLend 0 (aVal (eVar 1) (aVal (eOp addD (eK (.int 1)) (eCall g__law_draw (aLend 0 (aVal (eK (.int 9)) aNil)))) aNil))))) (sSet 4 (eOp addD (eOp addD (eVar 3) (eOp mulD (eVar 2) (eOp fdivD (eOp subD (eK (.int 200)) (eOp mulD (eK (.int 2)) (eFn lenD (lCons (eVar 3) lNil)))) (eFn lenD (lCons (eVar 2) lNil))))) (eCall g__law_back (aVal (eVar 3) aNil))))) sNext) (sSeq (sSet 6 (eCall g__law_net (aVal (eVar 4) aNil))) (sSeq (sSet 7 (eCall g__law_asked (aVal (eVar 4) aNil))) (sFrz 7 (sSeq (sIf (mB (eOp eqD (eVar 6) (eK (.str [])))) (sRet (eOp eqD (eVar 7) (eK (.str [110, 111, 110, 101])))) sNext) (sSeq (sIf (mOr (mNot (mB (eFn isiD (lCons (eVar 7) (lCons (eK (.ty "tuple")) lNil))))) (mOr (mB (eOp neD (eVar 7) (eCall g__law_root (aVal (eVar 6) aNil)))) (mB (eFn isiD (lCons (eOp idxD (eVar 7) (eK (.int 1))) (lCons (eK (.ty "bool")) lNil)))))) (sRet (eK (.bl false))) sNext) (sRet (eBo (mAnd (mB (eOp eqD (eCall g_power (aVal (eOp idxD (eVar 7) (eK (.int 0))) (aVal (eOp idxD (eVar 7) (eK (.int 1))) aNil))) (eVar 6))) (mAnd (mB (eOp eqD (eCall g_net (aVal (eOp idxD (eVar 7) (eK (.int 0))) aNil)) (eOp idxD (eVar 7) (eK (.int 0))))) (mB (eOp eqD (eCall g_root (aVal (eOp idxD (eVar 7) (eK (.int 0))) aNil)) (eTup (lCons (eOp idxD (eVar 7) (eK (.int 0))) (lCons (eK (.int 1)) lNil)))))))))))))))))))))
def g__law_roots_right : List D → Fo := runF [0, 1] 2 6 b__law_roots_right
theorem D__law_roots_right {P : Program} {w : World} {K : PySem.W.Frag} {mg : Str → Option Value} {base : Heap} (G : Gs mg) (F : Fa K mg) : DefOk P w K mg base 7 2 "_law_roots_right" ["hand", "deeds"] g__law_roots_right :=
  have D__law_row : DefOk P w K mg base 2 3 "_law_row" ["hand", "deeds", "many"] g__law_row := D__law_row G F
  have D__law_draw : DefOk P w K mg base 1 2 "_law_draw" ["hand", "many"] g__law_draw := D__law_draw G F
  have D__law_back : DefOk P w K mg base 2 1 "_law_back" ["row"] g__law_back := D__law_back G F
  have D__law_net : DefOk P w K mg base 2 1 "_law_net" ["row"] g__law_net := D__law_net G F
  have D__law_asked : DefOk P w K mg base 5 1 "_law_asked" ["row"] g__law_asked := D__law_asked G F
  have D__law_root : DefOk P w K mg base 3 1 "_law_root" ["whole"] g__law_root := D__law_root G F
  have D_power : DefOk P w K mg base 6 2 "power" ["row", "times"] g_power := D_power G F
  have D_net : DefOk P w K mg base 4 1 "net" ["row"] g_net := D_net G F
  have D_root : DefOk P w K mg base 4 1 "root" ["row"] g_root := D_root G F
  def_okD F.f__law_roots_right sc__law_roots_right rfl rfl (fun _ _ _ _ _ _ us hl => match us, hl with | [_, _], _ => rfl) fun f cdv A outer s H E hr => (s_frz (i := 1) (s_cons (s_let 2 sc__law_roots_right.nd (d_callD D__law_row (hr.mono (by decide)) (takes_of rfl rfl rfl rfl) (a_lend 0 (a_val (d_var 1) (a_val (d_op od_add d_int (d_callD D__law_draw (hr.mono (by decide)) (takes_of rfl rfl rfl rfl) (a_lend 0 (a_val d_int a_nil)))) a_nil))))) (s_cons (s_let 3 sc__law_roots_right.nd (d_callD D__law_row (hr.mono (by decide)) (takes_of rfl rfl rfl rfl) (a_lend 0 (a_val (d_var 1) (a_val (d_callD D__law_draw (hr.mono (by decide)) (takes_of rfl rfl rfl rfl) (a_lend 0 (a_val d_int a_nil))) a_nil))))) (s_cons (s_let 4 sc__law_roots_right.nd (d_op od_add (d_op od_add (d_var 3) (d_op od_mul (d_var 2) (d_op od_add d_int (d_callD D__law_draw (hr.mono (by decide)) (takes_of rfl rfl rfl rfl) (a_lend 0 (a_val d_int a_nil)))))) (d_callD D__law_back (hr.mono (by decide)) (takes_of rfl rfl rfl rfl) (a_val (d_var 3) a_nil)))) (s_cons (s_let 5 sc__law_roots_right.nd (d_callD D__law_draw (hr.mono (by decide)) (takes_of rfl rfl rfl rfl) (a_lend 0 (a_val d_int a_nil)))) (s_cons (s_if (t_cmp od_lt (d_var 5) d_int) (s_one (s_let 4 sc__law_roots_right.nd (d_callD D__law_row (hr.mono (by decide)) (takes_of rfl rfl rfl rfl) (a_lend 0 (a_val (d_var 1) (a_val (d_callD D__law_draw (hr.mono (by decide)) (takes_of rfl rfl rfl rfl) (a_lend 0 (a_val d_int a_nil))) a_nil)))))) s_nil) (s_cons (s_if (t_cmp (od_eq (uz hr)) (d_var 5) d_int) (s_cons (s_let 2 sc__law_roots_right.nd (d_callD D__law_row (hr.mono (by decide)) (takes_of rfl rfl rfl rfl) (a_lend 0 (a_val (d_var 1) (a_val (d_op od_add d_int (d_callD D__law_draw (hr.mono (by decide)) (takes_of rfl rfl rfl rfl) (a_lend 0 (a_val d_int a_nil)))) a_nil))))) (s_one (s_let 4 sc__law_roots_right.nd (d_op od_add (d_op od_add (d_var 3) (d_op od_mul (d_var 2) (d_op od_fdiv (d_op od_sub d_int (d_op od_mul d_int (d_bi fd_len rfl G.b_len boot_len (l_consT (d_var 3) l_nil)))) (d_bi fd_len rfl G.b_len boot_len (l_consT (d_var 2) l_nil))))) (d_callD D__law_back (hr.mono (by decide)) (takes_of rfl rfl rfl rfl) (a_val (d_var 3) a_nil)))))) s_nil) (s_cons (s_let 6 sc__law_roots_right.nd (d_callD D__law_net (hr.mono (by decide)) (takes_of rfl rfl rfl rfl) (a_val (d_var 4) a_nil))) (s_cons (s_let 7 sc__law_roots_right.nd (d_callD D__law_asked (hr.mono (by decide)) (takes_of rfl rfl rfl rfl) (a_val (d_var 4) a_nil))) (s_frz (i := 7) (s_cons (s_if (t_cmp (od_eq (uz hr)) (d_var 6) d_str) (s_one (s_ret (d_cmp (od_eq (uz hr)) (d_var 7) d_str))) s_nil) (s_cons (s_if (PDW.pt (w_or (t_not (t_val (d_bi fd_isi rfl G.b_isinstance boot_isinstance (l_consT (d_var 7) (l_consT (d_ty rfl G.b_tuple boot_tuple) l_nil))))) (w_or (t_cmp (od_ne (uz hr)) (d_var 7) (d_callD D__law_root (hr.mono (by decide)) (takes_of rfl rfl rfl rfl) (a_val (d_var 6) a_nil))) (w_or1 (t_val (d_bi fd_isi rfl G.b_isinstance boot_isinstance (l_consT (d_ix (d_var 7) d_int) (l_consT (d_ty rfl G.b_bool boot_bool) l_nil)))))))) (s_one (s_ret d_bl)) s_nil) (s_one (s_ret (d_and (d_cmp (od_eq (uz hr)) (d_callD D_power (hr.mono (by decide)) (takes_of rfl rfl rfl rfl) (a_val (d_ix (d_var 7) d_int) (a_val (d_ix (d_var 7) d_int) a_nil))) (d_var 6)) (d_and (d_cmp (od_eq (uz hr)) (d_callD D_net (hr.mono (by decide)) (takes_of rfl rfl rfl rfl) (a_val (d_ix (d_var 7) d_int) a_nil)) (d_ix (d_var 7) d_int)) (d_one (d_cmp (od_eq (uz hr)) (d_callD D_root (hr.mono (by decide)) (takes_of rfl rfl rfl rfl) (a_val (d_ix (d_var 7) d_int) a_nil)) (d_tup (l_consT (d_ix (d_var 7) d_int) (l_consT d_int l_nil)))))))))))))))))))))
def b_row_key : MS := (sFrz 0 (sSeq (sSet 1 (eLc (gN 2) (iVal (eVar 0)) mYes (eOp addD (eOp mulD (eK (.int 2)) (eMt findM (eK (.str c_SMALL)) (lCons (eMt loM (eVar 2) lNil) lNil))) (eFn intD (lCons (eMt isupM (eVar 2) lNil) lNil))) [2])) (sFrz 1 (sRet (eTup (lCons (eFn lenD (lCons (eVar 0) lNil)) (lCons (eVar 1) lNil)))))))
def g_row_key : List D → Fo := runF [0] 1 2 b_row_key
theorem D_row_key {P : Program} {w : World} {K : PySem.W.Frag} {mg : Str → Option Value} {base : Heap} (G : Gs mg) (F : Fa K mg) : DefOk P w K mg base 1 1 "row_key" ["row"] g_row_key :=
  def_okD F.f_row_key sc_row_key rfl rfl (fun _ _ _ _ _ _ us hl => match us, hl with | [_], _ => rfl) fun f cdv A outer s H E hr => (s_frz (i := 0) (s_cons (s_setLc (i := 1) (kp := [0, 1]) rfl sc_row_key.nd (i_val (d_var 0)) (blkOk_by (N := N_row_key) (sc := defScope t_row_key) (own := [("letter", 2)]) (by decide +kernel)) rfl (hkp_of (N := N_row_key) [2] (by decide)) (fun _ _ _ _ _ => (g_name sc_row_key.nd)) (fun _ _ _ _ _ => ts_nil) (fun _ _ _ _ _ => PD.to (d_op od_add (d_op od_mul d_int (d_mt (pe_bm PySem.F.plainAttrs_str PySem.F.slot_str_find PySem.F.type_str_find md_find (d_gstr G.c_SMALL) (l_consT (d_mt0 PySem.F.plainAttrs_str PySem.F.slot_str_lower PySem.F.type_str_lower md_lo (d_var 2)) l_nil)))) (d_bt fd_int rfl G.b_int boot_int (l_consT (d_mt0 PySem.F.plainAttrs_str PySem.F.slot_str_isupper PySem.F.type_str_isupper md_isup (d_var 2)) l_nil))))) (s_frz (i := 1) (s_one (s_ret (d_tup (l_consT (d_bi fd_len rfl G.b_len boot_len (l_consT (d_var 0) l_nil)) (l_consT (d_var 1) l_nil))))))))
def b_earlier : MS := (sFrz 0 (sFrz 1 (sSeq (sEx (eCall g_check_any_row (aVal (eVar 0) aNil))) (sSeq (sEx (eCall g_check_any_row (aVal (eVar 1) aNil))) (sRet (eOp lt2D (eCall g_row_key (aVal (eVar 0) aNil)) (eCall g_row_key (aVal (eVar 1) aNil))))))))
def g_earlier : List D → Fo := runF [0, 1] 2 0 b_earlier
theorem D_earlier {P : Program} {w : World} {K : PySem.W.Frag} {mg : Str → Option Value} {base : Heap} (G : Gs mg) (F : Fa K mg) : DefOk P w K mg base 4 2 "earlier" ["row", "second"] g_earlier :=
  have D_check_any_row : DefOk P w K mg base 3 1 "check_any_row" ["thing"] g_check_any_row := D_check_any_row G F
  have D_row_key : DefOk P w K mg base 1 1 "row_key" ["row"] g_row_key := D_row_key G F
  def_okD F.f_earlier sc_earlier rfl rfl (fun _ _ _ _ _ _ us hl => match us, hl with | [_, _], _ => rfl) fun f cdv A outer s H E hr => (s_frz (i := 0) (s_frz (i := 1) (s_cons (s_expr (d_callD D_check_any_row (hr.mono (by decide)) (takes_of rfl rfl rfl rfl) (a_val (d_var 0) a_nil))) (s_cons (s_expr (d_callD D_check_any_row (hr.mono (by decide)) (takes_of rfl rfl rfl rfl) (a_val (d_var 1) a_nil))) (s_one (s_ret (d_cmp (od_lt2 (uz hr)) (d_callD D_row_key (hr.mono (by decide)) (takes_of rfl rfl rfl rfl) (a_val (d_var 0) a_nil)) (d_callD D_row_key (hr.mono (by decide)) (takes_of rfl rfl rfl rfl) (a_val (d_var 1) a_nil)))))))))
def b__law_is_earlier : MS := (sFrz 0 (sFrz 1 (sSeq (sIf (mB (eOp neD (eFn lenD (lCons (eVar 0) lNil)) (eFn lenD (lCons (eVar 1) lNil)))) (sRet (eOp ltD (eFn lenD (lCons (eVar 0) lNil)) (eFn lenD (lCons (eVar 1) lNil)))) sNext) (sSeq (sSet 2 (eK (.str [97, 65, 98, 66, 99, 67, 100, 68, 101, 69, 102, 70, 103, 71, 104, 72, 105, 73, 106, 74, 107, 75, 108, 76, 109, 77, 110, 78, 111, 79, 112, 80, 113, 81, 114, 82, 115, 83, 116, 84, 117, 85, 118, 86, 119, 87, 120, 88, 121, 89, 122, 90]))) (sSeq (sFor (gN 3) (iRg1 (eFn lenD (lCons (eVar 0) lNil))) (sIf (mB (eOp neD (eOp idxD (eVar 0) (eVar 3)) (eOp idxD (eVar 1) (eVar 3)))) (sRet (eOp ltD (eMt findM (eVar 2) (lCons (eOp idxD (eVar 0) (eVar 3)) lNil)) (eMt findM (eVar 2) (lCons (eOp idxD (eVar 1) (eVar 3)) lNil)))) sNext)) (sRet (eK (.bl false))))))))
def g__law_is_earlier : List D → Fo := runF [0, 1] 2 2 b__law_is_earlier
theorem D__law_is_earlier {P : Program} {w : World} {K : PySem.W.Frag} {mg : Str → Option Value} {base : Heap} (G : Gs mg) (F : Fa K mg) : DefOk P w K mg base 1 2 "_law_is_earlier" ["one", "other"] g__law_is_earlier :=
  def_okD F.f__law_is_earlier sc__law_is_earlier rfl rfl (fun _ _ _ _ _ _ us hl => match us, hl with | [_, _], _ => rfl) fun f cdv A outer s H E hr => (s_frz (i := 0) (s_frz (i := 1) (s_cons (s_if (t_cmp (od_ne (uz hr)) (d_bi fd_len rfl G.b_len boot_len (l_consT (d_var 0) l_nil)) (d_bi fd_len rfl G.b_len boot_len (l_consT (d_var 1) l_nil))) (s_one (s_ret (d_cmp od_lt (d_bi fd_len rfl G.b_len boot_len (l_consT (d_var 0) l_nil)) (d_bi fd_len rfl G.b_len boot_len (l_consT (d_var 1) l_nil))))) s_nil) (s_cons (s_let 2 sc__law_is_earlier.nd d_str) (s_cons (s_for (passes_of rfl) rfl (i_rg1 (d_bi fd_len rfl G.b_len boot_len (l_consT (d_var 0) l_nil)) G.b_range) (g_name sc__law_is_earlier.nd) (s_one (s_if (t_cmp (od_ne (uz hr)) (d_ix (d_var 0) (d_var 3)) (d_ix (d_var 1) (d_var 3))) (s_one (s_ret (d_cmp od_lt (d_mt (pe_bm PySem.F.plainAttrs_str PySem.F.slot_str_find PySem.F.type_str_find md_find (d_var 2) (l_consT (d_ix (d_var 0) (d_var 3)) l_nil))) (d_mt (pe_bm PySem.F.plainAttrs_str PySem.F.slot_str_find PySem.F.type_str_find md_find (d_var 2) (l_consT (d_ix (d_var 1) (d_var 3)) l_nil)))))) s_nil))) (s_one (s_ret d_bl)))))))
def b_law : MS := (sFrz 0 (sSeq (sSet 1 (eCall g__law_hand (aVal (eVar 0) aNil))) (sSeq (sSet 2 (eCall g__law_deeds (aLend 1 (aVal (eK (.int 3)) aNil)))) (sSeq (sFor (gN 3) (iRg1 (eK (.int 3))) (sIf (mNot (mB (eCall g__law_roots_right (aLend 1 (aVal (eVar 2) aNil))))) (sRet (eK (.bl false))) sNext)) (sSeq (sSet 4 (eCall g__law_row (aLend 1 (aVal (eVar 2) (aVal (eCall g__law_draw (aLend 1 (aVal (eK (.int 4)) aNil))) aNil))))) (sSeq (sSet 5 (eLc (gN 3) (iRg1 (eK (.int 6))) mYes (eOp addD (eVar 4) (eCall g__law_row (aLend 1 (aVal (eVar 2) (aVal (eCall g__law_draw (aLend 1 (aVal (eK (.int 3)) aNil))) aNil))))) [3])) (sFrz 5 (sSeq (sFor (gN 6) (iVal (eVar 5)) (sFor (gN 7) (iVal (eVar 5)) (sSeq (sSet 8 (eCall g_earlier (aVal (eVar 6) (aVal (eVar 7) aNil)))) (sIf (mOr (mNot (mB (eFn isiD (lCons (eVar 8) (lCons (eK (.ty "bool")) lNil))))) (mB (eOp neD (eVar 8) (eCall g__law_is_earlier (aVal (eVar 6) (aVal (eVar 7) aNil)))))) (sRet (eK (.bl false))) sNext)))) (sRet (eOp eqD (eCall g_root (aVal (eK (.str [97])) aNil)) (eTup (lCons (eK (.str [97])) (lCons (eK (.int 1)) lNil)))))))))))))
def g_law : List D → Fo := runF [0] 1 8 b_law
theorem L_law {P : Program} {w : World} {K : PySem.W.Frag} {mg : Str → Option Value} {base : Heap} {fa : Addr} {fd : FuncData} (G : Gs mg) (F : Fa K mg) (FL : Fun K "law" "law" t_law fa fd) : FnOk P w K mg base (L2.CX P w) 8 fa fd ["script"] (spD ⟨mg, K, none⟩ 1 g_law) :=
  have D__law_hand : DefOk P w K mg base 1 1 "_law_hand" ["script"] g__law_hand := D__law_hand G F
  have D__law_deeds : DefOk P w K mg base 2 2 "_law_deeds" ["hand", "most"] g__law_deeds := D__law_deeds G F
  have D__law_roots_right : DefOk P w K mg base 7 2 "_law_roots_right" ["hand", "deeds"] g__law_roots_right := D__law_roots_right G F
  have D__law_row : DefOk P w K mg base 2 3 "_law_row" ["hand", "deeds", "many"] g__law_row := D__law_row G F
  have D__law_draw : DefOk P w K mg base 1 2 "_law_draw" ["hand", "many"] g__law_draw := D__law_draw G F
  have D_earlier : DefOk P w K mg base 4 2 "earlier" ["row", "second"] g_earlier := D_earlier G F
  have D__law_is_earlier : DefOk P w K mg base 1 2 "_law_is_earlier" ["one", "other"] g__law_is_earlier := D__law_is_earlier G F
  have D_root : DefOk P w K mg base 4 1 "root" ["row"] g_root := D_root G F
  def_ok FL sc_law rfl rfl fun cdv A outer s H E hr => (s_frz (i := 0) (s_cons (s_let 1 sc_law.nd (d_callD D__law_hand (hr.mono (by decide)) (takes_of rfl rfl rfl rfl) (a_val (d_var 0) a_nil))) (s_cons (s_let 2 sc_law.nd (d_callD D__law_deeds (hr.mono (by decide)) (takes_of rfl rfl rfl rfl) (a_lend 1 (a_val d_int a_nil)))) (s_cons (s_for (passes_of rfl) rfl (i_rg1 d_int G.b_range) (g_name sc_law.nd) (s_one (s_if (t_not (t_val (d_callD D__law_roots_right (hr.mono (by decide)) (takes_of rfl rfl rfl rfl) (a_lend 1 (a_val (d_var 2) a_nil))))) (s_one (s_ret d_bl)) s_nil))) (s_cons (s_let 4 sc_law.nd (d_callD D__law_row (hr.mono (by decide)) (takes_of rfl rfl rfl rfl) (a_lend 1 (a_val (d_var 2) (a_val (d_callD D__law_draw (hr.mono (by decide)) (takes_of rfl rfl rfl rfl) (a_lend 1 (a_val d_int a_nil))) a_nil))))) (s_cons (s_setLc (i := 5) (kp := [0, 1, 2, 4, 5, 6, 7, 8]) rfl sc_law.nd (i_rg1 d_int G.b_range) (blkOk_by (N := N_law) (sc := defScope t_law) (own := [("turn", 3)]) (by decide +kernel)) rfl (hkp_of (N := N_law) [3] (by decide)) (fun _ _ _ _ _ => (g_name sc_law.nd)) (fun _ _ _ _ _ => ts_nil) (fun _ _ _ _ _ => PD.to (d_op od_add (d_var 4) (d_callD D__law_row (hr.mono (by decide)) takes0 (a_lend 1 (a_val (d_var 2) (a_val (d_callD D__law_draw (hr.mono (by decide)) takes0 (a_lend 1 (a_val d_int a_nil))) a_nil))))))) (s_frz (i := 5) (s_cons (s_for (passes_of rfl) rfl (i_val (d_var 5)) (g_name sc_law.nd) (s_one (s_for (passes_of rfl) rfl (i_val (d_var 5)) (g_name sc_law.nd) (s_cons (s_let 8 sc_law.nd (d_callD D_earlier (hr.mono (by decide)) (takes_of rfl rfl rfl rfl) (a_val (d_var 6) (a_val (d_var 7) a_nil)))) (s_one (s_if (PDW.pt (w_or (t_not (t_val (d_bi fd_isi rfl G.b_isinstance boot_isinstance (l_consT (d_var 8) (l_consT (d_ty rfl G.b_bool boot_bool) l_nil))))) (w_or1 (t_cmp (od_ne (uz hr)) (d_var 8) (d_callD D__law_is_earlier (hr.mono (by decide)) (takes_of rfl rfl rfl rfl) (a_val (d_var 6) (a_val (d_var 7) a_nil))))))) (s_one (s_ret d_bl)) s_nil)))))) (s_one (s_ret (d_cmp (od_eq (uz hr)) (d_callD D_root (hr.mono (by decide)) (takes_of rfl rfl rfl rfl) (a_val d_str a_nil)) (d_tup (l_consT d_str (l_consT d_int l_nil))))))))))))))
end K02
namespace K02
open PySem PySem.Spec PyProof.Rows L2 Eng
abbrev hd (o : Bool) (cells : List D) (a r s t : Int) : D := .lst true [.lst o cells, .int a, .int r, .int s, .int t]
structure OkH (cells : List D) (a r s t n : Int) : Prop where
  c : ∀ x ∈ cells, ∃ i : Int, x = .int i ∧ 0 ≤ i
  a : 0 ≤ a
  r : 0 ≤ r
  s : 0 ≤ s ∧ s < 2147483648
  t : 0 ≤ t ∧ t + n ≤ 1152921504606846976
theorem draw_ok {o : Bool} {cells : List D} {a r s t many n : Int} {E Q} (h : OkH cells a r s t n) (hn : 1 ≤ n) (hm : 1 ≤ many) (hM : many ≤ 1099511627776)
    (q : ∀ c a' r' s' t', 0 ≤ c → c < many → OkH cells a' r' s' t' (n - 1) → Q (.int c) [some (hd o cells a' r' s' t'), some (.int many)]) : WF (g__law_draw [hd o cells a r s t, .int many]) E Q := by
  obtain ⟨hc, ha, hr, hs, ht⟩ := h
  have get : a < cells.length → ∃ i, atI cells a = some (.int i) ∧ 0 ≤ i := fun h => by
    obtain ⟨k, rfl⟩ := Int.eq_ofNat_of_zero_le ha
    have hk : k < cells.length := by omega
    obtain ⟨i, e, hi⟩ := hc cells[k] (List.getElem_mem hk)
    exact ⟨i, atI_nat' (by rw [List.getElem?_eq_getElem hk, e]), hi⟩
  have md : ∀ x : Int, 0 ≤ x % many ∧ x % many < many := fun x => ⟨Int.emod_nonneg _ (by omega), Int.emod_lt_of_pos _ (by omega)⟩
  have dv : ∀ x : Int, 0 ≤ x → 0 ≤ x / many := fun x hx => Int.ediv_nonneg hx (by omega)
  refine wf_run rfl rfl ?_
  show WS b__law_draw [some _, some _, none, none, none] _
  unfold b__law_draw
  (refine w_frz0 ?_ freeze_frz)
  (repeat' walk_at "EV1")
  · obtain ⟨i, hi, hi0⟩ := get (by assumption)
    (repeat' walk_at "EV1")
    all_goals exact q _ _ _ _ _ (md _).1 (md _).2 ⟨hc, by omega, by first | omega | exact dv _ (by omega), by omega, by omega⟩
  all_goals exact q _ _ _ _ _ (md _).1 (md _).2 ⟨hc, by omega, by first | omega | exact dv _ (by omega), by omega, by omega⟩
theorem OkH.mono {cells : List D} {a r s t n m : Int} (h : OkH cells a r s t n) (hm : m ≤ n) : OkH cells a r s t m := ⟨h.c, h.a, h.r, h.s, by have := h.t; omega⟩
end K02
namespace K02
open PySem PySem.Spec PyProof.Rows L2 Eng Words
def isLet (c : Nat) : Prop := (65 ≤ c ∧ c ≤ 90) ∨ (97 ≤ c ∧ c ≤ 122)
def Let (s : List Nat) : Prop := ∀ c ∈ s, isLet c
abbrev ch (c : Nat) : D := .str [c]
theorem let_ascii {s : List Nat} (h : Let s) : s.all (· < 128) = true := List.all_eq_true.mpr fun c hc => by
  have := h c hc
  unfold isLet at this
  exact decide_eq_true (by omega)
theorem let_sw {c : Nat} (h : isLet c) : isLet (sw1 c) := by
  unfold isLet sw1 at *
  repeat' split
  all_goals omega
theorem let_back {s : List Nat} (h : Let s) : Let (back s) := fun c hc => by
  unfold back at hc
  obtain ⟨d, hd, rfl⟩ := List.mem_map.mp hc
  exact let_sw (h d (List.mem_reverse.mp hd))
theorem let_one {c : Nat} (h : isLet c) : Let [c] := fun d hd => by
  rw [List.mem_singleton.mp hd]; exact h
theorem let_app {s t : List Nat} (h : Let s) (k : Let t) : Let (s ++ t) := fun c hc => (List.mem_append.mp hc).elim (h c) (k c)
theorem let_act {c : Nat} {s : List Nat} (h : isLet c) (k : Let s) : Let (act c s) := by
  cases s with
  | nil => exact let_one h
  | cons d r =>
    by_cases e : d = sw1 c
    · rw [act, if_pos e]; exact fun x hx => k x (by simp [hx])
    · rw [act, if_neg e]; exact fun x hx => (List.mem_cons.mp hx).elim (fun e => e ▸ h) (k x)
theorem let_F : ∀ {w s : List Nat}, Let w → Let s → Let (F w s)
  | [], _, _, k => k
  | c :: w, _, h, k => let_F (w := w) (fun x hx => h x (by simp [hx])) (let_act (h c (by simp)) k)
theorem let_nil : Let [] := fun _ h => absurd h (by simp)
theorem let_nf {w : List Nat} (h : Let w) : Let (nf w) := fun c hc => let_F h let_nil c (List.mem_reverse.mp hc)
theorem act_len (c : Nat) (s : List Nat) : (act c s).length ≤ s.length + 1 := by
  cases s with
  | nil => simp [act]
  | cons d r =>
    by_cases e : d = sw1 c
    · rw [act, if_pos e]; simp; omega
    · rw [act, if_neg e]; simp
theorem F_len : ∀ w s : List Nat, (F w s).length ≤ w.length + s.length
  | [], s => by simp [F]
  | c :: w, s => by
    rw [F_cons]
    have := F_len w (act c s)
    have := act_len c s
    simp only [List.length_cons]
    omega
theorem nf_len (w : List Nat) : (nf w).length ≤ w.length := by
  have := F_len w []
  simpa [nf] using this
/-! small defs -/
theorem undoing_law {c : Nat} (h : isLet c) : g__law_undoing [.str [c]] = .ok (.str [sw1 c]) [some (.str [c])] := by
  refine wf_ok ?_
  have ha := let_ascii (let_one h)
  have hl : [c].length ≤ 5592405 := by simp
  refine wf_run (ρ := [some (.str [c])]) rfl rfl ?_
  unfold b__law_undoing
  (repeat' walk_at "EV1")
  refine bif_b (fun hb => ?_) (fun hb => ?_)
  all_goals (repeat' walk_at "EV1")
  · refine ⟨?_, rfl⟩
    unfold isLet at h
    simp [isLowS, isLo, isUp] at hb
    simp only [List.map_cons, List.map_nil, up1, sw1, D.str.injEq, List.cons.injEq, and_true]
    repeat' split
    all_goals omega
  · refine ⟨?_, rfl⟩
    unfold isLet at h
    simp [isLowS, isLo, isUp] at hb
    simp only [List.map_cons, List.map_nil, lo1, sw1, D.str.injEq, List.cons.injEq, and_true]
    repeat' split
    all_goals omega
theorem undoing_pk {c : Nat} (h : isLet c) : g_undoing_of [.str [c]] = .ok (.str [sw1 c]) [some (.str [c])] := by
  refine wf_ok ?_
  have ha := let_ascii (let_one h)
  have hl : [c].length ≤ 5592405 := by simp
  refine wf_run (ρ := [some (.str [c])]) rfl rfl ?_
  unfold b_undoing_of
  (repeat' walk_at "EV1")
  first | exact ⟨rfl, rfl⟩ | rfl
theorem turned_pk {s : List Nat} (h : Let s) (hl : s.length ≤ 1000000) : g_turned_about [.str s] = .ok (.str (back s)) [some (.str s)] := by
  refine wf_ok ?_
  have ha := let_ascii (s := s.reverse) fun c hc => h c (List.mem_reverse.mp hc)
  have hl2 : s.reverse.length ≤ 5592405 := by rw [List.length_reverse]; omega
  refine wf_run (ρ := [some (.str s)]) rfl rfl ?_
  unfold b_turned_about
  (repeat' walk_at "EV1")
  first | exact ⟨rfl, rfl⟩ | rfl
end K02
namespace K02
open PySem PySem.Spec PyProof.Rows L2 Eng Words
/-! the net -/
def bnet (G : List D → Fo) : MS := (sFrz 0 (sSeq (sSet 1 (eLst lNil)) (sSeq (sFor (gN 2) (iVal (eVar 0)) (sIf (mAnd (mB (eOp gtD (eFn lenD (lCons (ePk 1) lNil)) (eK (.int 0)))) (mB (eOp eqD (eFz (eOp idxD (ePk 1) (eUn negD (eK (.int 1))))) (eCall G (aVal (eVar 2) aNil))))) (sEx (ePop 1)) (sEx (eApp 1 (eVar 2))))) (sRet (eMt joinM (eK (.str [])) (lCons (ePk 1) lNil))))))
theorem bnet_law : b__law_net = bnet g__law_undoing := rfl
theorem bnet_pk : b_net_letters = bnet g_undoing_of := rfl
theorem strs_ch : ∀ s : List Nat, strsOf (s.map ch) = some (s.map fun c => [c])
  | [] => rfl
  | c :: s => by
    show (strsOf (s.map ch)).map ([c] :: ·) = _
    rw [strs_ch s]; rfl
theorem join_one : ∀ ys : List (List Nat), joinL [] ys = ys.flatten
  | [] => rfl
  | y :: ys => by
    show y ++ (ys.map fun y => [] ++ y).flatten = _
    simp
theorem flat_one : ∀ s : List Nat, (s.map fun c => [c]).flatten = s
  | [] => rfl
  | c :: s => by simp [flat_one s]
theorem sum_one : ∀ s : List Nat, ((s.map fun c => [c]).map List.length).sum = s.length
  | [] => rfl
  | c :: s => by
    rw [List.map_cons, List.map_cons, List.sum_cons, sum_one s]
    simp; omega
theorem join_ch {s : List Nat} {o : Bool} (h : s.length ≤ 1000000) : joinM [] [.lst o (s.map ch)] = some (.str s) := by
  show (match strsOf (s.map ch) with
    | some ys => if (ys.map List.length).sum + ys.length * ([] : List Nat).length ≤ 16777216 then some (D.str (joinL [] ys)) else none
    | none => none) = _
  rw [strs_ch]
  dsimp only
  rw [sum_one, if_pos (by simp; omega), join_one, flat_one]
theorem net_run {G : List D → Fo} (hG : ∀ {c}, isLet c → G [.str [c]] = .ok (.str [sw1 c]) [some (.str [c])]) {s : List Nat} (h : Let s) (hl : s.length ≤ 1000000) : runF [0] 1 2 (bnet G) [.str s] = .ok (.str (nf s)) [some (.str s)] := by
  refine wf_ok ?_
  refine wf_run (ρ := [some (.str s), none, none]) rfl rfl ?_
  unfold bnet
  (repeat' walk_at "EV1")
  refine for_inv (fun xs ρ => ∃ rest st o, xs = rest.map ch ∧ ρ = [some (.str s), some (.lst true (st.reverse.map ch)), o] ∧ F rest st = F s [] ∧ Let rest ∧ Let st ∧ st.length + rest.length ≤ s.length) ?_ ?_ _ _ ?_
  · rintro x xs ρ ⟨rest, st, o, hx, rfl, hF, hr, hs, hle⟩
    cases rest with
    | nil => cases hx
    | cons c rest =>
    cases hx
    have hc := hr c (by simp)
    have hr' : Let rest := fun x hx => hr x (by simp [hx])
    simp only [List.length_cons] at hle
    cases st with
    | nil =>
      (repeat' (first | with_reducible refine wf_of (hG hc) ?_ | walk_at "EV1"))
      all_goals first
        | (exfalso; simp at *; done)
        | skip
      exact ⟨rest, [c], _, rfl, rfl, hF, hr', let_one hc, by simp; omega⟩
    | cons d r =>
      have e : (d :: r).reverse.map ch = r.reverse.map ch ++ [ch d] := by simp
      have ea : atI (r.reverse.map ch ++ [ch d]) (-1) = some (ch d) := atI_last _ _
      have hs' : Let r := fun x hx => hs x (by simp [hx])
      simp only [List.length_cons] at hle
      rw [e]
      have hlen : (r.reverse.map ch ++ [ch d]).length = r.length + 1 := by simp
      have hy : (r.reverse.map ch ++ [ch d])[(r.reverse.map ch ++ [ch d]).length - 1]? = some (ch d) := by rw [hlen, Nat.add_sub_cancel, List.getElem?_append_right (by simp)]; simp
      (repeat' (first | with_reducible refine wf_of (hG hc) ?_ | (refine ⟨_, hy, ?_⟩) | walk_at "EV1"))
      · rename_i q
        refine ⟨rest, r, _, rfl, by rw [List.dropLast_concat], ?_, hr', hs', by omega⟩
        rw [← hF, F_cons, act, if_pos (by simpa using q)]
      · rename_i q
        refine ⟨rest, c :: d :: r, some (ch c), rfl, by simp, ?_, hr', ?_, by simp only [List.length_cons]; omega⟩
        · rw [← hF, F_cons c rest, act, if_neg (by simpa using q)]
        · exact fun x hx => (List.mem_cons.mp hx).elim (fun e => e ▸ hc) (hs x)
      · rename_i q
        exact absurd (show ((r.reverse.map ch ++ [ch d]).length : Int) > 0 by rw [hlen]; omega) q
  · rintro ρ ⟨rest, st, o, hx, rfl, hF, _, _, hle⟩
    cases rest with
    | cons c rest => cases hx
    | nil =>
      have hj : joinM [] [.lst true (st.reverse.map ch)] = some (.str st.reverse) := join_ch (by simp at hle ⊢; omega)
      (repeat' walk_at "EV1")
      have hF : st = F s [] := hF
      subst hF
      first | exact ⟨rfl, rfl⟩ | rfl
  · have e : freezes [] = [] := rfl
    exact ⟨s, [], _, rfl, rfl, rfl, h, let_nil, by simp⟩
theorem net_law {s : List Nat} (h : Let s) (hl : s.length ≤ 1000000) : g__law_net [.str s] = .ok (.str (nf s)) [some (.str s)] := net_run undoing_law h hl
theorem net_pk {s : List Nat} (h : Let s) (hl : s.length ≤ 1000000) : g_net_letters [.str s] = .ok (.str (nf s)) [some (.str s)] := net_run undoing_pk h hl
/-! the undoing of a row -/
theorem back_law {s : List Nat} (h : Let s) (hl : s.length ≤ 1000000) : g__law_back [.str s] = .ok (.str (back s)) [some (.str s)] := by
  refine wf_ok ?_
  refine wf_run (ρ := [some (.str s), none]) rfl rfl ?_
  unfold b__law_back
  have hl2 : s.length ≤ 16777216 := by omega
  (repeat' walk_at "EV1")
  refine lc_inv (fun xs acc ρ => ∃ rest pre, xs = rest.map ch ∧ acc = (pre.map sw1).map ch ∧ ρ = [some (.str s), none] ∧ pre ++ rest = s.reverse) ?_ ?_ _ _ _ ?_
  · rintro x xs acc ρ ⟨rest, pre, hx, rfl, rfl, hp⟩
    cases rest with
    | nil => cases hx
    | cons c rest =>
    cases hx
    have hc : isLet c := h c (List.mem_reverse.mp (by rw [← hp]; simp))
    have hlen : ((pre.map sw1).map ch).length < 16777216 := by
      have := congrArg List.length hp
      simp at this ⊢
      omega
    (repeat' (first | with_reducible refine wf_of (undoing_law hc) ?_ | walk_at "EV1"))
    refine ⟨rest, pre ++ [c], rfl, by simp, rfl, by rw [← hp]; simp⟩
  · rintro acc ρ ⟨rest, pre, hx, rfl, rfl, hp⟩
    cases rest with
    | cons c rest => cases hx
    | nil =>
      have hp : pre = s.reverse := by simpa using hp
      subst hp
      have hj : joinM [] [.lst true ((s.reverse.map sw1).map ch)] = some (.str (back s)) := join_ch (by simpa using hl)
      (repeat' walk_at "EV1")
      first | exact ⟨rfl, rfl⟩ | rfl
  · exact ⟨s.reverse, [], rfl, rfl, rfl, rfl⟩
/-! rows -/
theorem let_in {c : Nat} (h : isLet c) : c ∈ c_LETTERS := by
  unfold isLet at h
  have : c < 128 := by omega
  have k : ∀ c, c < 128 → ((65 ≤ c ∧ c ≤ 90) ∨ (97 ≤ c ∧ c ≤ 122)) → c ∈ c_LETTERS := by decide +kernel
  exact k c this h
theorem sof {s : List Nat} (h : Let s) : g_is_string_of [.str s, .str c_LETTERS] = .ok (.bl true) [some (.str s), some (.str c_LETTERS)] := by
  refine wf_ok ?_
  refine wf_run (ρ := [some (.str s), some (.str c_LETTERS), none]) rfl rfl ?_
  unfold b_is_string_of
  have hi : isiD [.str s, .ty "str"] = some (.bl true) := rfl
  (repeat' walk_at "EV1")
  refine for_inv (fun xs ρ => ∃ rest o, xs = rest.map ch ∧ ρ = [some (.str s), some (.str c_LETTERS), o] ∧ Let rest) ?_ ?_ _ _ ?_
  · rintro x xs ρ ⟨rest, o, hx, rfl, hr⟩
    cases rest with
    | nil => cases hx
    | cons c rest =>
    cases hx
    have hn : ninD (ch c) (.str c_LETTERS) = some (.bl false) := by
      show some (D.bl !(decide (c ∈ c_LETTERS))) = _
      rw [decide_eq_true (let_in (hr c (by simp)))]; rfl
    (repeat' walk_at "EV1")
    first | exact ⟨rest, _, rfl, rfl, fun x hx => hr x (by simp [hx])⟩ | exact fun x hx => hr x (by simp [hx])
  · rintro ρ ⟨rest, o, hx, rfl, hr⟩
    (repeat' walk_at "EV1")
    first | exact ⟨rfl, rfl⟩ | rfl
  · exact ⟨s, _, rfl, rfl, h⟩
theorem isrow {s : List Nat} (h : Let s) : g_is_row [.str s] = .ok (.bl true) [some (.str s)] := by
  refine wf_ok ?_
  refine wf_run (ρ := [some (.str s)]) rfl rfl ?_
  unfold b_is_row
  (repeat' (first | with_reducible refine wf_of (sof h) ?_ | walk_at "EV1"))
  first | exact ⟨rfl, rfl⟩ | rfl
theorem check {s : List Nat} (h : Let s) : g_check_any_row [.str s] = .ok .non [some (.str s)] := by
  refine wf_ok ?_
  refine wf_run (ρ := [some (.str s)]) rfl rfl ?_
  unfold b_check_any_row
  (repeat' (first | with_reducible refine wf_of (isrow h) ?_ | walk_at "EV1"))
  first | exact ⟨rfl, rfl⟩ | rfl
theorem net_ok {s : List Nat} (h : Let s) (hl : s.length ≤ 1000000) : g_net [.str s] = .ok (.str (nf s)) [some (.str s)] := by
  refine wf_ok ?_
  refine wf_run (ρ := [some (.str s)]) rfl rfl ?_
  unfold b_net
  (repeat' (first | with_reducible refine wf_of (check h) ?_ | with_reducible refine wf_of (net_pk h hl) ?_ | walk_at "EV1"))
  first | exact ⟨rfl, rfl⟩ | rfl
end K02
namespace K02
open PySem PySem.Spec PyProof.Rows L2 Eng Words
theorem isint {t : Int} : g_is_integer [.int t] = .ok (.bl true) [some (.int t)] := by
  refine wf_ok ?_
  refine wf_run (ρ := [some (.int t)]) rfl rfl ?_
  unfold b_is_integer
  have h1 : isiD [.int t, .ty "int"] = some (.bl true) := by
    show (kitB "int" "int").map D.bl = _
    rw [show kitB "int" "int" = some true by decide +kernel]; rfl
  have h2 : isiD [.int t, .ty "bool"] = some (.bl false) := by
    show (kitB "int" "bool").map D.bl = _
    rw [show kitB "int" "bool" = some false by decide +kernel]; rfl
  (repeat' walk_at "EV1")
  first | exact ⟨rfl, rfl⟩ | rfl
theorem ch_ok {t a b : Int} {i j k : Nat} {ρ : Rho} {E : Exc → Rho → Prop} {Q : D → Rho → Prop} (h1 : ρ[i]? = some (some (.int a))) (h2 : ρ[j]? = some (some (.int t))) (h3 : ρ[k]? = some (some (.int b))) (ha : a ≤ t) (hb : t ≤ b) (q : Q (.bl true) ρ) : W (eCh leD leD (eVar i) (eVar j) (eVar k)) ρ E Q := by
  refine w_bind (w_var ⟨_, h1, rfl, ?_⟩)
  refine w_bind (w_var ⟨_, h2, rfl, ?_⟩)
  refine w_bind (w_opt ⟨.bl true, by show some (D.bl (decide (a ≤ t))) = _; rw [decide_eq_true ha], ?_⟩)
  refine w_bind (w_var ⟨_, h3, rfl, ?_⟩)
  exact w_opt ⟨.bl true, by show some (D.bl (decide (t ≤ b))) = _; rw [decide_eq_true hb], q⟩
theorem iswithin {t a b : Int} (ha : a ≤ t) (hb : t ≤ b) : g_is_within [.int t, .int a, .int b] = .ok (.bl true) [some (.int t), some (.int a), some (.int b)] := by
  refine wf_ok ?_
  refine wf_run (ρ := [some (.int t), some (.int a), some (.int b)]) rfl rfl ?_
  unfold b_is_within
  (repeat' (first | with_reducible refine wf_of (isint) ?_ | (refine ch_ok rfl rfl rfl ha hb ?_) | walk_at "EV1"))
  first | exact ⟨rfl, rfl⟩ | rfl
end K02
namespace K02
open PySem PySem.Spec PyProof.Rows L2 Eng Words
/-! the ends of a net that undo one another -/
def Ends (s : List Nat) (k : Nat) : Prop := 2 * k ≤ s.length ∧ ∀ i, i < k → ∀ c d, s[i]? = some c → s[s.length - 1 - i]? = some d → c = sw1 d
theorem atI_neg {s : List Nat} {k : Nat} {d : Nat} (h : s[s.length - 1 - k]? = some d) (hk : k < s.length) : atI s (-1 - (k : Int)) = some d := by
  unfold atI ixN
  rw [if_neg (by omega), if_pos (by omega)]
  show s[(-1 - (k : Int) + s.length).toNat]? = some d
  rw [show (-1 - (k : Int) + s.length).toNat = s.length - 1 - k by omega]
  exact h
theorem bent_ok {s : List Nat} (hL : Let s) (hl : s.length ≤ 1000000) : ∃ k : Nat, g_bent [.str s] = .ok (.int k) [some (.str s)] ∧ Ends s k ∧ ∀ c d, 2 * k + 1 < s.length → s[k]? = some c → s[s.length - 1 - k]? = some d → c ≠ sw1 d := by
  suffices H : WF (g_bent [.str s]) (fun _ _ => False) (fun d' ps => ∃ k : Nat, d' = .int k ∧ ps = [some (.str s)] ∧ Ends s k ∧ ∀ c d, 2 * k + 1 < s.length → s[k]? = some c → s[s.length - 1 - k]? = some d → c ≠ sw1 d) by
    unfold WF at H
    split at H
    · obtain ⟨k, rfl, rfl, a, b⟩ := H
      exact ⟨k, by assumption, a, b⟩
    · exact H.elim
    · exact H.elim
  refine wf_run (ρ := [some (.str s), none]) rfl rfl ?_
  unfold b_bent
  have hl2 : s.length ≤ 16777216 := by omega
  (repeat' walk_at "EV1")
  refine while_inv (k := fuel) (fun j ρ => ∃ k : Nat, ρ = [some (.str s), some (.int k)] ∧ j + k = s.length ∧ Ends s k) ?_ s.length _ (by unfold fuel; omega) ⟨0, rfl, by omega, by omega, fun i hi => by omega⟩
  rintro j ρ ⟨k, rfl, hj, hE⟩
  have g1 : (2 * k + 1 < s.length) → ∃ c d, s[k]? = some c ∧ s[s.length - 1 - k]? = some d := fun hh => ⟨_, _, List.getElem?_eq_getElem (by omega), List.getElem?_eq_getElem (by omega)⟩
  (repeat' walk_at "EV1")
  · obtain ⟨c, d, hc, hd⟩ := g1 (by omega)
    have e1 : atI s (k : Int) = some c := atI_nat' hc
    have e2 : atI s (-1 - (k : Int)) = some d := atI_neg hd (by omega)
    have ld : isLet d := hL d (List.mem_of_getElem? hd)
    (repeat' (first | with_reducible refine wf_of (undoing_pk ld) ?_ | walk_at "EV1"))
    · have q : [c] = [sw1 d] := by assumption
      refine ⟨j - 1, by omega, k + 1, rfl, by omega, by omega, fun i hi c' d' h1 h2 => ?_⟩
      by_cases e : i = k
      · subst e
        rw [hc] at h1; rw [hd] at h2
        cases h1; cases h2
        simpa using q
      · exact hE.2 i (by omega) c' d' h1 h2
    · have q : ¬[c] = [sw1 d] := by assumption
      have hF : ∀ c d, 2 * k + 1 < s.length → s[k]? = some c → s[s.length - 1 - k]? = some d → c ≠ sw1 d := fun c' d' _ h1 h2 => by
        rw [hc] at h1; rw [hd] at h2
        cases h1; cases h2
        simpa using q
      first | exact ⟨hE, hF⟩ | exact hF
  · have q : ¬2 * (k : Int) + 1 < s.length := by assumption
    have hF : ∀ c d, 2 * k + 1 < s.length → s[k]? = some c → s[s.length - 1 - k]? = some d → c ≠ sw1 d := fun c' d' hh => absurd hh (by omega)
    first | exact ⟨hE, hF⟩ | exact hF
/-- what the ends are -/
theorem take_back {s : List Nat} {k : Nat} (h : Ends s k) : s.drop (s.length - k) = back (s.take k) := by
  obtain ⟨h1, h2⟩ := h
  apply List.ext_getElem
  · rw [back_len, List.length_drop, List.length_take]; omega
  · intro i hi hj
    rw [List.length_drop] at hi
    simp only [back, List.getElem_map, List.getElem_reverse, List.getElem_take, List.length_take, List.getElem_drop]
    have e1 : min k s.length = k := by omega
    have e := h2 (k - 1 - i) (by omega) _ _ (List.getElem?_eq_getElem (show k - 1 - i < s.length by omega)) (List.getElem?_eq_getElem (show s.length - 1 - (k - 1 - i) < s.length by omega))
    have e2 : s.length - k + i = s.length - 1 - (k - 1 - i) := by omega
    simp only [e1, e2]
    rw [e, sw_sw]
theorem split3 {s : List Nat} {k : Nat} (h : Ends s k) : s = s.take k ++ (s.drop k).take (s.length - k - k) ++ back (s.take k) := by
  rw [← take_back h]
  have e : s.drop (s.length - k) = (s.drop k).drop (s.length - k - k) := by rw [List.drop_drop]; congr 1; have := h.1; omega
  rw [e, List.append_assoc, List.take_append_drop, List.take_append_drop]
theorem mid_ne {s : List Nat} {k : Nat} (h : Ends s k) (hr : Red s) (hs : s ≠ []) : 2 * k < s.length := by
  obtain ⟨h1, h2⟩ := h
  have h0 : 0 < s.length := List.length_pos_iff.mpr hs
  rcases Nat.lt_or_ge (2 * k) s.length with h3 | h3
  · exact h3
  · exfalso
    obtain ⟨j, rfl⟩ : ∃ j, k = j + 1 := ⟨k - 1, by omega⟩
    have e := h2 j (by omega) s[j] s[j + 1] (List.getElem?_eq_getElem (by omega)) (by rw [show s.length - 1 - j = j + 1 by omega]; exact List.getElem?_eq_getElem (by omega))
    have hd : s.drop j = s[j] :: s[j + 1] :: s.drop (j + 2) := by
      rw [List.drop_eq_getElem_cons (by omega), List.drop_eq_getElem_cons (show j + 1 < s.length by omega)]
    have hr2 : Red (s.take j ++ s.drop j) := by rw [List.take_append_drop]; exact hr
    have hr3 := (red_split hr2).2.1
    rw [hd] at hr3
    exact hr3.1 (by rw [e, sw_sw])
theorem sw_ne {c : Nat} (h : isLet c) : c ≠ sw1 c := by
  unfold isLet sw1 at *
  repeat' split
  all_goals omega
theorem power_word {s : List Nat} {k n : Nat} (hr : Red s) (hl : Let s) (hs : s ≠ []) (h : Ends s k) (hx : ∀ c d, 2 * k + 1 < s.length → s[k]? = some c → s[s.length - 1 - k]? = some d → c ≠ sw1 d) :
    s.take k ++ (List.replicate (n + 1) ((s.drop k).take (s.length - k - k))).flatten ++ s.drop (s.length - k) = Pw s ((n + 1 : Nat) : Int) := by
  have hm := mid_ne h hr hs
  have hml : ((s.drop k).take (s.length - k - k)).length = s.length - k - k := by rw [List.length_take, List.length_drop]; omega
  rw [take_back h]
  refine conj_pow (by rw [nf_of_red hr]; exact split3 h) (fun e => by rw [e, List.length_nil] at hml; omega) (fun a b ha hb => ?_) n
  have hb' : s[k]? = some b := by
    rw [List.head?_eq_getElem?, List.getElem?_take_of_lt (by omega), List.getElem?_drop] at hb
    simpa using hb
  have ha' : s[s.length - 1 - k]? = some a := by
    rw [List.getLast?_eq_getElem?, hml, List.getElem?_take_of_lt (by omega), List.getElem?_drop] at ha
    rw [← ha]; congr 1; omega
  rcases Nat.lt_or_ge (2 * k + 1) s.length with h3 | h3
  · exact hx b a h3 hb' ha'
  · rw [show s.length - 1 - k = k by omega, hb'] at ha'
    have e : b = a := Option.some.inj ha'
    subst e
    exact sw_ne (hl _ (List.mem_of_getElem? hb'))
theorem Z_nil_s {t : Int} : Pw [] t = [] := by
  have h : ∀ n, It (F []) n [] = [] := fun n => by
    induction n with
    | zero => rfl
    | succ n ih => show F [] (It (F []) n []) = []; rw [ih]; rfl
  have hb : back [] = [] := rfl
  unfold Pw Z
  rw [hb, h, h]
  split <;> rfl
theorem pl_pos {s : List Nat} {t : Int} {n : Nat} (hr : Red s) (hL : Let s) (hl : s.length ≤ 1000) (h0 : 0 ≤ t) (h1 : t ≤ 1000) : r_power_letters (n + 1) [.str s, .int t] = .ok (.str (Pw s t)) [some (.str s), some (.int t)] := by
  refine wf_ok ?_
  obtain ⟨k, hb, hE, hX⟩ := bent_ok hL (show s.length ≤ 1000000 by omega)
  have hk := hE.1
  have hl2 : s.length ≤ 16777216 := by omega
  have hnn : ((s.length : Int) - (k : Int)) = ((s.length - k : Nat) : Int) := by omega
  have hme : ((s.drop k).take (s.length - k - k)).length * t.toNat ≤ 16777216 := by
    rw [List.length_take, List.length_drop]
    refine Nat.le_trans (Nat.mul_le_mul (show _ ≤ 1000 by omega) (show t.toNat ≤ 1000 by omega)) (by decide)
  refine wf_run (ρ := [some (.str s), some (.int t), none]) rfl rfl ?_
  unfold b_power_letters
  (repeat' walk_at "EV1")
  · exfalso; omega
  · have q : t = 0 := by assumption
    subst q
    first | exact ⟨rfl, rfl⟩ | exact congrArg D.str (Pw_zero s).symm
  · have q : s = [] := by assumption
    subst q
    first | exact ⟨congrArg D.str Z_nil_s.symm, rfl⟩ | exact congrArg D.str Z_nil_s.symm
  · have c1 : cutL s none (some (k : Int)) = s.take k := cut_to (by omega)
    have c2 : cutL s (some (k : Int)) (some ((s.length : Int) - (k : Int))) = (s.drop k).take (s.length - k - k) := by rw [hnn]; exact cut_mid (by omega) (by omega)
    have c3 : cutL s (some ((s.length : Int) - (k : Int))) none = s.drop (s.length - k) := by rw [hnn]; exact cut_from (by omega)
    (repeat' (first | with_reducible refine wf_of (hb) ?_ | walk_at "EV1"))
    rw [c1, c2]
    refine wo_muls ⟨h0, by omega⟩ hme ?_
    have hml : ((s.drop k).take (s.length - k - k)).length ≤ 1000 := by rw [List.length_take]; omega
    generalize hm : (s.drop k).take (s.length - k - k) = m at hml hme c2 ⊢
    have hrl : ∀ j : Nat, (List.replicate j m).flatten.length = j * m.length := fun j => by
      induction j with
      | zero => simp
      | succ j ih => rw [List.replicate_succ, List.flatten_cons, List.length_append, ih, Nat.succ_mul, Nat.add_comm]
    have hr1 : (List.replicate t.toNat m).flatten.length ≤ 1000000 := by
      rw [hrl]
      exact Nat.le_trans (Nat.mul_le_mul (show t.toNat ≤ 1000 by omega) hml) (by decide)
    have a1 : (s.take k).length + (List.replicate t.toNat m).flatten.length ≤ 16777216 := by rw [List.length_take]; omega
    have a2 : (s.take k ++ (List.replicate t.toNat m).flatten).length + (s.drop (s.length - k)).length ≤ 16777216 := by rw [List.length_append, List.length_take, List.length_drop]; omega
    refine wo_adds a1 ?_
    (repeat' walk_at "EV1")
    rw [c3]
    refine wo_adds a2 ?_
    (repeat' walk_at "EV1")
    have hne : s ≠ [] := by assumption
    have hw := power_word (n := t.toNat - 1) hr hL hne hE hX
    have et : t.toNat - 1 + 1 = t.toNat := by omega
    have et2 : ((t.toNat : Nat) : Int) = t := by omega
    rw [et, et2, hm] at hw
    first | exact ⟨congrArg D.str hw, rfl⟩ | exact congrArg D.str hw
theorem pl_neg {s : List Nat} {t : Int} {n : Nat} (hr : Red s) (hL : Let s) (hl : s.length ≤ 1000) (h0 : t < 0) (h1 : -1000 ≤ t) : r_power_letters (n + 2) [.str s, .int t] = .ok (.str (Pw s t)) [some (.str s), some (.int t)] := by
  refine wf_ok ?_
  refine wf_run (ρ := [some (.str s), some (.int t), none]) rfl rfl ?_
  unfold b_power_letters
  (repeat' (first | with_reducible refine wf_of (turned_pk hL (by omega)) ?_ | with_reducible refine wf_of (pl_pos (red_back hr) (let_back hL) (by rw [back_len]; exact hl) (by omega) (by omega)) ?_ | walk_at "EV1"))
  · have e : Pw (back s) (-t) = Pw s t := by
      unfold Pw Z
      rw [if_pos (by omega), if_neg (by omega)]
    first | exact ⟨congrArg D.str e, rfl⟩ | exact congrArg D.str e
  all_goals exact absurd h0 (by assumption)
theorem Pw_nf (s : List Nat) (t : Int) : Pw (nf s) t = Pw s t := by
  have e1 : ∀ n, It (F (nf s)) n [] = It (F s) n [] := fun n => by
    induction n with
    | zero => rfl
    | succ n ih => show F (nf s) (It (F (nf s)) n []) = F s _; rw [ih, F_nf (It_red n red0)]
  have e2 : ∀ n, It (F (back (nf s))) n [] = It (F (back s)) n [] := fun n => by
    induction n with
    | zero => rfl
    | succ n ih => show F (back (nf s)) (It (F (back (nf s))) n []) = F (back s) _; rw [ih, F_back_nf (It_red n red0)]
  unfold Pw Z
  rw [e1, e2]
theorem power_ok {s : List Nat} {t : Int} (hL : Let s) (hl : s.length ≤ 1000) (h0 : -1000 ≤ t) (h1 : t ≤ 1000) : g_power [.str s, .int t] = .ok (.str (Pw s t)) [some (.str s), some (.int t)] := by
  have hp : g_power_letters [.str (nf s), .int t] = .ok (.str (Pw (nf s) t)) [some (.str (nf s)), some (.int t)] := by
    have hll := nf_len s
    unfold g_power_letters
    by_cases q : t < 0
    · exact pl_neg (red_nf s) (let_nf hL) (by omega) q h0
    · exact pl_pos (red_nf s) (let_nf hL) (by omega) (by omega) h1
  rw [Pw_nf] at hp
  refine wf_ok ?_
  refine wf_run (ρ := [some (.str s), some (.int t)]) rfl rfl ?_
  unfold b_power
  (repeat' (first | with_reducible refine wf_of (check hL) ?_ | with_reducible refine wf_of (iswithin (by omega) (by omega)) ?_ | with_reducible refine wf_of (net_pk hL (by omega)) ?_ | with_reducible refine wf_of (hp) ?_ | walk_at "EV1"))
  first | exact ⟨rfl, rfl⟩ | rfl
theorem rep_let {m : List Nat} (h : Let m) (j : Nat) : Let (List.replicate j m).flatten := fun c hc => by
  obtain ⟨r, hr, hc⟩ := List.mem_flatten.mp hc
  rw [(List.mem_replicate.mp hr).2] at hc
  exact h c hc
theorem rep_len (m : List Nat) (j : Nat) : (List.replicate j m).flatten.length = j * m.length := by
  induction j with
  | zero => simp
  | succ j ih => rw [List.replicate_succ, List.flatten_cons, List.length_append, ih, Nat.succ_mul, Nat.add_comm]
end K02
set_option maxHeartbeats 1000000
/-! the root of a net -/
namespace K02
open Eng Words
theorem act_full {c : Nat} {s : List Nat} (h : (act c s).length = s.length + 1) : act c s = c :: s := by
  cases s with
  | nil => rfl
  | cons d r =>
    by_cases e : d = sw1 c
    · rw [act, if_pos e] at h; simp at h; omega
    · rw [act, if_neg e]
theorem F_full : ∀ {w s : List Nat}, (F w s).length = w.length + s.length → F w s = w.reverse ++ s
  | [], s, _ => rfl
  | c :: w, s, h => by
    rw [F_cons] at h ⊢
    have h1 := F_len w (act c s)
    have h2 := act_len c s
    simp only [List.length_cons] at h
    have h3 : (act c s).length = s.length + 1 := by omega
    rw [F_full (w := w) (s := act c s) (by omega), act_full h3]
    simp
theorem nf_full {w : List Nat} (h : (nf w).length = w.length) : nf w = w := by
  unfold nf at *
  rw [List.length_reverse] at h
  rw [F_full (by simpa using h)]
  simp
theorem nf_conj (x m : List Nat) (n : Nat) : nf (List.replicate n (x ++ m ++ back x)).flatten = nf (x ++ (List.replicate n m).flatten ++ back x) := by
  unfold nf
  rw [F_rep, F_conj x m n [] red0]
def mid (w : List Nat) (k : Nat) : List Nat := (w.drop k).take (w.length - k - k)
def Far (s : List Nat) (k : Nat) : Prop := ∀ c d, 2 * k + 1 < s.length → s[k]? = some c → s[s.length - 1 - k]? = some d → c ≠ sw1 d
theorem ends_of {u m s : List Nat} (hs : s = u ++ m ++ back u) : Ends s u.length := by
  have hl : s.length = u.length + m.length + u.length := by rw [hs]; simp [back_len]; omega
  refine ⟨by omega, fun i hi c d hc hd => ?_⟩
  have e1 : s[i]? = u[i]? := by
    rw [hs, List.append_assoc, List.getElem?_append_left hi]
  have e2 : s[s.length - 1 - i]? = (back u)[u.length - 1 - i]? := by
    conv => lhs; arg 1; rw [hs]
    rw [List.getElem?_append_right (by rw [List.length_append]; omega)]
    congr 1
    rw [List.length_append]; omega
  rw [e1] at hc; rw [e2] at hd
  unfold back at hd
  rw [List.getElem?_map, List.getElem?_reverse (by omega), show u.length - 1 - (u.length - 1 - i) = i by omega, hc] at hd
  cases hd
  rw [sw_sw]
theorem ends_one {s : List Nat} {k l : Nat} (h1 : Ends s k) (x1 : Far s k) (h2 : Ends s l) (x2 : Far s l) : k = l := by
  have key : ∀ {k l : Nat}, Ends s k → Far s k → Ends s l → k < l → False := fun {k l} _ x1 h2 hlt => by
    have := h2.1
    have e := h2.2 k hlt _ _ (List.getElem?_eq_getElem (show k < s.length by omega)) (List.getElem?_eq_getElem (show s.length - 1 - k < s.length by omega))
    exact x1 _ _ (by omega) (List.getElem?_eq_getElem (by omega)) (List.getElem?_eq_getElem (by omega)) e
  rcases Nat.lt_trichotomy k l with h | h | h
  · exact (key h1 x1 h2 h).elim
  · exact h
  · exact (key h2 x2 h1 h).elim
/-- what is known of the root of a net -/
structure Rt (w : List Nat) (k p t : Nat) : Prop where
  en : Ends w k
  far : Far w k
  p0 : 0 < p
  t0 : 0 < t
  len : w.length - k - k = t * p
  k2 : 2 * k + t * p = w.length
  per : Per (mid w k) p
  min : ∀ q, 0 < q → q < p → ¬ Per (mid w k) q
def fnd (w : List Nat) (k q : Nat) : List Nat := w.take k ++ (mid w k).take q ++ w.drop (w.length - k)
theorem mid_len {w : List Nat} {k : Nat} : (mid w k).length = w.length - k - k := by
  unfold mid; rw [List.length_take, List.length_drop]; omega
theorem rt_ex {w : List Nat} {k : Nat} (hr : Red w) (h0 : w ≠ []) (h : Ends w k) (hx : Far w k) : ∃ p t, Rt w k p t := by
  have h1 := mid_ne h hr h0
  have hl := mid_len (w := w) (k := k)
  have hm : mid w k ≠ [] := fun e => by rw [e] at hl; simp at hl; omega
  obtain ⟨p, a, b, c, d⟩ := per_least _ hm
  obtain ⟨t, ht⟩ := per_dvd a c d (per_len (mid w k))
  have ht' : w.length - k - k = t * p := by rw [← hl, ht, Nat.mul_comm]
  have ht0 : 0 < t := Nat.pos_of_ne_zero fun z => by subst z; rw [Nat.zero_mul] at ht'; omega
  exact ⟨p, t, h, hx, a, ht0, ht', by omega, c, d⟩
section
variable {w : List Nat} {k p t : Nat}
theorem Rt.split (R : Rt w k p t) : w = w.take k ++ mid w k ++ back (w.take k) := split3 R.en
theorem Rt.pow (R : Rt w k p t) : mid w k = (List.replicate t ((mid w k).take p)).flatten := per_pow R.p0 (by rw [mid_len, R.len]) R.per
theorem Rt.ple (R : Rt w k p t) : p ≤ (mid w k).length := by
  rw [mid_len, R.len]; exact Nat.le_mul_of_pos_left p R.t0
theorem Rt.tk (R : Rt w k p t) : (w.take k).length = k := by
  have := R.k2
  rw [List.length_take]; omega
theorem fnd_eq (R : Rt w k p t) (q : Nat) : fnd w k q = w.take k ++ (mid w k).take q ++ back (w.take k) := by
  unfold fnd; rw [take_back R.en]
theorem fnd_len (R : Rt w k p t) {q : Nat} (hq : q ≤ (mid w k).length) : (fnd w k q).length = 2 * k + q := by
  have := R.tk
  rw [fnd_eq R, List.length_append, List.length_append, back_len, R.tk, List.length_take]
  omega
theorem rt_yes (R : Rt w k p t) (hr : Red w) : nf (List.replicate t (fnd w k p)).flatten = w := by
  rw [fnd_eq R, nf_conj, ← R.pow, ← R.split, nf_of_red hr]
theorem rt_no (R : Rt w k p t) {q v : Nat} (hv : v * q = t * p) (h0 : 0 < v) (hq : 0 < q) (hp : q < p) : nf (List.replicate v (fnd w k q)).flatten ≠ w := fun e => by
  have hql : q ≤ (mid w k).length := Nat.le_of_lt (Nat.lt_of_lt_of_le hp R.ple)
  have hml : ((mid w k).take q).length = q := by rw [List.length_take]; omega
  rw [fnd_eq R, nf_conj] at e
  have hl : (w.take k ++ (List.replicate v ((mid w k).take q)).flatten ++ back (w.take k)).length = w.length := by
    rw [List.length_append, List.length_append, back_len, R.tk, rep_length, hml, hv, ← R.k2]; omega
  have e2 := nf_full (w := w.take k ++ (List.replicate v ((mid w k).take q)).flatten ++ back (w.take k)) (by rw [e, hl])
  rw [e] at e2
  have e3 := R.split.symm.trans e2
  have e4 : mid w k = (List.replicate v ((mid w k).take q)).flatten := List.append_cancel_left (List.append_cancel_right e3)
  have hper := pow_per (l := (mid w k).take q) (t := v) (fun z => by rw [z] at hml; simp at hml; omega) h0
  rw [← e4, hml] at hper
  exact R.min q hq hp hper
theorem take_ne (R : Rt w k p t) : (mid w k).take p ≠ [] := fun z => by
  have h := congrArg List.length z
  have h1 := R.ple
  have h2 := R.p0
  rw [List.length_take, List.length_nil] at h
  omega
theorem rt_red (R : Rt w k p t) (hr : Red w) : Red (fnd w k p) := by
  have hne := take_ne R
  obtain ⟨t', rfl⟩ : ∃ t', t = t' + 1 := ⟨t - 1, by have := R.t0; omega⟩
  have hw := R.split
  have hp := R.pow
  rw [hw] at hr
  obtain ⟨r1, r2, r3⟩ := red_split hr
  have last : (mid w k).getLast? = ((mid w k).take p).getLast? := by
    conv => lhs; rw [hp]
    exact last_flat hne t'
  have lx : ∀ {x y : List Nat}, y ≠ [] → (x ++ y).getLast? = y.getLast? := fun {x y} hy => by
    rw [List.getLast?_append]
    cases h : y.getLast? with
    | none => exact absurd (List.getLast?_eq_none_iff.mp h) hy
    | some a => rfl
  have hmn : mid w k ≠ [] := fun z => by rw [z] at hne; simp at hne
  rw [fnd_eq R]
  refine red_app ?_ r2 fun a b ha hb => r3 a b ?_ hb
  · have : w.take k ++ mid w k = (w.take k ++ (mid w k).take p) ++ (mid w k).drop p := by rw [List.append_assoc, List.take_append_drop]
    rw [this] at r1
    exact (red_split r1).1
  · rw [lx hne] at ha
    rw [lx hmn, last]
    exact ha
theorem fnd_far (R : Rt w k p t) (hr : Red w) : Far (fnd w k p) k := by
  have hne := take_ne R
  have hfl := fnd_len R R.ple
  have htk := R.tk
  have hpl := R.ple
  have hml : ((mid w k).take p).length = p := by rw [List.length_take]; omega
  intro c d h1 hc hd
  rw [hfl] at h1 hd
  rw [fnd_eq R] at hc hd
  have ec : (mid w k)[0]? = some c := by
    rw [List.append_assoc, List.getElem?_append_right (by omega), htk, Nat.sub_self, List.getElem?_append_left (by omega), List.getElem?_take_of_lt (by omega)] at hc
    exact hc
  have ed : (mid w k)[p - 1]? = some d := by
    rw [List.append_assoc, List.getElem?_append_right (by omega), htk, List.getElem?_append_left (by omega), List.getElem?_take_of_lt (by omega)] at hd
    rw [show p - 1 = 2 * k + p - 1 - k - k by omega]
    exact hd
  by_cases ht : t = 1
  · subst ht
    have hk2 := R.k2
    have e0 : w[k]? = some c := by
      unfold mid at ec
      rw [List.getElem?_take_of_lt (by omega), List.getElem?_drop] at ec
      simpa using ec
    have e1 : w[w.length - 1 - k]? = some d := by
      unfold mid at ed
      rw [List.getElem?_take_of_lt (by omega), List.getElem?_drop] at ed
      rw [← ed]; congr 1; omega
    exact R.far c d (by omega) e0 e1
  · have h2 : p < (mid w k).length := by
      rw [mid_len, R.len]
      have := R.t0
      have := R.p0
      exact Nat.lt_of_lt_of_le (show p < 2 * p by omega) (Nat.mul_le_mul_right p (by omega))
    have e2 : (mid w k)[p]? = some c := by
      have hp := R.per 0
      rw [at_lt h2, show p = 0 + p by omega, hp, ← at_lt (show 0 < (mid w k).length by omega)]
      exact ec
    have hs := R.split
    rw [hs] at hr
    have rm : Red (mid w k) := (red_split (red_split hr).1).2.1
    -- neighbours
    have hd2 : (mid w k).drop (p - 1) = d :: c :: (mid w k).drop (p + 1) := by
      have e3 : p - 1 + 1 = p := by have := R.p0; omega
      rw [List.drop_eq_getElem_cons (by omega), e3, List.drop_eq_getElem_cons h2, (List.getElem?_eq_some_iff.mp ed).2, (List.getElem?_eq_some_iff.mp e2).2]
    have hr3 : Red ((mid w k).take (p - 1) ++ (mid w k).drop (p - 1)) := by rw [List.take_append_drop]; exact rm
    have hr4 := (red_split hr3).2.1
    rw [hd2] at hr4
    exact hr4.1
theorem fnd_mid (R : Rt w k p t) : mid (fnd w k p) k = (mid w k).take p := by
  have hfl := fnd_len R R.ple
  have htk := R.tk
  have hpl := R.ple
  have hml : ((mid w k).take p).length = p := by rw [List.length_take]; omega
  have h1 : mid (fnd w k p) k = ((fnd w k p).drop k).take p := by
    unfold mid; rw [hfl]; congr 1; omega
  rw [h1, fnd_eq R, List.append_assoc]
  have e : (w.take k ++ ((mid w k).take p ++ back (w.take k))).drop k = (mid w k).take p ++ back (w.take k) := by
    conv => lhs; arg 1; rw [← htk]
    exact List.drop_left
  rw [e]
  conv => lhs; arg 1; rw [← hml]
  exact List.take_left
theorem per_sub (R : Rt w k p t) {q : Nat} (hq : q ∣ p) (hq0 : 0 < q) (h : Per ((mid w k).take p) q) : Per (mid w k) q := by
  obtain ⟨j, hj⟩ := hq
  have hpl := R.ple
  have hml : ((mid w k).take p).length = p := by rw [List.length_take]; omega
  have e1 := per_pow (m := (mid w k).take p) hq0 (t := j) (by rw [hml, hj, Nat.mul_comm]) h
  have key : ∀ i, at_ (mid w k) i = at_ ((mid w k).take p) i := fun i => by
    have e2 := per_mul R.per (i / p) (i % p)
    rw [Nat.mod_add_div] at e2
    have hip : i % p < p := Nat.mod_lt _ R.p0
    rw [e2]
    unfold at_
    rw [hml, Nat.mod_eq_of_lt (show i % p < (mid w k).length by omega), List.getD_eq_getElem?_getD, List.getD_eq_getElem?_getD, List.getElem?_take_of_lt hip]
  intro i
  rw [key, key, h]
/-- a root is its own root, once -/
theorem rt_self (R : Rt w k p t) (hr : Red w) : Rt (fnd w k p) k p 1 where
  en := by
    have h := ends_of (fnd_eq R p)
    rwa [R.tk] at h
  far := fnd_far R hr
  p0 := R.p0
  t0 := by omega
  len := by rw [fnd_len R R.ple]; omega
  k2 := by rw [fnd_len R R.ple]; omega
  per := by
    rw [fnd_mid R]
    have := per_len ((mid w k).take p)
    rwa [show ((mid w k).take p).length = p by rw [List.length_take]; have := R.ple; omega] at this
  min := fun q h0 h1 h => by
    rw [fnd_mid R] at h
    have hml : ((mid w k).take p).length = p := by rw [List.length_take]; have := R.ple; omega
    have hne := take_ne R
    obtain ⟨q', a, b, c, d⟩ := per_least _ hne
    have hpp : Per ((mid w k).take p) p := by
      have := per_len ((mid w k).take p)
      rwa [hml] at this
    have d1 := per_dvd a c d hpp
    have d2 := Nat.le_of_dvd h0 (per_dvd a c d h)
    exact R.min q' a (by omega) (per_sub R d1 a c)
theorem fnd_self (R : Rt w k p t) : fnd (fnd w k p) k p = fnd w k p := by
  have hfl := fnd_len R R.ple
  have htk := R.tk
  unfold fnd at hfl ⊢
  rw [hfl]
  have e0 : fnd w k p = w.take k ++ (mid w k).take p ++ w.drop (w.length - k) := rfl
  have hm := fnd_mid R
  rw [e0] at hm
  have hml : ((mid w k).take p).length = p := by rw [List.length_take]; have := R.ple; omega
  rw [hm]
  congr 1
  · congr 1
    · rw [List.append_assoc]
      conv => lhs; arg 1; rw [← htk]
      exact List.take_left
    · rw [List.take_take]; congr 1; omega
  · have : (w.take k ++ (mid w k).take p).length = 2 * k + p - k := by rw [List.length_append, htk, hml]; omega
    rw [← this]
    exact List.drop_left
end
end K02
namespace K02
open PySem PySem.Spec PyProof.Rows L2 Eng Words
section
variable {w : List Nat} {k p t : Nat}
theorem rt_cut1 (R : Rt w k p t) : cutL w (some (k : Int)) (some ((w.length : Int) - (k : Int))) = mid w k := by
  have := R.k2
  rw [show ((w.length : Int) - (k : Int)) = ((w.length - k : Nat) : Int) by omega]
  exact cut_mid (by omega) (by omega)
theorem rt_cut2 (R : Rt w k p t) : cutL w none (some (k : Int)) = w.take k := by
  have := R.k2
  exact cut_to (by omega)
theorem rt_cut3 (R : Rt w k p t) : cutL w (some ((w.length : Int) - (k : Int))) none = w.drop (w.length - k) := by
  have := R.k2
  rw [show ((w.length : Int) - (k : Int)) = ((w.length - k : Nat) : Int) by omega]
  exact cut_from (by omega)
theorem rt_find (R : Rt w k p t) : find3S (mid w k ++ mid w k) (mid w k) 1 = (p : Int) := by
  have h := R.ple
  refine find3_first (lo := 1) R.p0 (by rw [List.length_append]; omega) ((per_iff h).mpr R.per) fun i h1 h2 hc => ?_
  exact R.min i h1 h2 ((per_iff (by omega)).mp hc)
theorem let_fnd (h : Let w) {q : Nat} : Let (fnd w k q) := by
  unfold fnd mid
  refine let_app (let_app (fun c hc => h c (List.mem_of_mem_take hc)) (fun c hc => h c ?_)) (fun c hc => h c (List.mem_of_mem_drop hc))
  exact List.mem_of_mem_drop (List.mem_of_mem_take (List.mem_of_mem_take hc))
theorem root_ok {s : List Nat} (hL : Let s) (hl : s.length ≤ 1000) (R : Rt (nf s) k p t) : g_root [.str s] = .ok (.tup [.str (fnd (nf s) k p), .int t]) [some (.str s)] := by
  have hw := nf_len s
  have hLw := let_nf hL
  have h0 : nf s ≠ [] := fun z => by
    have := R.k2
    have := R.p0
    have := R.t0
    have h := congrArg List.length z
    have : 0 < t * p := Nat.mul_pos (by omega) (by omega)
    rw [List.length_nil] at h; omega
  obtain ⟨k', hb, hE, hX⟩ := bent_ok hLw (by omega)
  have hk := ends_one hE hX R.en R.far
  subst hk
  have hn := net_pk hL (show s.length ≤ 1000000 by omega)
  generalize nf s = w at *
  have hl2 : w.length ≤ 16777216 := by omega
  have c1 := rt_cut1 R
  have c2 := rt_cut2 R
  have c3 := rt_cut3 R
  have hf := rt_find R
  have hml := mid_len (w := w) (k := k')
  have hk2 := R.k2
  have hR := R.len
  refine wf_ok ?_
  refine wf_run (ρ := [some (.str s), none, none, none, none]) rfl rfl ?_
  unfold b_root
  have hne : eqD (.str w) (.str []) = some (.bl false) := by
    show some (D.bl (decide (w = []))) = _
    rw [decide_eq_false h0]
  have l1 : (mid w k').length + (mid w k').length ≤ 16777216 := by omega
  have hfm : find2M (mid w k' ++ mid w k') [.str (mid w k'), .int 1] = some (.int p) := by
    show some (D.int (find3S _ _ 1)) = _
    rw [hf]
  have ct : cutL (mid w k') none (some (p : Int)) = (mid w k').take p := cut_to R.ple
  have lm : (mid w k').length ≤ 16777216 := by omega
  have l2 : (w.take k').length + ((mid w k').take p).length ≤ 16777216 := by rw [List.length_take, List.length_take]; omega
  have l3 : (w.take k' ++ (mid w k').take p).length + (w.drop (w.length - k')).length ≤ 16777216 := by
    rw [List.length_append, List.length_take, List.length_take, List.length_drop]; omega
  have hp0 := R.p0
  have hpl := R.ple
  (repeat' (first | with_reducible refine wf_of (check hL) ?_ | with_reducible refine wf_of (hn) ?_ | ((with_reducible apply wo); (exact hne)) | with_reducible refine wf_of (hb) ?_ | (rw [c1]) | ((with_reducible apply wo); (exact hfm)) | (rw [c2]) | (rw [ct]) | (rw [c3]) | walk_at "EV1"))
  have ed : ((mid w k').length : Int) / (p : Int) = (t : Int) := by
    rw [hml, hR, Int.natCast_mul]
    exact Int.mul_ediv_cancel _ (by omega)
  rw [ed]
  exact ⟨rfl, rfl⟩
theorem root_none {s : List Nat} (hL : Let s) (hl : s.length ≤ 1000) (h0 : nf s = []) : g_root [.str s] = .exc ⟨"NoRoot", []⟩ [some (.str s)] := by
  have hn := net_pk hL (show s.length ≤ 1000000 by omega)
  rw [h0] at hn
  have : WF (g_root [.str s]) (fun e ps => e = ⟨"NoRoot", []⟩ ∧ ps = [some (.str s)]) (fun _ _ => False) := by
    refine wf_run (ρ := [some (.str s), none, none, none, none]) rfl rfl ?_
    unfold b_root
    have hne : eqD (.str []) (.str []) = some (.bl true) := rfl
    (repeat' (first | with_reducible refine wf_of (check hL) ?_ | with_reducible refine wf_of (hn) ?_ | ((with_reducible apply wo); (exact hne)) | walk_at "EV1"))
    first | exact ⟨rfl, rfl⟩ | rfl
  unfold WF at this
  cases hg : g_root [.str s] with
  | ok _ _ => rw [hg] at this; exact this.elim
  | exc e ps => rw [hg] at this; obtain ⟨rfl, rfl⟩ := this; rfl
  | stuck => rw [hg] at this; exact this.elim
theorem asked_yes {s : List Nat} (hL : Let s) (hl : s.length ≤ 1000) (R : Rt (nf s) k p t) : g__law_asked [.str s] = .ok (.tup [.str (fnd (nf s) k p), .int t]) [some (.str s)] := by
  refine wf_ok ?_
  refine wf_run (ρ := [some (.str s), none]) rfl rfl ?_
  unfold b__law_asked
  have hf : (D.tup [.str (fnd (nf s) k p), .int t]).frz = true := rfl
  (repeat' (first | with_reducible refine wf_of (root_ok hL hl R) ?_ | walk_at "EV1"))
  first | exact ⟨rfl, rfl⟩ | rfl
theorem asked_no {s : List Nat} (hL : Let s) (hl : s.length ≤ 1000) (h0 : nf s = []) : g__law_asked [.str s] = .ok (.str [110, 111, 110, 101]) [some (.str s)] := by
  refine wf_ok ?_
  refine wf_run (ρ := [some (.str s), none]) rfl rfl ?_
  unfold b__law_asked
  have hn := root_none hL hl h0
  (repeat' (first | (refine wf_exc hn ?_) | walk_at "EV1"))
  first | exact ⟨rfl, rfl⟩ | rfl | trace_state
abbrev lrt : MS := (sSeq (sSet 2 (eOp subD (eFn lenD (lCons (eVar 0) lNil)) (eOp mulD (eK (.int 2)) (eVar 1)))) (sSeq (sFor (gN 3) (iRgN (eVar 2) (eK (.int 0)) (eUn negD (eK (.int 1)))) (sIf (mB (eOp eqD (eOp modD (eFn intD (lCons (eVar 2) lNil)) (eVar 3)) (eK (.int 0)))) (sSeq (sSet 4 (eOp addD (eSl (eVar 0) oNone (oSome (eOp addD (eVar 1) (eOp fdivD (eVar 2) (eVar 3))))) (eSl (eVar 0) (oSome (eOp subD (eFn lenD (lCons (eVar 0) lNil)) (eVar 1))) oNone))) (sFrz 4 (sIf (mB (eOp eqD (eCall g__law_net (aVal (eOp mulD (eVar 4) (eVar 3)) aNil)) (eVar 0))) (sRet (eTup (lCons (eVar 4) (lCons (eVar 3) lNil)))) sNext))) sNext)) (sRet (eK .non))))
theorem take_mid {q : Nat} (h : k + q ≤ w.length - k) : w.take (k + q) = w.take k ++ (mid w k).take q := by
  unfold mid
  rw [List.take_take, List.take_add]
  congr 2
  omega
theorem dn_cons {v : Nat} (h : 0 < v) : ((List.range v).map fun (j : Nat) => D.int ((v : Int) - (j : Int))) = D.int v :: ((List.range (v - 1)).map fun (j : Nat) => D.int (((v - 1 : Nat) : Int) - (j : Int))) := by
  obtain ⟨u, rfl⟩ : ∃ u, v = u + 1 := ⟨v - 1, by omega⟩
  rw [List.range_succ_eq_map, List.map_cons, List.map_map]
  congr 1
  apply List.map_congr_left
  intro j _
  simp
  omega
theorem lrt_ok (hL : Let w) (hl : w.length ≤ 1000) (R : Rt w k p t) (hr : Red w) : WS lrt [some (.str w), some (.int k), none, none, none] (Eng.Fin [0] 1 (fun _ _ => False) fun d' ps' => d' = D.tup [.str (fnd w k p), .int t] ∧ ps' = [some (.str w)]) := by
  unfold lrt
  have hl2 : w.length ≤ 16777216 := by omega
  have hk2 := R.k2
  have htp : (w.length : Int) - 2 * (k : Int) = ((t * p : Nat) : Int) := by omega
  have hp0 := R.p0
  have ht0 := R.t0
  have hdn : dnL (.int ((w.length : Int) - 2 * (k : Int))) (.int 0) (.int (-1)) = some ((List.range (t * p)).map fun (j : Nat) => D.int (((t * p : Nat) : Int) - (j : Int))) := by
    rw [htp]
    have e : (((t * p : Nat) : Int) - 0).toNat = t * p := by omega
    rw [dnL_ok (by omega), e]
  (repeat' walk_at "EV1")
  refine for_inv (fun xs ρ => ∃ (v : Nat) (x y : Option D), xs = ((List.range v).map fun (j : Nat) => D.int ((v : Int) - (j : Int))) ∧ t ≤ v ∧ v ≤ t * p ∧ ρ = [some (.str w), some (.int k), some (.int ((w.length : Int) - 2 * (k : Int))), x, y]) ?_ ?_ _ _ ?_
  · rintro x xs ρ ⟨v, x1, y1, hx, hv, hvn, rfl⟩
    rw [dn_cons (by omega)] at hx
    obtain ⟨rfl, rfl⟩ := List.cons.inj hx
    have hv0 : 0 < v := by omega
    have hvI : (0 : Int) < (v : Int) := by omega
    have hvB : (v : Int) < 2 ^ 60 := by omega
    rw [htp]
    have hre : ∀ {x y : Option D}, t < v → ∃ (v' : Nat) (x' y' : Option D), ((List.range (v - 1)).map fun (j : Nat) => D.int (((v - 1 : Nat) : Int) - (j : Int))) = ((List.range v').map fun (j : Nat) => D.int ((v' : Int) - (j : Int))) ∧ t ≤ v' ∧ v' ≤ t * p ∧
        [some (D.str w), some (.int k), some (.int ((t * p : Nat) : Int)), x, y] = [some (.str w), some (.int k), some (.int ((t * p : Nat) : Int)), x', y'] := fun h => ⟨v - 1, _, _, rfl, by omega, by omega, rfl⟩
    have hq : ((t * p : Nat) : Int) / (v : Int) = ((t * p / v : Nat) : Int) := rfl
    have hql : t * p / v ≤ t * p := Nat.div_le_self _ _
    generalize hqq : t * p / v = q at hq hql
    have hqm : q ≤ (mid w k).length := by rw [mid_len, R.len]; exact hql
    have hc1 : cutL w none (some ((k : Int) + ((t * p : Nat) : Int) / (v : Int))) = w.take k ++ (mid w k).take q := by
      rw [hq, show (k : Int) + (q : Int) = ((k + q : Nat) : Int) by omega, cut_to (by omega), take_mid (by omega)]
    have hc3 := rt_cut3 R
    have hfl := fnd_len R hqm
    have hfe : w.take k ++ (mid w k).take q ++ w.drop (w.length - k) = fnd w k q := rfl
    have l1 : (w.take k ++ (mid w k).take q).length + (w.drop (w.length - k)).length ≤ 16777216 := by
      have := congrArg List.length hfe
      rw [List.length_append] at this
      omega
    have hLf : Let (fnd w k q) := let_fnd hL
    have hrl : (List.replicate (v : Int).toNat (fnd w k q)).flatten.length ≤ 1000000 := by
      rw [rep_length, hfl]
      exact Nat.le_trans (Nat.mul_le_mul (show (v : Int).toNat ≤ 1000 by omega) (show 2 * k + q ≤ 1000 by omega)) (by decide)
    have hnl := net_law (rep_let hLf (v : Int).toNat) hrl
    have l2 : (fnd w k q).length * (v : Int).toNat ≤ 16777216 := by
      rw [rep_length] at hrl
      rw [Nat.mul_comm]; omega
    (repeat' (first | (rw [hc1]) | (rw [hc3]) | (rw [hfe]) | ((with_reducible refine wo_muls ⟨by omega, by omega⟩ l2 ?_)) | with_reducible refine wf_of (hnl) ?_ | walk_at "EV1"))
    · rename_i e1 e2
      have e1 : ((t * p % v : Nat) : Int) = 0 := e1
      have hvq : v * q = t * p := by rw [← hqq]; exact Nat.mul_div_cancel' (Nat.dvd_of_mod_eq_zero (by omega))
      have hvt : v = t := by
        rcases Nat.lt_or_ge t v with h | h
        · exfalso
          have hqp : q < p := by
            rcases Nat.lt_or_ge q p with z | z
            · exact z
            · exfalso
              have := Nat.mul_le_mul_left t z
              have := Nat.mul_lt_mul_of_pos_right h (show 0 < q by omega)
              omega
          have hq0 : 0 < q := Nat.pos_of_ne_zero fun z => by
            subst z
            have := Nat.mul_pos ht0 hp0
            omega
          exact rt_no R hvq hv0 hq0 hqp e2
        · omega
      subst hvt
      have hqp : q = p := Nat.eq_of_mul_eq_mul_left hv0 hvq
      subst hqp
      exact ⟨rfl, rfl⟩
    · rename_i e1 e2
      refine hre (Nat.lt_of_le_of_ne hv fun z => e2 ?_)
      subst z
      rw [Nat.mul_div_cancel_left p hv0] at hqq
      subst hqq
      exact rt_yes R hr
    · rename_i e1
      refine hre (Nat.lt_of_le_of_ne hv fun z => e1 ?_)
      subst z
      show ((t * p % t : Nat) : Int) = 0
      rw [Nat.mul_mod_right]; rfl
  · rintro ρ ⟨v, x1, y1, hx, hv, hvn, rfl⟩
    rw [dn_cons (by omega)] at hx
    cases hx
  · exact ⟨t * p, none, none, rfl, Nat.le_mul_of_pos_right t hp0, Nat.le_refl _, rfl⟩
theorem lrt_far (hL : Let w) (hl : w.length ≤ 1000) (R : Rt w k p t) (hr : Red w) {l : Nat} (hE : Ends w l) (hF : Far w l) : WS lrt [some (.str w), some (.int l), none, none, none] (Eng.Fin [0] 1 (fun _ _ => False) fun d' ps' => d' = D.tup [.str (fnd w k p), .int t] ∧ ps' = [some (.str w)]) := by
  have := ends_one hE hF R.en R.far
  subst this
  exact lrt_ok hL hl R hr
/-- the law's own way to the root -/
theorem lroot_ok (hL : Let w) (hl : w.length ≤ 1000) (R : Rt w k p t) (hr : Red w) : g__law_root [.str w] = .ok (.tup [.str (fnd w k p), .int t]) [some (.str w)] := by
  refine wf_ok ?_
  refine wf_run (ρ := [some (.str w), none, none, none, none]) rfl rfl ?_
  unfold b__law_root
  have hl2 : w.length ≤ 16777216 := by omega
  have hk2 := R.k2
  (repeat' walk_at "EV1")
  refine while_inv (k := fuel) (fun j ρ => ∃ l : Nat, ρ = [some (.str w), some (.int l), none, none, none] ∧ j + l = w.length ∧ Ends w l) ?_ w.length _ (by unfold fuel; omega) ⟨0, rfl, by omega, by omega, fun i hi => by omega⟩
  rintro j ρ ⟨l, rfl, hj, hE⟩
  by_cases hg : 2 * l + 1 < w.length
  · have hc := List.getElem?_eq_getElem (show l < w.length by omega)
    have hd := List.getElem?_eq_getElem (show w.length - 1 - l < w.length by omega)
    have e1 : atI w (l : Int) = some w[l] := atI_nat' hc
    have e2 : atI w ((w.length : Int) - 1 - (l : Int)) = some w[w.length - 1 - l] := by
      rw [show ((w.length : Int) - 1 - (l : Int)) = ((w.length - 1 - l : Nat) : Int) by omega]
      exact atI_nat' hd
    have ld : isLet w[w.length - 1 - l] := hL _ (List.mem_of_getElem? hd)
    have farB : ¬[w[l]] = [sw1 w[w.length - 1 - l]] → Far w l := fun q c' d' _ h1 h2 => by
      rw [hc] at h1; rw [hd] at h2
      cases h1; cases h2
      simpa using q
    have nx : [w[l]] = [sw1 w[w.length - 1 - l]] → Ends w (l + 1) := fun q => ⟨by omega, fun i hi c' d' h1 h2 => by
      by_cases e : i = l
      · subst e
        rw [hc] at h1; rw [hd] at h2
        cases h1; cases h2
        simpa using q
      · exact hE.2 i (by omega) c' d' h1 h2⟩
    generalize w[l] = c at hc e1 farB nx
    generalize w[w.length - 1 - l] = d at hd e2 ld farB nx
    (repeat' (first | with_reducible refine wf_of (undoing_law ld) ?_ | (with_reducible exact lrt_far hL hl R hr hE (farB (by assumption))) | walk_at "EV1"))
    · rename_i q
      exact ⟨j - 1, by omega, l + 1, rfl, by omega, nx q⟩
    · omega
  · have farA : Far w l := fun c' d' hh => absurd hh (by omega)
    (repeat' (first | (with_reducible exact lrt_far hL hl R hr hE farA) | walk_at "EV1"))
    all_goals omega
end
end K02
namespace K02
open PySem PySem.Spec PyProof.Rows L2 Eng Words
def kap (c : Nat) : Int := 2 * ((lo1 c : Nat) : Int) - 194 + (if isUp c then 1 else 0)
def ordS : List Nat := [97, 65, 98, 66, 99, 67, 100, 68, 101, 69, 102, 70, 103, 71, 104, 72, 105, 73, 106, 74, 107, 75, 108, 76, 109, 77, 110, 78, 111, 79, 112, 80, 113, 81, 114, 82, 115, 83, 116, 84, 117, 85, 118, 86, 119, 87, 120, 88, 121, 89, 122, 90]
theorem let_list {P : Nat → Prop} (h : ∀ c ∈ ordS, P c) {c : Nat} (hc : isLet c) : P c := by
  have k : ∀ c, c < 128 → ((65 ≤ c ∧ c ≤ 90) ∨ (97 ≤ c ∧ c ≤ 122)) → c ∈ ordS := by decide +kernel
  unfold isLet at hc
  exact h c (k c (by omega) hc)
theorem find_small {c : Nat} (hc : isLet c) : findS c_SMALL [lo1 c] = ((lo1 c : Nat) : Int) - 97 := let_list (P := fun c => findS c_SMALL [lo1 c] = ((lo1 c : Nat) : Int) - 97) (by decide +kernel) hc
theorem find_ord {c : Nat} (hc : isLet c) : findS ordS [c] = kap c := let_list (P := fun c => findS ordS [c] = kap c) (by decide +kernel) hc
theorem kap_inj {c d : Nat} (hc : isLet c) (hd : isLet d) (h : kap c = kap d) : c = d := by
  unfold kap lo1 isUp at h
  unfold isLet at hc hd
  simp only [decide_eq_true_eq] at h
  split at h <;> split at h <;> omega
def lx : List Int → List Int → Bool
  | [], [] => false
  | [], _ :: _ => true
  | _ :: _, [] => false
  | x :: xs, y :: ys => decide (x < y) || (!decide (y < x) && lx xs ys)
theorem lx_self : ∀ xs, lx xs xs = false
  | [] => rfl
  | x :: xs => by simp [lx, lx_self xs]
open PySem.W in
theorem lex_ints : ∀ xs ys : List Int, lexLt itemOrd (keyToksAll (xs.map PyData.int)) (keyToksAll (ys.map PyData.int)) = lx xs ys
  | [], [] => rfl
  | [], y :: ys => rfl
  | x :: xs, [] => rfl
  | x :: xs, y :: ys => by
    have ha : alike (.int x) (.int y) = true := rfl
    show lexLt itemOrd (keyToksAll (.int x :: xs.map PyData.int)) (keyToksAll (.int y :: ys.map PyData.int)) = _
    have hv : PyData.eqv (.int x) (.int y) = decide (x = y) := rfl
    by_cases e : x = y
    · rw [dataLt_all_yes ha (by rw [hv]; exact decide_eq_true e), lex_ints xs ys]
      subst e
      simp [lx]
    · rw [dataLt_all_no ha (by rw [hv]; exact decide_eq_false e), dataLt_int]
      unfold lx
      by_cases h : x < y
      · simp [h]
      · have : y < x := by omega
        simp [h, this]
theorem eqv_ints : ∀ xs ys : List Int, PyData.eqvAll (xs.map PyData.int) (ys.map PyData.int) = decide (xs = ys)
  | [], [] => rfl
  | [], y :: ys => rfl
  | x :: xs, [] => rfl
  | x :: xs, y :: ys => by
    show (PyData.eqv (.int x) (.int y) && PyData.eqvAll (xs.map PyData.int) (ys.map PyData.int)) = _
    rw [eqv_ints xs ys, show PyData.eqv (.int x) (.int y) = decide (x = y) from rfl]
    by_cases e : x = y <;> by_cases f : xs = ys <;> simp [e, f]
theorem alike_ints : ∀ xs ys : List Int, PySem.W.alikeAll (xs.map PyData.int) (ys.map PyData.int) = true
  | [], _ => rfl
  | _ :: _, [] => rfl
  | x :: xs, y :: ys => by
    show (PySem.W.alike (.int x) (.int y) && PySem.W.alikeAll (xs.map PyData.int) (ys.map PyData.int)) = true
    rw [alike_ints xs ys]; rfl
theorem toPys_ints : ∀ xs : List Int, toPys (xs.map D.int) = xs.map PyData.int
  | [] => rfl
  | x :: xs => by
    show PyData.int x :: toPys (xs.map D.int) = _
    rw [toPys_ints xs]; rfl
theorem shape_ints : ∀ xs : List Int, PyData.canLayAll0 (xs.map PyData.int) = true ∧ PyData.depthAll (xs.map PyData.int) = 0
  | [] => ⟨rfl, rfl⟩
  | x :: xs => by
    obtain ⟨a, b⟩ := shape_ints xs
    refine ⟨?_, ?_⟩
    · show (true && PyData.canLayAll0 (xs.map PyData.int)) = true
      rw [a]; rfl
    · show max 0 (PyData.depthAll (xs.map PyData.int)) = 0
      rw [b]; rfl
abbrev keyD2 (a : Int) (xs : List Int) : D := .tup [.int a, .lst false (xs.map D.int)]
theorem key_py (a : Int) (xs : List Int) : toPy (keyD2 a xs) = .tuple [.int a, .list (xs.map PyData.int)] := by
  show PyData.tuple [.int a, .list (toPys (xs.map D.int))] = _
  rw [toPys_ints]
theorem key_shaped (a : Int) (xs : List Int) : SeqAt.shaped (toPy (keyD2 a xs)) = true := by
  rw [key_py]
  obtain ⟨h1, h2⟩ := shape_ints xs
  unfold SeqAt.shaped
  have e1 : (PyData.tuple [.int a, .list (xs.map PyData.int)]).canLay0 = true := by
    show (true && (PyData.canLayAll0 (xs.map PyData.int) && true)) = true
    rw [h1]; rfl
  have e2 : (PyData.tuple [.int a, .list (xs.map PyData.int)]).depth ≤ 64 := by
    show max 0 (max (PyData.depthAll (xs.map PyData.int) + 1) 0) + 1 ≤ 64
    rw [h2]; decide
  rw [e1, decide_eq_true e2]; rfl
def earl (a b : Int) (xs ys : List Int) : Bool := if a = b then lx xs ys else decide (a < b)
open PySem.W in
theorem lt_key (a b : Int) (xs ys : List Int) : lt2D (keyD2 a xs) (keyD2 b ys) = some (.bl (earl a b xs ys)) := by
  have hal : alike (toPy (keyD2 a xs)) (toPy (keyD2 b ys)) = true := by
    rw [key_py, key_py]
    show (true && (alikeAll (xs.map PyData.int) (ys.map PyData.int) && true)) = true
    rw [alike_ints]; rfl
  have hok : ltOk (keyD2 a xs) (keyD2 b ys) = true := by
    unfold ltOk
    rw [key_shaped, key_shaped, hal]; rfl
  unfold lt2D
  rw [if_pos hok, key_py, key_py, dataLt_tuple]
  have ha : alike (.int a) (.int b) = true := rfl
  have hv : PyData.eqv (.int a) (.int b) = decide (a = b) := rfl
  unfold earl
  by_cases e : a = b
  · rw [dataLt_all_yes ha (by rw [hv]; exact decide_eq_true e), if_pos e]
    have hl : alike (.list (xs.map PyData.int)) (.list (ys.map PyData.int)) = true := alike_ints xs ys
    have he : PyData.eqv (.list (xs.map PyData.int)) (.list (ys.map PyData.int)) = decide (xs = ys) := eqv_ints xs ys
    by_cases f : xs = ys
    · rw [dataLt_all_yes hl (by rw [he]; exact decide_eq_true f)]
      subst f
      rw [lx_self]; rfl
    · rw [dataLt_all_no hl (by rw [he]; exact decide_eq_false f), dataLt_list, lex_ints]
  · rw [dataLt_all_no ha (by rw [hv]; exact decide_eq_false e), if_neg e, dataLt_int]
abbrev keys (s : List Nat) : List Int := s.map kap
theorem rowkey_ok {s : List Nat} (h : Let s) (hl : s.length ≤ 1000000) : g_row_key [.str s] = .ok (keyD2 s.length (keys s)) [some (.str s)] := by
  refine wf_ok ?_
  refine wf_run (ρ := [some (.str s), none, none]) rfl rfl ?_
  unfold b_row_key
  have hl2 : s.length ≤ 16777216 := by omega
  (repeat' walk_at "EV1")
  refine lc_inv (fun xs acc ρ => ∃ rest pre, xs = rest.map ch ∧ acc = (keys pre).map D.int ∧ ρ = [some (.str s), none, none] ∧ pre ++ rest = s) ?_ ?_ _ _ _ ?_
  · rintro x xs acc ρ ⟨rest, pre, hx, rfl, rfl, hp⟩
    cases rest with
    | nil => cases hx
    | cons c rest =>
    cases hx
    have hc : isLet c := h c (by rw [← hp]; simp)
    have ha := let_ascii (let_one hc)
    have h1 : [c].length ≤ 5592405 := by simp
    have hlen : ((keys pre).map D.int).length < 16777216 := by
      have := congrArg List.length hp
      simp at this ⊢
      omega
    have hf : findM c_SMALL [.str [lo1 c]] = some (.int (((lo1 c : Nat) : Int) - 97)) := by
      show some (D.int (findS c_SMALL [lo1 c])) = _
      rw [find_small hc]
    have hb : (lo1 c : Nat) < 2 ^ 20 := by
      unfold isLet at hc
      unfold lo1
      split <;> omega
    have hi : intD [.bl (isUpS [c])] = some (.int (if isUp c then 1 else 0)) := by
      have hu : isUpS [c] = isUp c := by
        unfold isLet at hc
        unfold isUpS isUp isLo
        simp
        omega
      rw [hu]
      cases isUp c <;> rfl
    (repeat' (first | ((with_reducible apply wo); (exact hf)) | ((with_reducible apply wo); (exact hi)) | walk_at "EV1"))
    refine ⟨rest, pre ++ [c], rfl, ?_, rfl, by rw [← hp]; simp⟩
    have e : 2 * (((lo1 c : Nat) : Int) - 97) + (if isUp c = true then 1 else 0) = kap c := by
      unfold kap; omega
    rw [e]; simp
  · rintro acc ρ ⟨rest, pre, hx, rfl, rfl, hp⟩
    cases rest with
    | cons c rest => cases hx
    | nil =>
      have hp : pre = s := by simpa using hp
      subst hp
      have hf : frzs ((keys pre).map D.int) = true := by
        generalize keys pre = l
        induction l with
        | nil => rfl
        | cons a l ih => show (true && frzs (l.map D.int)) = true; rw [ih]; rfl
      have hg : (D.lst false ((keys pre).map D.int)).frz = true := hf
      (repeat' (first | ((with_reducible refine w_frzl ?_); (with_reducible refine get_1 ?_); (with_reducible refine ⟨_, _, rfl, hf, ?_⟩); (with_reducible refine put_1 ?_)) | walk_at "EV1"))
      first | exact ⟨rfl, rfl⟩ | rfl
  · exact ⟨s, [], rfl, rfl, rfl, rfl⟩
theorem earlier_ok {s u : List Nat} (h : Let s) (hl : s.length ≤ 1000000) (h2 : Let u) (hl2 : u.length ≤ 1000000) : g_earlier [.str s, .str u] = .ok (.bl (earl s.length u.length (keys s) (keys u))) [some (.str s), some (.str u)] := by
  refine wf_ok ?_
  refine wf_run (ρ := [some (.str s), some (.str u)]) rfl rfl ?_
  unfold b_earlier
  have hk := lt_key s.length u.length (keys s) (keys u)
  (repeat' (first | with_reducible refine wf_of (check h) ?_ | with_reducible refine wf_of (check h2) ?_ | with_reducible refine wf_of (rowkey_ok h hl) ?_ | with_reducible refine wf_of (rowkey_ok h2 hl2) ?_ | ((with_reducible apply wo); (exact hk)) | walk_at "EV1"))
  first | exact ⟨rfl, rfl⟩ | rfl
theorem learl_ok {s u : List Nat} (h : Let s) (hl : s.length ≤ 1000000) (h2 : Let u) (hl2 : u.length ≤ 1000000) : g__law_is_earlier [.str s, .str u] = .ok (.bl (earl s.length u.length (keys s) (keys u))) [some (.str s), some (.str u)] := by
  refine wf_ok ?_
  refine wf_run (ρ := [some (.str s), some (.str u), none, none]) rfl rfl ?_
  unfold b__law_is_earlier
  have hs : s.length ≤ 16777216 := by omega
  have hu : u.length ≤ 16777216 := by omega
  unfold earl
  (repeat' walk_at "EV1")
  · have hn : (s.length : Int) = (u.length : Int) := by assumption
    rw [if_pos hn]
    refine for_inv (fun xs ρ => ∃ (k : Nat) (x : Option D), xs = rng k (s.length - k) ∧ k ≤ s.length ∧ lx (keys s) (keys u) = lx (keys (s.drop k)) (keys (u.drop k)) ∧ ρ = [some (.str s), some (.str u), some (.str ordS), x]) ?_ ?_ _ _ ?_
    · rintro x xs ρ ⟨k, x1, hx, hk, hlx, rfl⟩
      obtain ⟨j, hj⟩ : ∃ j, s.length - k = j := ⟨_, rfl⟩
      rw [hj] at hx
      cases j with
      | zero => cases hx
      | succ j =>
      rw [rng_succ] at hx
      obtain ⟨rfl, rfl⟩ := List.cons.inj hx
      have k1 : k < s.length := by omega
      have k2 : k < u.length := by omega
      have g1 := List.getElem?_eq_getElem k1
      have g2 := List.getElem?_eq_getElem k2
      have d1 := List.drop_eq_getElem_cons k1
      have d2 := List.drop_eq_getElem_cons k2
      have l1 : isLet s[k] := h _ (List.getElem_mem k1)
      have l2 : isLet u[k] := h2 _ (List.getElem_mem k2)
      have a1 : atI s (k : Int) = some s[k] := atI_nat' g1
      have a2 : atI u (k : Int) = some u[k] := atI_nat' g2
      rw [d1, d2] at hlx
      generalize s[k] = c at g1 d1 l1 a1 hlx
      generalize u[k] = d at g2 d2 l2 a2 hlx
      have f1 : findM ordS [.str [c]] = some (.int (kap c)) := by
        show some (D.int (findS ordS [c])) = _
        rw [find_ord l1]
      have f2 : findM ordS [.str [d]] = some (.int (kap d)) := by
        show some (D.int (findS ordS [d])) = _
        rw [find_ord l2]
      (repeat' (first | ((with_reducible apply wo); (exact f1)) | ((with_reducible apply wo); (exact f2)) | walk_at "EV1"))
      · rename_i e
        have e : [c] = [d] := e
        refine ⟨k + 1, _, ?_, by omega, ?_, rfl⟩
        · rw [show s.length - (k + 1) = j by omega]
        · rw [hlx]
          simp only [List.cons.injEq, and_true] at e
          subst e
          show (decide (kap c < kap c) || (!decide (kap c < kap c) && lx (keys (s.drop (k + 1))) (keys (u.drop (k + 1))))) = _
          simp
      · rename_i ne
        have ne : ¬[c] = [d] := ne
        refine ⟨?_, rfl⟩
        have hk2 : kap c ≠ kap d := fun e => ne (by rw [kap_inj l1 l2 e])
        rw [hlx]
        show _ = D.bl (decide (kap c < kap d) || (!decide (kap d < kap c) && lx (keys (s.drop (k + 1))) (keys (u.drop (k + 1)))))
        by_cases q : kap c < kap d
        · simp [q]
        · have : kap d < kap c := by omega
          simp [q, this]
    · rintro ρ ⟨k, x1, hx, hk, hlx, rfl⟩
      have hk2 : s.length - k = 0 := by
        cases hj : s.length - k with
        | zero => rfl
        | succ j => rw [hj, rng_succ] at hx; cases hx
      have e1 : s.drop k = [] := List.drop_eq_nil_of_le (by omega)
      have e2 : u.drop k = [] := List.drop_eq_nil_of_le (by omega)
      rw [e1, e2] at hlx
      (repeat' walk_at "EV1")
      rw [hlx]
      exact ⟨rfl, rfl⟩
    · exact ⟨0, none, rfl, by omega, by simp, rfl⟩
  · have hn : ¬(s.length : Int) = (u.length : Int) := by assumption
    rw [if_neg hn]
    exact ⟨rfl, rfl⟩
end K02
namespace K02
open PySem PySem.Spec PyProof.Rows L2 Eng Words
theorem frzs_int : ∀ ns : List Int, frzs (ns.map D.int) = true
  | [] => rfl
  | _ :: ns => by
    show (true && frzs (ns.map D.int)) = true
    rw [frzs_int ns]; rfl
theorem freezes_int (ns : List Int) : freezes (ns.map D.int) = ns.map D.int := freezes_frz _ (frzs_int ns)
theorem cut63 {ns : List Int} (h : ns.length ≤ 63) : cutL ns none (some 63) = ns := by
  unfold cutL
  rw [HT.sIx_none, show (63 : Int) = ((63 : Nat) : Int) from rfl, HT.sIx_nat, Nat.min_eq_right h]
  simp
def absI (i : Int) : Int := if i < 0 then -i else i
theorem hand_ok {ns : List Int} (h : ns.length ≤ 63) : ∃ cells : List D, g__law_hand [.scr ns] = .ok (hd false cells 0 0 (1 + cells.length) 0) [some (.scr ns)] ∧ OkH cells 0 0 (1 + cells.length) 0 100000 := by
  refine ⟨(ns.map absI).map D.int, ?_, ?_⟩
  · refine wf_ok ?_
    refine wf_run (ρ := [some (.scr ns), none, none]) rfl rfl ?_
    unfold b__law_hand
    have hsl : slD (.scr ns) none (some 63) = some (.lst true (ns.map D.int)) := by
      show some (D.lst true ((cutL ns none (some 63)).map D.int)) = _
      rw [cut63 h]
    have hi : itD (.lst true (ns.map D.int)) = some (ns.map D.int) := by show some (freezes _) = _; rw [freezes_int]
    have hf := frzs_int (ns.map absI)
    have hg : (D.lst false ((ns.map absI).map D.int)).frz = true := hf
    (repeat' (first | ((with_reducible apply wo); (exact hsl)) | ((with_reducible apply wo); (exact hi)) | walk_at "EV1"))
    refine lc_inv (fun xs acc ρ => ∃ rest pre, xs = rest.map D.int ∧ acc = (pre.map absI).map D.int ∧ ρ = [some (.scr ns), none, none] ∧ pre ++ rest = ns) ?_ ?_ _ _ _ ⟨ns, [], rfl, rfl, rfl, rfl⟩
    · rintro x xs acc ρ ⟨rest, pre, hx, rfl, rfl, hp⟩
      cases rest with
      | nil => cases hx
      | cons c rest =>
      cases hx
      have hlen : ((pre.map absI).map D.int).length < 16777216 := by
        have := congrArg List.length hp
        simp at this ⊢
        omega
      (repeat' walk_at "EV1")
      exact ⟨rest, pre ++ [c], rfl, by simp [absI], rfl, by rw [← hp]; simp⟩
    · rintro acc ρ ⟨rest, pre, hx, rfl, rfl, hp⟩
      cases rest with
      | cons c rest => cases hx
      | nil =>
        have hp : pre = ns := by simpa using hp
        subst hp
        (repeat' walk_at "EV1")
        refine w_frzl (get_1 ⟨_, _, rfl, hf, put_1 ?_⟩)
        (repeat' walk_at "EV1")
        first | exact ⟨rfl, rfl⟩ | rfl
  · refine ⟨fun x hx => ?_, by omega, by omega, ?_, by omega⟩
    · obtain ⟨i, hi, rfl⟩ := List.mem_map.mp hx
      obtain ⟨j, hj, rfl⟩ := List.mem_map.mp hi
      refine ⟨_, rfl, ?_⟩
      unfold absI
      split <;> omega
    · simp only [List.length_map]; omega
theorem at_mem {α : Type} {ls : List α} {c : Int} (h0 : 0 ≤ c) (h1 : c < ls.length) : ∃ x, atI ls c = some x ∧ x ∈ ls := by
  obtain ⟨k, rfl⟩ := Int.eq_ofNat_of_zero_le h0
  have hk : k < ls.length := by omega
  exact ⟨ls[k], atI_nat' (List.getElem?_eq_getElem hk), List.getElem_mem hk⟩
section
variable {cells : List D} {o : Bool} {a r s t n : Int} {E : Exc → List (Option D) → Prop} {Q : D → List (Option D) → Prop}
theorem row_ok {ds : List Nat} {m : Int} (h : OkH cells a r s t n) (hn : 64 ≤ n) (hd1 : ∀ c ∈ ds, 97 ≤ c ∧ c ≤ 122) (hd2 : 1 ≤ ds.length) (hd3 : ds.length ≤ 26) (hm : 0 ≤ m) (hm7 : m ≤ 60)
    (q : ∀ row a' r' s' t', Let row → row.length = m.toNat → OkH cells a' r' s' t' (n - m) → Q (.str row) [some (hd o cells a' r' s' t'), some (.str ds), some (.int m)]) : WF (g__law_row [hd o cells a r s t, .str ds, .int m]) E Q := by
  refine wf_run (ρ := [some (hd o cells a r s t), some (.str ds), some (.int m), none, none]) rfl rfl ?_
  unfold b__law_row
  have ha : ds.all (· < 128) = true := List.all_eq_true.mpr fun c hc => decide_eq_true (by have := hd1 c hc; omega)
  have hu : ds.length ≤ 5592405 := by omega
  have hs1 : ds.length + (ds.map up1).length ≤ 16777216 := by rw [List.length_map]; omega
  have hL : (ds ++ ds.map up1).length ≤ 16777216 := by rw [List.length_append]; exact hs1
  have hL2 : (ds ++ ds.map up1).length ≤ 1000 := by rw [List.length_append, List.length_map]; omega
  have hL1 : 1 ≤ (ds ++ ds.map up1).length := by rw [List.length_append, List.length_map]; omega
  have hlet : Let (ds ++ ds.map up1) := fun c hc => by
    rcases List.mem_append.mp hc with hc | hc
    · exact .inr (hd1 c hc)
    · obtain ⟨d, hdm, rfl⟩ := List.mem_map.mp hc
      have := hd1 d hdm
      unfold isLet up1
      rw [if_pos (by omega)]
      omega
  (repeat' walk_at "EV1")
  generalize ds ++ ds.map up1 = ls at hL hL2 hL1 hlet ⊢
  (repeat' walk_at "EV1")
  refine lc_inv (fun xs acc ρ => ∃ (k : Nat) (row : List Nat) (a' r' s' t' : Int), xs = rng k (m.toNat - k) ∧ k ≤ m.toNat ∧ acc = row.map ch ∧ row.length = k ∧ Let row ∧ OkH cells a' r' s' t' (n - k) ∧ ρ = [some (hd o cells a' r' s' t'), some (.str ds), some (.int m), some (.str ls), none]) ?_ ?_ _ _ _ ?_
  · rintro x xs acc ρ ⟨k, row, a', r', s', t', hx, hk, rfl, hlr, hr, hO, rfl⟩
    obtain ⟨j, hj⟩ : ∃ j, m.toNat - k = j := ⟨_, rfl⟩
    rw [hj] at hx
    cases j with
    | zero => cases hx
    | succ j =>
    rw [rng_succ] at hx
    obtain ⟨rfl, rfl⟩ := List.cons.inj hx
    have hlen : (row.map ch).length < 16777216 := by rw [List.length_map]; omega
    (repeat' (first | ((with_reducible refine draw_ok (by assumption) (by omega) (by omega) (by omega) (fun c a1 r1 s1 t1 hc0 hc1 hk1 => ?_))) | walk_at "EV1"))
    obtain ⟨x, hx1, hx2⟩ := at_mem (ls := ls) hc0 hc1
    refine wo_ixs hL hx1 ?_
    refine ⟨hlen, k + 1, row ++ [x], a1, r1, s1, t1, ?_, by omega, by simp, by simp [hlr], let_app hr (let_one (hlet x hx2)), hk1.mono (by omega), rfl⟩
    rw [show m.toNat - (k + 1) = j by omega]
  · rintro acc ρ ⟨k, row, a', r', s', t', hx, hk, rfl, hlr, hr, hO, rfl⟩
    have hk2 : m.toNat - k = 0 := by
      cases hj : m.toNat - k with
      | zero => rfl
      | succ j => rw [hj, rng_succ] at hx; cases hx
    have hj : joinM [] [.lst true (row.map ch)] = some (.str row) := join_ch (by omega)
    (repeat' walk_at "EV1")
    exact q row a' r' s' t' hr (by omega) (hO.mono (by omega))
  · exact ⟨0, [], a, r, s, t, rfl, by omega, rfl, rfl, let_nil, h.mono (by omega), rfl⟩
end
theorem pick_int {l : List Int} {m c : Int} (h : ∀ x ∈ l, 0 ≤ x ∧ x ≤ m) (h0 : 0 ≤ c) (h1 : c < (l.map D.int).length) : ∃ v, atI (l.map D.int) c = some (.int v) ∧ 0 ≤ v ∧ v ≤ m := by
  obtain ⟨x, hx, hm⟩ := at_mem h0 h1
  obtain ⟨v, hv, rfl⟩ := List.mem_map.mp hm
  exact ⟨v, hx, h v hv⟩
section
variable {cells : List D} {o : Bool} {a r s t n : Int} {E : Exc → List (Option D) → Prop} {Q : D → List (Option D) → Prop}
theorem deeds_ok (h : OkH cells a r s t n) (hn : 10 ≤ n)
    (q : ∀ ds a' r' s' t', (∀ c ∈ ds, 97 ≤ c ∧ c ≤ 122) → 1 ≤ ds.length → ds.length ≤ 3 → OkH cells a' r' s' t' (n - 10) → Q (.str ds) [some (hd o cells a' r' s' t'), some (.int 3)]) : WF (g__law_deeds [hd o cells a r s t, .int 3]) E Q := by
  refine wf_run (ρ := [some (hd o cells a r s t), some (.int 3), none, none, none, none, none]) rfl rfl ?_
  unfold b__law_deeds
  (repeat' (first | ((with_reducible refine draw_ok (by assumption) (by omega) (by omega) (by omega) (fun c a1 r1 s1 t1 hc0 hc1 hk1 => ?_))) | walk_at "EV1"))
  refine for_inv (fun xs ρ => ∃ (k : Nat) (found rest : List Nat) (a' r' s' t' : Int) (x y : Option D), xs = rng k ((1 + c).toNat - k) ∧ k ≤ (1 + c).toNat ∧ found.length = k ∧ (∀ c ∈ found, 97 ≤ c ∧ c ≤ 122) ∧ (∀ c ∈ rest, 97 ≤ c ∧ c ≤ 122) ∧ (1 + c).toNat - k ≤ rest.length ∧ rest.length ≤ 26 ∧ OkH cells a' r' s' t' (n - 1 - k) ∧ ρ = [some (hd o cells a' r' s' t'), some (.int 3), some (.int (1 + c)), some (.str found), some (.str rest), x, y]) ?_ ?_ _ _ ?_
  · rintro x xs ρ ⟨k, found, rest, a', r', s', t', y, z, hx, hk, hf, hf1, hr1, hr2, hr3, hO, rfl⟩
    obtain ⟨j, hj⟩ : ∃ j, (1 + c).toNat - k = j := ⟨_, rfl⟩
    rw [hj] at hx
    cases j with
    | zero => cases hx
    | succ j =>
    rw [rng_succ] at hx
    obtain ⟨rfl, rfl⟩ := List.cons.inj hx
    (repeat' (first | ((with_reducible refine draw_ok (by assumption) (by omega) (by omega) (by omega) (fun d a2 r2 s2 t2 hd0 hd1 hk2 => ?_))) | walk_at "EV1"))
    obtain ⟨x, hx1, hx2⟩ := at_mem (ls := rest) hd0 (by omega)
    refine wo_ixs (by omega) hx1 ?_
    have hfl : found.length + [x].length ≤ 16777216 := by simp; omega
    have hcut : cutL rest (some (d + 1)) none = rest.drop (d.toNat + 1) := by
      rw [show d + 1 = ((d.toNat + 1 : Nat) : Int) by omega]
      exact cut_from (by omega)
    (repeat' walk_at "EV1")
    refine ⟨k + 1, found ++ [x], rest.drop (d.toNat + 1), a2, r2, s2, t2, _, _, ?_, by omega, by simp [hf], ?_, ?_, ?_, ?_, hk2.mono (by omega), by rw [hcut]⟩
    · rw [show (1 + c).toNat - (k + 1) = j by omega]
    · intro c' hc'
      rcases List.mem_append.mp hc' with h | h
      · exact hf1 c' h
      · rw [List.mem_singleton.mp h]; exact hr1 x hx2
    · exact fun c' hc' => hr1 c' (List.mem_of_mem_drop hc')
    · rw [List.length_drop]; omega
    · rw [List.length_drop]; omega
  · rintro ρ ⟨k, found, rest, a', r', s', t', y, z, hx, hk, hf, hf1, hr1, hr2, hr3, hO, rfl⟩
    have hk2 : (1 + c).toNat - k = 0 := by
      cases hj : (1 + c).toNat - k with
      | zero => rfl
      | succ j => rw [hj, rng_succ] at hx; cases hx
    (repeat' walk_at "EV1")
    exact q found a' r' s' t' hf1 (by omega) (by omega) (hO.mono (by omega))
  · exact ⟨0, [], _, a1, r1, s1, t1, none, none, rfl, by omega, rfl, by simp, by decide, by simp; omega, by decide, hk1.mono (by omega), rfl⟩
end
end K02
namespace K02
open PySem PySem.Spec PyProof.Rows L2 Eng Words
theorem str_ok {s : List Nat} (h : Let s) : PyData.strOk (S s) = true := by
  unfold PyData.strOk S
  rw [Array.all_toList.symm]
  refine List.all_eq_true.mpr fun c hc => ?_
  have := h c hc
  unfold isLet at this
  exact decide_eq_true (by omega)
theorem pair_can {s : List Nat} {i : Int} (h : Let s) : (toPy (.tup [.str s, .int i])).canLay0 = true := by
  show (PyData.strOk (S s) && (true && true)) = true
  rw [str_ok h]; rfl
theorem pair_shaped {s : List Nat} {i : Int} (h : Let s) : SeqAt.shaped (toPy (.tup [.str s, .int i])) = true := by
  unfold SeqAt.shaped
  rw [pair_can h]; rfl
theorem pair_eq {s : List Nat} {i : Int} (h : Let s) : eqD (.tup [.str s, .int i]) (.tup [.str s, .int i]) = some (.bl true) := by
  show (if SeqAt.shaped (toPy (.tup [.str s, .int i])) && SeqAt.shaped (toPy (.tup [.str s, .int i])) then some (D.bl (PyData.eqv (toPy (.tup [.str s, .int i])) (toPy (.tup [.str s, .int i])))) else none) = _
  rw [pair_shaped h, SeqAt.eqv_refl _ (pair_can h)]; rfl
theorem pair_ne {s : List Nat} {i : Int} (h : Let s) : neD (.tup [.str s, .int i]) (.tup [.str s, .int i]) = some (.bl false) := by
  show (if SeqAt.shaped (toPy (.tup [.str s, .int i])) && SeqAt.shaped (toPy (.tup [.str s, .int i])) then some (D.bl !(PyData.eqv (toPy (.tup [.str s, .int i])) (toPy (.tup [.str s, .int i])))) else none) = _
  rw [pair_shaped h, SeqAt.eqv_refl _ (pair_can h)]; rfl
abbrev rrT : MS := (sSeq (sSet 6 (eCall g__law_net (aVal (eVar 4) aNil))) (sSeq (sSet 7 (eCall g__law_asked (aVal (eVar 4) aNil))) (sFrz 7 (sSeq (sIf (mB (eOp eqD (eVar 6) (eK (.str [])))) (sRet (eOp eqD (eVar 7) (eK (.str [110, 111, 110, 101])))) sNext) (sSeq (sIf (mOr (mNot (mB (eFn isiD (lCons (eVar 7) (lCons (eK (.ty "tuple")) lNil))))) (mOr (mB (eOp neD (eVar 7) (eCall g__law_root (aVal (eVar 6) aNil)))) (mB (eFn isiD (lCons (eOp idxD (eVar 7) (eK (.int 1))) (lCons (eK (.ty "bool")) lNil)))))) (sRet (eK (.bl false))) sNext) (sRet (eBo (mAnd (mB (eOp eqD (eCall g_power (aVal (eOp idxD (eVar 7) (eK (.int 0))) (aVal (eOp idxD (eVar 7) (eK (.int 1))) aNil))) (eVar 6))) (mAnd (mB (eOp eqD (eCall g_net (aVal (eOp idxD (eVar 7) (eK (.int 0))) aNil)) (eOp idxD (eVar 7) (eK (.int 0))))) (mB (eOp eqD (eCall g_root (aVal (eOp idxD (eVar 7) (eK (.int 0))) aNil)) (eTup (lCons (eOp idxD (eVar 7) (eK (.int 0))) (lCons (eK (.int 1)) lNil))))))))))))))
section
variable {x0 x1 x2 x3 x5 : Option D} {R : Out → Prop}
theorem rrT_ok {row : List Nat} (h : Let row) (hl : row.length ≤ 400) (q : ∀ ρ : Rho, ρ.take 2 = [x0, x1] → R (.rt (.bl true) ρ)) : WS rrT [x0, x1, x2, x3, some (.str row), x5, none, none] R := by
  unfold rrT
  have hn := net_law h (show row.length ≤ 1000000 by omega)
  by_cases h0 : nf row = []
  · rw [h0] at hn
    have hq : eqD (.str []) (.str []) = some (.bl true) := rfl
    have hq2 : eqD (.str [110, 111, 110, 101]) (.str [110, 111, 110, 101]) = some (.bl true) := rfl
    (repeat' (first | with_reducible refine wf_of (hn) ?_ | with_reducible refine wf_of (asked_no h (by omega) h0) ?_ | ((with_reducible apply wo); (exact hq)) | ((with_reducible apply wo); (exact hq2)) | walk_at "EV1"))
    first | exact q _ rfl | trace_state
  · have hr := red_nf row
    have hnl := nf_len row
    have hLw := let_nf h
    obtain ⟨k, _, hE, hX⟩ := bent_ok hLw (show (nf row).length ≤ 1000000 by omega)
    obtain ⟨p, t, R⟩ := rt_ex hr h0 hE hX
    have hask := asked_yes h (show row.length ≤ 1000 by omega) R
    have hlr := lroot_ok hLw (by omega) R hr
    have hLf : Let (fnd (nf row) k p) := let_fnd hLw
    have hfl := fnd_len R R.ple
    have hk2 := R.k2
    have ht0 := R.t0
    have hp0 := R.p0
    have htp : t ≤ t * p := Nat.le_mul_of_pos_right t hp0
    have hpt : p ≤ t * p := Nat.le_mul_of_pos_left p ht0
    have hfr := rt_red R hr
    have hpw := power_ok (s := fnd (nf row) k p) (t := (t : Int)) hLf (by omega) (by omega) (by omega)
    rw [← nf_rep, rt_yes R hr] at hpw
    have hnf := net_ok hLf (by omega)
    have hnn := nf_of_red hfr
    have R2 := rt_self R hr
    rw [← hnn] at R2
    have hro := root_ok hLf (by omega) R2
    have hself := fnd_self R
    rw [hnn] at hnf R2 hro
    rw [hself] at hro
    have e0 : eqD (.str (nf row)) (.str []) = some (.bl false) := by
      show some (D.bl (decide (nf row = []))) = _
      rw [decide_eq_false h0]
    have e1 := pair_ne (i := (t : Int)) hLf
    have e2 := pair_eq (i := ((1 : Nat) : Int)) hLf
    have i1 : isiD [.tup [.str (fnd (nf row) k p), .int t], .ty "tuple"] = some (.bl true) := by
      show (kitB "tuple" "tuple").map D.bl = _
      rw [show kitB "tuple" "tuple" = some true by decide +kernel]; rfl
    have i2 : isiD [.int t, .ty "bool"] = some (.bl false) := by
      show (kitB "int" "bool").map D.bl = _
      rw [show kitB "int" "bool" = some false by decide +kernel]; rfl
    have hf : (D.tup [.str (fnd (nf row) k p), .int t]).frz = true := rfl
    generalize fnd (nf row) k p = fd at *
    have e3 : eqD (.str fd) (.str fd) = some (.bl true) := by
      show some (D.bl (decide (fd = fd))) = _
      rw [decide_eq_true rfl]
    have e4 : eqD (.str (nf row)) (.str (nf row)) = some (.bl true) := by
      show some (D.bl (decide (nf row = nf row))) = _
      rw [decide_eq_true rfl]
    (repeat' (first | with_reducible refine wf_of (hn) ?_ | with_reducible refine wf_of (hask) ?_ | ((with_reducible apply wo); (exact e0)) | ((with_reducible apply wo); (exact i1)) | with_reducible refine wf_of (hlr) ?_ | ((with_reducible apply wo); (exact e1)) | ((with_reducible apply wo); (exact i2)) | with_reducible refine wf_of (hpw) ?_ | ((with_reducible apply wo); (exact e3)) | ((with_reducible apply wo); (exact e4)) | with_reducible refine wf_of (hnf) ?_ | with_reducible refine wf_of (hro) ?_ | ((with_reducible apply wo); (exact e2)) | walk_at "EV1"))
    first | exact q _ rfl | trace_state
end
end K02
namespace K02
open PySem PySem.Spec PyProof.Rows L2 Eng Words
theorem pick2 {ρ : Rho} {x y : Option D} (h : ρ.take 2 = [x, y]) : pick [0, 1] 0 2 ρ = [x, y] := by
  match ρ, h with
  | a :: b :: r, h =>
    simp at h
    obtain ⟨rfl, rfl⟩ := h
    rfl
theorem comp_ok {b i : List Nat} {k : Nat} (hb : Let b) (hbl : b.length ≤ 3) (hi : Let i) (hk : i.length * k ≤ 300) : b.length + (List.replicate k i).flatten.length ≤ 16777216 ∧ (b ++ (List.replicate k i).flatten).length + (back b).length ≤ 16777216 ∧
    Let (b ++ (List.replicate k i).flatten ++ back b) ∧ (b ++ (List.replicate k i).flatten ++ back b).length ≤ 400 := by
  have e := rep_length i k
  rw [Nat.mul_comm] at hk
  refine ⟨by omega, by rw [List.length_append, back_len]; omega, let_app (let_app hb (rep_let hi k)) (let_back hb), by rw [List.length_append, List.length_append, back_len]; omega⟩
section
variable {cells : List D} {o : Bool} {a r s t n : Int} {E : Exc → List (Option D) → Prop} {Q : D → List (Option D) → Prop}
theorem rr_ok {ds : List Nat} (h : OkH cells a r s t n) (hn : 300 ≤ n) (hd1 : ∀ c ∈ ds, 97 ≤ c ∧ c ≤ 122) (hd2 : 1 ≤ ds.length) (hd3 : ds.length ≤ 26)
    (q : ∀ a' r' s' t', OkH cells a' r' s' t' (n - 200) → Q (.bl true) [some (hd o cells a' r' s' t'), some (.str ds)]) : WF (g__law_roots_right [hd o cells a r s t, .str ds]) E Q := by
  refine wf_run (ρ := [some (hd o cells a r s t), some (.str ds), none, none, none, none, none, none]) rfl rfl ?_
  unfold b__law_roots_right
  (repeat' (first | ((with_reducible refine draw_ok (by assumption) (by omega) (by omega) (by omega) (fun c a1 r1 s1 t1 hc0 hc1 hk1 => ?_))) | ((with_reducible refine row_ok (by assumption) (by omega) hd1 hd2 hd3 (by omega) (by omega) (fun lt a2 r2 s2 t2 hl1 hl2 hk2 => ?_))) | walk_at "EV1"))
  rename_i ci _ _ _ _ hci0 hci1 _ li _ _ _ _ hLi hli _ cb _ _ _ _ hcb0 hcb1 _
  have hb3 : lt.length ≤ 3 := by omega
  have hbk := back_law hl1 (show lt.length ≤ 1000000 by omega)
  have m1 : li.length * (1 + c).toNat ≤ 100 := Nat.le_trans (Nat.mul_le_mul (show li.length ≤ 4 by omega) (show (1 + c).toNat ≤ 13 by omega)) (by decide)
  have m2 : li.length * (1 + c).toNat ≤ 16777216 := by omega
  obtain ⟨w1, w2, w3, w4⟩ := comp_ok hl1 hb3 hLi (k := (1 + c).toNat) (by omega)
  have fin : ∀ (y4 y5 y6 y7 : Option D) (row : List Nat) (a' r' s' t' : Int), Let row → row.length ≤ 400 → OkH cells a' r' s' t' (n - 200) → WS rrT [some (hd o cells a' r' s' t'), some (.str ds), y4, y5, some (.str row), y6, none, none] (Eng.Fin [0, 1] 2 E Q) := fun y4 y5 y6 y7 row a' r' s' t' hr hrl hO =>
    rrT_ok hr hrl fun ρ hρ => by
      refine fn_rt rfl ?_
      rw [pick2 hρ]
      exact q _ _ _ _ hO
  (repeat' (first | ((with_reducible refine wo_muls ⟨by omega, by omega⟩ m2 ?_)) | with_reducible refine wf_of (hbk) ?_ | ((with_reducible refine draw_ok (by assumption) (by omega) (by omega) (by omega) (fun c a1 r1 s1 t1 hc0 hc1 hk1 => ?_))) | (with_reducible exact fin _ _ _ none _ _ _ _ _ (by assumption) (by first | assumption | omega) (OkH.mono (by assumption) (by omega))) | ((with_reducible refine row_ok (by assumption) (by omega) hd1 hd2 hd3 (by omega) (by omega) (fun l2 a2 r2 s2 t2 hl3 hl4 hk2 => ?_))) | walk_at "EV1"))
  · exfalso; omega
  · have h2l : 1 ≤ l2.length := by omega
    have hl9 : l2.length ≤ 9 := by omega
    have hnn : ((200 - 2 * (lt.length : Int)) / (l2.length : Int)) = (((200 - 2 * lt.length) / l2.length : Nat) : Int) := by
      rw [show (200 - 2 * (lt.length : Int)) = ((200 - 2 * lt.length : Nat) : Int) by omega]; rfl
    have hm : l2.length * ((200 - 2 * lt.length) / l2.length) ≤ 200 - 2 * lt.length := Nat.mul_div_le _ _
    have hd : (200 - 2 * lt.length) / l2.length ≤ 200 - 2 * lt.length := Nat.div_le_self _ _
    rw [hnn]
    generalize (200 - 2 * lt.length) / l2.length = kk at hm hd
    have m3 : l2.length * ((kk : Nat) : Int).toNat ≤ 16777216 := by
      have e : ((kk : Nat) : Int).toNat = kk := rfl
      rw [e]; omega
    obtain ⟨v1, v2, v3, v4⟩ := comp_ok hl1 hb3 hl3 (k := ((kk : Nat) : Int).toNat) (by have e : ((kk : Nat) : Int).toNat = kk := rfl; rw [e]; omega)
    (repeat' (first | ((with_reducible refine wo_muls ⟨by omega, by omega⟩ m3 ?_)) | with_reducible refine wf_of (hbk) ?_ | (with_reducible exact fin _ _ _ none _ _ _ _ _ (by assumption) (by first | assumption | omega) (OkH.mono (by assumption) (by omega))) | walk_at "EV1"))
end
theorem Pw_one_a : Rt [97] 0 1 1 where
  en := ⟨by decide, fun i hi => absurd hi (by omega)⟩
  far := fun c d h => absurd h (by decide)
  p0 := by decide
  t0 := by decide
  len := rfl
  k2 := rfl
  per := per_len [97]
  min := fun q h1 h2 => absurd h2 (by omega)
theorem law_ok {ns : List Int} (h : ns.length ≤ 63) : WF (g_law [.scr ns]) (fun _ _ => False) (fun d ps => d = .bl true) := by
  obtain ⟨cells, hh, hO⟩ := hand_ok h
  refine wf_run (ρ := [some (.scr ns), none, none, none, none, none, none, none, none]) rfl rfl ?_
  unfold b_law
  (repeat' (first | with_reducible refine wf_of (hh) ?_ | ((with_reducible refine deeds_ok (by assumption) (by omega) (fun ds a2 r2 s2 t2 hd1 hd2 hd3 hk2 => ?_))) | walk_at "EV1"))
  have hd3 : ds.length ≤ 26 := by omega
  refine for_inv (fun xs ρ => ∃ (k : Nat) (a r s t : Int) (y3 : Option D), xs = rng k (3 - k) ∧ k ≤ 3 ∧ (y3 = none ∨ ∃ i : Int, y3 = some (.int i)) ∧ OkH cells a r s t (10000 - 1000 * k) ∧ ρ = [some (.scr ns), some (hd false cells a r s t), some (.str ds), y3, none, none, none, none, none]) ?_ ?_ _ _ ?_
  · rintro x xs ρ ⟨k, a, r, s, t, y3, hx, hk, hy3, hO2, rfl⟩
    obtain ⟨j, hj⟩ : ∃ j, 3 - k = j := ⟨_, rfl⟩
    rw [hj] at hx
    cases j with
    | zero => cases hx
    | succ j =>
    rw [rng_succ] at hx
    obtain ⟨rfl, rfl⟩ := List.cons.inj hx
    (repeat' (first | ((with_reducible refine rr_ok (by assumption) (by omega) hd1 hd2 hd3 (fun a3 r3 s3 t3 hk3 => ?_))) | walk_at "EV1"))
    exact ⟨k + 1, a3, r3, s3, t3, _, by rw [show 3 - (k + 1) = j by omega], by omega, .inr ⟨_, rfl⟩, hk3.mono (by omega), rfl⟩
  · rintro ρ ⟨k, a, r, s, t, y3, hx, hk, hy3, hO2, rfl⟩
    rcases hy3 with rfl | ⟨i3, rfl⟩
    all_goals (repeat' (first | ((with_reducible refine draw_ok (by assumption) (by omega) (by omega) (by omega) (fun c a1 r1 s1 t1 hc0 hc1 hk1 => ?_))) | ((with_reducible refine row_ok (by assumption) (by omega) hd1 hd2 hd3 (by omega) (by omega) (fun lt a2 r2 s2 t2 hl1 hl2 hk2 => ?_))) | walk_at "EV1"))
    all_goals
      have hlt3 : lt.length ≤ 3 := by omega
      have hlt := hl1
      clear hl1
      refine lc_inv (fun xs acc ρ => ∃ (k2 : Nat) (rows : List (List Nat)) (a' r' s' t' : Int), xs = rng k2 (6 - k2) ∧ k2 ≤ 6 ∧ acc = rows.map D.str ∧ rows.length = k2 ∧ (∀ z ∈ rows, Let z ∧ z.length ≤ 10) ∧ OkH cells a' r' s' t' (5000 - 100 * k2) ∧ ρ = [some (.scr ns), some (hd false cells a' r' s' t'), some (.str ds), none, some (.str lt), none, none, none, none]) ?_ ?_ _ _ _ ?_
      · rintro x xs acc ρ ⟨k2, rows, a', r', s', t', hx2, hk2', rfl, hrl, hrw, hO3, rfl⟩
        obtain ⟨j, hj⟩ : ∃ j, 6 - k2 = j := ⟨_, rfl⟩
        rw [hj] at hx2
        cases j with
        | zero => cases hx2
        | succ j =>
        rw [rng_succ] at hx2
        obtain ⟨rfl, rfl⟩ := List.cons.inj hx2
        have hlen : (rows.map D.str).length < 16777216 := by rw [List.length_map]; omega
        (repeat' (first | ((with_reducible refine draw_ok (by assumption) (by omega) (by omega) (by omega) (fun c a1 r1 s1 t1 hc0 hc1 hk1 => ?_))) | ((with_reducible refine row_ok (by assumption) (by omega) hd1 hd2 hd3 (by omega) (by omega) (fun l3 a3 r3 s3 t3 hl3 hl4 hk4 => ?_))) | walk_at "EV1"))
        refine ⟨k2 + 1, rows ++ [lt ++ l3], a3, r3, s3, t3, by rw [show 6 - (k2 + 1) = j by omega], by omega, by simp, by simp [hrl], ?_, hk4.mono (by omega), rfl⟩
        intro z hz
        rcases List.mem_append.mp hz with hz | hz
        · exact hrw z hz
        · rw [List.mem_singleton.mp hz]
          exact ⟨let_app hlt hl3, by rw [List.length_append]; omega⟩
      · rintro acc ρ ⟨k2, rows, a', r', s', t', hx2, hk2', rfl, hrl, hrw, hO3, rfl⟩
        have hf : frzs (rows.map D.str) = true := by
          generalize rows = l
          induction l with
          | nil => rfl
          | cons a l ih => show (true && frzs (l.map D.str)) = true; rw [ih]; rfl
        have hg : (D.lst false (rows.map D.str)).frz = true := hf
        have hi : itD (.lst false (rows.map D.str)) = some (rows.map D.str) := by show some (freezes _) = _; rw [freezes_frz _ hf]
        (repeat' (first | ((with_reducible refine w_frzl ?_); (with_reducible refine get_5 ?_); (with_reducible refine ⟨_, _, rfl, hf, ?_⟩); (with_reducible refine put_5 ?_)) | ((with_reducible apply wo); (exact hi)) | walk_at "EV1"))
        refine for_inv (fun xs ρ => ∃ (z3 x6 x7 x8 : Option D) (rest : List (List Nat)), xs = rest.map D.str ∧ (∀ z ∈ rest, Let z ∧ z.length ≤ 10) ∧ ρ = [some (.scr ns), some (hd false cells a' r' s' t'), some (.str ds), z3, some (.str lt), some (.lst false (rows.map D.str)), x6, x7, x8]) ?_ ?_ _ _ ?_
        · rintro x xs ρ ⟨z3, x6, x7, x8, rest, hx3, hz, rfl⟩
          cases rest with
          | nil => cases hx3
          | cons w rest =>
          cases hx3
          obtain ⟨hw1, hw2⟩ := hz w (by simp)
          (repeat' (first | ((with_reducible apply wo); (exact hi)) | walk_at "EV1"))
          refine for_inv (fun xs ρ => ∃ (x7 x8 : Option D) (rest2 : List (List Nat)), xs = rest2.map D.str ∧ (∀ z ∈ rest2, Let z ∧ z.length ≤ 10) ∧ ρ = [some (.scr ns), some (hd false cells a' r' s' t'), some (.str ds), z3, some (.str lt), some (.lst false (rows.map D.str)), some (.str w), x7, x8]) ?_ ?_ _ _ ?_
          · rintro x xs ρ ⟨x7, x8, rest2, hx3, hz2, rfl⟩
            cases rest2 with
            | nil => cases hx3
            | cons u rest2 =>
            cases hx3
            obtain ⟨hu1, hu2⟩ := hz2 u (by simp)
            have he := earlier_ok hw1 (by omega) hu1 (by omega)
            have hle := learl_ok hw1 (by omega) hu1 (by omega)
            generalize earl w.length u.length (keys w) (keys u) = b at he hle
            have hne : neD (.bl b) (.bl b) = some (.bl false) := by
              show some (D.bl (!decide (b = b))) = _
              rw [decide_eq_true rfl]; rfl
            have hib : isiD [.bl b, .ty "bool"] = some (.bl true) := by
              show (kitB "bool" "bool").map D.bl = _
              rw [show kitB "bool" "bool" = some true by decide +kernel]; rfl
            (repeat' (first | with_reducible refine wf_of (he) ?_ | with_reducible refine wf_of (hle) ?_ | ((with_reducible apply wo); (exact hib)) | ((with_reducible apply wo); (exact hne)) | walk_at "EV1"))
            exact ⟨_, _, rest2, rfl, fun z h => hz2 z (by simp [h]), rfl⟩
          · rintro ρ ⟨x7, x8, rest2, hx3, hz2, rfl⟩
            exact ⟨_, _, _, _, rest, rfl, fun z h => hz z (by simp [h]), rfl⟩
          · exact ⟨_, _, rows, rfl, hrw, rfl⟩
        · rintro ρ ⟨z3, x6, x7, x8, rest, hx3, hz, rfl⟩
          have hLa : Let [97] := let_one (.inr (by omega))
          have hna : nf [97] = [97] := rfl
          have hra := root_ok (s := [97]) hLa (by simp) (by rw [hna]; exact Pw_one_a)
          have hea := pair_eq (s := [97]) (i := ((1 : Nat) : Int)) hLa
          have hfa : fnd (nf [97]) 0 1 = [97] := rfl
          rw [hfa] at hra
          (repeat' (first | with_reducible refine wf_of (hra) ?_ | ((with_reducible apply wo); (exact hea)) | walk_at "EV1"))
          all_goals rfl
        · exact ⟨_, _, _, _, rows, rfl, hrw, rfl⟩
      · exact ⟨0, [], _, _, _, _, rfl, by omega, rfl, rfl, by simp, OkH.mono (by assumption) (by omega), rfl⟩
  · exact ⟨0, _, _, _, _, none, rfl, by omega, .inl rfl, hk2.mono (by omega), rfl⟩
theorem promise : ∀ ns : List Int, ns.length ≤ 63 → ∃ ps, g_law [.scr ns] = .ok (.bl true) ps := fun ns h => by
  have k := law_ok h
  unfold WF at k
  split at k
  · subst k; exact ⟨_, by assumption⟩
  · exact k.elim
  · exact k.elim
end K02
namespace K02
open PySem PySem.Spec PyProof.Rows L2 Eng
theorem all_mk {l : PySem.W.OpenLaw} {w : World} {K : PySem.W.Frag} {h : Heap} {mg : Str → Option Value} {fa : Addr} (X : K.In h) (G : h.Ns mainGlobals mg) (hfa : mg "law" = some (.ref fa))
    {p0 : Addr} {oc0 kv0 dc0 pm0 cd0 ct0 : Value} {od0 an0 : Option Addr} {sl0 : Array (Option Value)} (a0 : PySem.W.nsIn K mainGlobals "_law_hand" = some (some (.ref p0))) (l0 : K.lookup p0 = some ⟨oc0, od0, .func (PySem.W.fnOf "_law_hand" "_law_hand" (defArgs t__law_hand) (defBody t__law_hand) (defScope t__law_hand) .none kv0 dc0 pm0 an0 cd0 ct0), sl0⟩) (c0 : PySem.W.codeIn K cd0 "_law_hand" = true) (k0 : PySem.W.keepIn K (.ref p0) = true)
    {p1 : Addr} {oc1 kv1 dc1 pm1 cd1 ct1 : Value} {od1 an1 : Option Addr} {sl1 : Array (Option Value)} (a1 : PySem.W.nsIn K mainGlobals "_law_draw" = some (some (.ref p1))) (l1 : K.lookup p1 = some ⟨oc1, od1, .func (PySem.W.fnOf "_law_draw" "_law_draw" (defArgs t__law_draw) (defBody t__law_draw) (defScope t__law_draw) .none kv1 dc1 pm1 an1 cd1 ct1), sl1⟩) (c1 : PySem.W.codeIn K cd1 "_law_draw" = true) (k1 : PySem.W.keepIn K (.ref p1) = true)
    {p2 : Addr} {oc2 kv2 dc2 pm2 cd2 ct2 : Value} {od2 an2 : Option Addr} {sl2 : Array (Option Value)} (a2 : PySem.W.nsIn K mainGlobals "_law_deeds" = some (some (.ref p2))) (l2 : K.lookup p2 = some ⟨oc2, od2, .func (PySem.W.fnOf "_law_deeds" "_law_deeds" (defArgs t__law_deeds) (defBody t__law_deeds) (defScope t__law_deeds) .none kv2 dc2 pm2 an2 cd2 ct2), sl2⟩) (c2 : PySem.W.codeIn K cd2 "_law_deeds" = true) (k2 : PySem.W.keepIn K (.ref p2) = true)
    {p3 : Addr} {oc3 kv3 dc3 pm3 cd3 ct3 : Value} {od3 an3 : Option Addr} {sl3 : Array (Option Value)} (a3 : PySem.W.nsIn K mainGlobals "_law_row" = some (some (.ref p3))) (l3 : K.lookup p3 = some ⟨oc3, od3, .func (PySem.W.fnOf "_law_row" "_law_row" (defArgs t__law_row) (defBody t__law_row) (defScope t__law_row) .none kv3 dc3 pm3 an3 cd3 ct3), sl3⟩) (c3 : PySem.W.codeIn K cd3 "_law_row" = true) (k3 : PySem.W.keepIn K (.ref p3) = true)
    {p4 : Addr} {oc4 kv4 dc4 pm4 cd4 ct4 : Value} {od4 an4 : Option Addr} {sl4 : Array (Option Value)} (a4 : PySem.W.nsIn K mainGlobals "_law_undoing" = some (some (.ref p4))) (l4 : K.lookup p4 = some ⟨oc4, od4, .func (PySem.W.fnOf "_law_undoing" "_law_undoing" (defArgs t__law_undoing) (defBody t__law_undoing) (defScope t__law_undoing) .none kv4 dc4 pm4 an4 cd4 ct4), sl4⟩) (c4 : PySem.W.codeIn K cd4 "_law_undoing" = true) (k4 : PySem.W.keepIn K (.ref p4) = true)
    {p5 : Addr} {oc5 kv5 dc5 pm5 cd5 ct5 : Value} {od5 an5 : Option Addr} {sl5 : Array (Option Value)} (a5 : PySem.W.nsIn K mainGlobals "_law_back" = some (some (.ref p5))) (l5 : K.lookup p5 = some ⟨oc5, od5, .func (PySem.W.fnOf "_law_back" "_law_back" (defArgs t__law_back) (defBody t__law_back) (defScope t__law_back) .none kv5 dc5 pm5 an5 cd5 ct5), sl5⟩) (c5 : PySem.W.codeIn K cd5 "_law_back" = true) (k5 : PySem.W.keepIn K (.ref p5) = true)
    {p6 : Addr} {oc6 kv6 dc6 pm6 cd6 ct6 : Value} {od6 an6 : Option Addr} {sl6 : Array (Option Value)} (a6 : PySem.W.nsIn K mainGlobals "_law_net" = some (some (.ref p6))) (l6 : K.lookup p6 = some ⟨oc6, od6, .func (PySem.W.fnOf "_law_net" "_law_net" (defArgs t__law_net) (defBody t__law_net) (defScope t__law_net) .none kv6 dc6 pm6 an6 cd6 ct6), sl6⟩) (c6 : PySem.W.codeIn K cd6 "_law_net" = true) (k6 : PySem.W.keepIn K (.ref p6) = true)
    {p7 : Addr} {oc7 kv7 dc7 pm7 cd7 ct7 : Value} {od7 an7 : Option Addr} {sl7 : Array (Option Value)} (a7 : PySem.W.nsIn K mainGlobals "is_string_of" = some (some (.ref p7))) (l7 : K.lookup p7 = some ⟨oc7, od7, .func (PySem.W.fnOf "is_string_of" "is_string_of" (defArgs t_is_string_of) (defBody t_is_string_of) (defScope t_is_string_of) .none kv7 dc7 pm7 an7 cd7 ct7), sl7⟩) (c7 : PySem.W.codeIn K cd7 "is_string_of" = true) (k7 : PySem.W.keepIn K (.ref p7) = true)
    {p8 : Addr} {oc8 kv8 dc8 pm8 cd8 ct8 : Value} {od8 an8 : Option Addr} {sl8 : Array (Option Value)} (a8 : PySem.W.nsIn K mainGlobals "is_row" = some (some (.ref p8))) (l8 : K.lookup p8 = some ⟨oc8, od8, .func (PySem.W.fnOf "is_row" "is_row" (defArgs t_is_row) (defBody t_is_row) (defScope t_is_row) .none kv8 dc8 pm8 an8 cd8 ct8), sl8⟩) (c8 : PySem.W.codeIn K cd8 "is_row" = true) (k8 : PySem.W.keepIn K (.ref p8) = true)
    {p9 : Addr} {oc9 kv9 dc9 pm9 cd9 ct9 : Value} {od9 an9 : Option Addr} {sl9 : Array (Option Value)} (a9 : PySem.W.nsIn K mainGlobals "check_any_row" = some (some (.ref p9))) (l9 : K.lookup p9 = some ⟨oc9, od9, .func (PySem.W.fnOf "check_any_row" "check_any_row" (defArgs t_check_any_row) (defBody t_check_any_row) (defScope t_check_any_row) .none kv9 dc9 pm9 an9 cd9 ct9), sl9⟩) (c9 : PySem.W.codeIn K cd9 "check_any_row" = true) (k9 : PySem.W.keepIn K (.ref p9) = true)
    {p10 : Addr} {oc10 kv10 dc10 pm10 cd10 ct10 : Value} {od10 an10 : Option Addr} {sl10 : Array (Option Value)} (a10 : PySem.W.nsIn K mainGlobals "undoing_of" = some (some (.ref p10))) (l10 : K.lookup p10 = some ⟨oc10, od10, .func (PySem.W.fnOf "undoing_of" "undoing_of" (defArgs t_undoing_of) (defBody t_undoing_of) (defScope t_undoing_of) .none kv10 dc10 pm10 an10 cd10 ct10), sl10⟩) (c10 : PySem.W.codeIn K cd10 "undoing_of" = true) (k10 : PySem.W.keepIn K (.ref p10) = true)
    {p11 : Addr} {oc11 kv11 dc11 pm11 cd11 ct11 : Value} {od11 an11 : Option Addr} {sl11 : Array (Option Value)} (a11 : PySem.W.nsIn K mainGlobals "net_letters" = some (some (.ref p11))) (l11 : K.lookup p11 = some ⟨oc11, od11, .func (PySem.W.fnOf "net_letters" "net_letters" (defArgs t_net_letters) (defBody t_net_letters) (defScope t_net_letters) .none kv11 dc11 pm11 an11 cd11 ct11), sl11⟩) (c11 : PySem.W.codeIn K cd11 "net_letters" = true) (k11 : PySem.W.keepIn K (.ref p11) = true)
    {p12 : Addr} {oc12 kv12 dc12 pm12 cd12 ct12 : Value} {od12 an12 : Option Addr} {sl12 : Array (Option Value)} (a12 : PySem.W.nsIn K mainGlobals "bent" = some (some (.ref p12))) (l12 : K.lookup p12 = some ⟨oc12, od12, .func (PySem.W.fnOf "bent" "bent" (defArgs t_bent) (defBody t_bent) (defScope t_bent) .none kv12 dc12 pm12 an12 cd12 ct12), sl12⟩) (c12 : PySem.W.codeIn K cd12 "bent" = true) (k12 : PySem.W.keepIn K (.ref p12) = true)
    {p13 : Addr} {oc13 kv13 dc13 pm13 cd13 ct13 : Value} {od13 an13 : Option Addr} {sl13 : Array (Option Value)} (a13 : PySem.W.nsIn K mainGlobals "root" = some (some (.ref p13))) (l13 : K.lookup p13 = some ⟨oc13, od13, .func (PySem.W.fnOf "root" "root" (defArgs t_root) (defBody t_root) (defScope t_root) .none kv13 dc13 pm13 an13 cd13 ct13), sl13⟩) (c13 : PySem.W.codeIn K cd13 "root" = true) (k13 : PySem.W.keepIn K (.ref p13) = true)
    {p14 : Addr} {oc14 kv14 dc14 pm14 cd14 ct14 : Value} {od14 an14 : Option Addr} {sl14 : Array (Option Value)} (a14 : PySem.W.nsIn K mainGlobals "_law_asked" = some (some (.ref p14))) (l14 : K.lookup p14 = some ⟨oc14, od14, .func (PySem.W.fnOf "_law_asked" "_law_asked" (defArgs t__law_asked) (defBody t__law_asked) (defScope t__law_asked) .none kv14 dc14 pm14 an14 cd14 ct14), sl14⟩) (c14 : PySem.W.codeIn K cd14 "_law_asked" = true) (k14 : PySem.W.keepIn K (.ref p14) = true)
    {p15 : Addr} {oc15 kv15 dc15 pm15 cd15 ct15 : Value} {od15 an15 : Option Addr} {sl15 : Array (Option Value)} (a15 : PySem.W.nsIn K mainGlobals "_law_root" = some (some (.ref p15))) (l15 : K.lookup p15 = some ⟨oc15, od15, .func (PySem.W.fnOf "_law_root" "_law_root" (defArgs t__law_root) (defBody t__law_root) (defScope t__law_root) .none kv15 dc15 pm15 an15 cd15 ct15), sl15⟩) (c15 : PySem.W.codeIn K cd15 "_law_root" = true) (k15 : PySem.W.keepIn K (.ref p15) = true)
    {p16 : Addr} {oc16 kv16 dc16 pm16 cd16 ct16 : Value} {od16 an16 : Option Addr} {sl16 : Array (Option Value)} (a16 : PySem.W.nsIn K mainGlobals "is_integer" = some (some (.ref p16))) (l16 : K.lookup p16 = some ⟨oc16, od16, .func (PySem.W.fnOf "is_integer" "is_integer" (defArgs t_is_integer) (defBody t_is_integer) (defScope t_is_integer) .none kv16 dc16 pm16 an16 cd16 ct16), sl16⟩) (c16 : PySem.W.codeIn K cd16 "is_integer" = true) (k16 : PySem.W.keepIn K (.ref p16) = true)
    {p17 : Addr} {oc17 kv17 dc17 pm17 cd17 ct17 : Value} {od17 an17 : Option Addr} {sl17 : Array (Option Value)} (a17 : PySem.W.nsIn K mainGlobals "is_within" = some (some (.ref p17))) (l17 : K.lookup p17 = some ⟨oc17, od17, .func (PySem.W.fnOf "is_within" "is_within" (defArgs t_is_within) (defBody t_is_within) (defScope t_is_within) .none kv17 dc17 pm17 an17 cd17 ct17), sl17⟩) (c17 : PySem.W.codeIn K cd17 "is_within" = true) (k17 : PySem.W.keepIn K (.ref p17) = true)
    {p18 : Addr} {oc18 kv18 dc18 pm18 cd18 ct18 : Value} {od18 an18 : Option Addr} {sl18 : Array (Option Value)} (a18 : PySem.W.nsIn K mainGlobals "turned_about" = some (some (.ref p18))) (l18 : K.lookup p18 = some ⟨oc18, od18, .func (PySem.W.fnOf "turned_about" "turned_about" (defArgs t_turned_about) (defBody t_turned_about) (defScope t_turned_about) .none kv18 dc18 pm18 an18 cd18 ct18), sl18⟩) (c18 : PySem.W.codeIn K cd18 "turned_about" = true) (k18 : PySem.W.keepIn K (.ref p18) = true)
    {p19 : Addr} {oc19 kv19 dc19 pm19 cd19 ct19 : Value} {od19 an19 : Option Addr} {sl19 : Array (Option Value)} (a19 : PySem.W.nsIn K mainGlobals "power_letters" = some (some (.ref p19))) (l19 : K.lookup p19 = some ⟨oc19, od19, .func (PySem.W.fnOf "power_letters" "power_letters" (defArgs t_power_letters) (defBody t_power_letters) (defScope t_power_letters) .none kv19 dc19 pm19 an19 cd19 ct19), sl19⟩) (c19 : PySem.W.codeIn K cd19 "power_letters" = true) (k19 : PySem.W.keepIn K (.ref p19) = true)
    {p20 : Addr} {oc20 kv20 dc20 pm20 cd20 ct20 : Value} {od20 an20 : Option Addr} {sl20 : Array (Option Value)} (a20 : PySem.W.nsIn K mainGlobals "power" = some (some (.ref p20))) (l20 : K.lookup p20 = some ⟨oc20, od20, .func (PySem.W.fnOf "power" "power" (defArgs t_power) (defBody t_power) (defScope t_power) .none kv20 dc20 pm20 an20 cd20 ct20), sl20⟩) (c20 : PySem.W.codeIn K cd20 "power" = true) (k20 : PySem.W.keepIn K (.ref p20) = true)
    {p21 : Addr} {oc21 kv21 dc21 pm21 cd21 ct21 : Value} {od21 an21 : Option Addr} {sl21 : Array (Option Value)} (a21 : PySem.W.nsIn K mainGlobals "net" = some (some (.ref p21))) (l21 : K.lookup p21 = some ⟨oc21, od21, .func (PySem.W.fnOf "net" "net" (defArgs t_net) (defBody t_net) (defScope t_net) .none kv21 dc21 pm21 an21 cd21 ct21), sl21⟩) (c21 : PySem.W.codeIn K cd21 "net" = true) (k21 : PySem.W.keepIn K (.ref p21) = true)
    {p22 : Addr} {oc22 kv22 dc22 pm22 cd22 ct22 : Value} {od22 an22 : Option Addr} {sl22 : Array (Option Value)} (a22 : PySem.W.nsIn K mainGlobals "_law_roots_right" = some (some (.ref p22))) (l22 : K.lookup p22 = some ⟨oc22, od22, .func (PySem.W.fnOf "_law_roots_right" "_law_roots_right" (defArgs t__law_roots_right) (defBody t__law_roots_right) (defScope t__law_roots_right) .none kv22 dc22 pm22 an22 cd22 ct22), sl22⟩) (c22 : PySem.W.codeIn K cd22 "_law_roots_right" = true) (k22 : PySem.W.keepIn K (.ref p22) = true)
    {p23 : Addr} {oc23 kv23 dc23 pm23 cd23 ct23 : Value} {od23 an23 : Option Addr} {sl23 : Array (Option Value)} (a23 : PySem.W.nsIn K mainGlobals "row_key" = some (some (.ref p23))) (l23 : K.lookup p23 = some ⟨oc23, od23, .func (PySem.W.fnOf "row_key" "row_key" (defArgs t_row_key) (defBody t_row_key) (defScope t_row_key) .none kv23 dc23 pm23 an23 cd23 ct23), sl23⟩) (c23 : PySem.W.codeIn K cd23 "row_key" = true) (k23 : PySem.W.keepIn K (.ref p23) = true)
    {p24 : Addr} {oc24 kv24 dc24 pm24 cd24 ct24 : Value} {od24 an24 : Option Addr} {sl24 : Array (Option Value)} (a24 : PySem.W.nsIn K mainGlobals "earlier" = some (some (.ref p24))) (l24 : K.lookup p24 = some ⟨oc24, od24, .func (PySem.W.fnOf "earlier" "earlier" (defArgs t_earlier) (defBody t_earlier) (defScope t_earlier) .none kv24 dc24 pm24 an24 cd24 ct24), sl24⟩) (c24 : PySem.W.codeIn K cd24 "earlier" = true) (k24 : PySem.W.keepIn K (.ref p24) = true)
    {p25 : Addr} {oc25 kv25 dc25 pm25 cd25 ct25 : Value} {od25 an25 : Option Addr} {sl25 : Array (Option Value)} (a25 : PySem.W.nsIn K mainGlobals "_law_is_earlier" = some (some (.ref p25))) (l25 : K.lookup p25 = some ⟨oc25, od25, .func (PySem.W.fnOf "_law_is_earlier" "_law_is_earlier" (defArgs t__law_is_earlier) (defBody t__law_is_earlier) (defScope t__law_is_earlier) .none kv25 dc25 pm25 an25 cd25 ct25), sl25⟩) (c25 : PySem.W.codeIn K cd25 "_law_is_earlier" = true) (k25 : PySem.W.keepIn K (.ref p25) = true)
    {p26 : Addr} {oc26 kv26 dc26 pm26 cd26 ct26 : Value} {od26 an26 : Option Addr} {sl26 : Array (Option Value)} (a26 : PySem.W.nsIn K mainGlobals "law" = some (some (.ref p26))) (l26 : K.lookup p26 = some ⟨oc26, od26, .func (PySem.W.fnOf "law" "law" (defArgs t_law) (defBody t_law) (defScope t_law) .none kv26 dc26 pm26 an26 cd26 ct26), sl26⟩) (c26 : PySem.W.codeIn K cd26 "law" = true) (k26 : PySem.W.keepIn K (.ref p26) = true)
    (z_abs : PySem.W.nsIn K mainGlobals "abs" = some none)
    (z_bool : PySem.W.nsIn K mainGlobals "bool" = some none)
    (z_int : PySem.W.nsIn K mainGlobals "int" = some none)
    (z_isinstance : PySem.W.nsIn K mainGlobals "isinstance" = some none)
    (z_len : PySem.W.nsIn K mainGlobals "len" = some none)
    (z_range : PySem.W.nsIn K mainGlobals "range" = some none)
    (z_str : PySem.W.nsIn K mainGlobals "str" = some none)
    (z_tuple : PySem.W.nsIn K mainGlobals "tuple" = some none)
    {t_c_LETTERS : Tok} (y_LETTERS : PySem.W.nsIn K mainGlobals "LETTERS" = some (some (.str ⟨c_LETTERS.toArray⟩ t_c_LETTERS)))
    {t_c_MOST_TIMES : Tok} (y_MOST_TIMES : PySem.W.nsIn K mainGlobals "MOST_TIMES" = some (some (.int 1000 t_c_MOST_TIMES)))
    {t_c_SMALL : Tok} (y_SMALL : PySem.W.nsIn K mainGlobals "SMALL" = some (some (.str ⟨c_SMALL.toArray⟩ t_c_SMALL)))
    {C_NoNumber : Addr}
    (aE_NoNumber : PySem.W.nsIn K mainGlobals "NoNumber" = some (some (.ref C_NoNumber)))
    {C_NoRoot : Addr}
    (aE_NoRoot : PySem.W.nsIn K mainGlobals "NoRoot" = some (some (.ref C_NoRoot)))
    {C_NoRow : Addr}
    (aE_NoRow : PySem.W.nsIn K mainGlobals "NoRow" = some (some (.ref C_NoRow)))
    (xE_NoNumber : PySem.W.excIn K C_NoNumber veMro "ValueError.__new__" = true)
    (kE_NoNumber : PySem.W.keepIn K (.ref C_NoNumber) = true)
    (bE_NoNumber : PySem.W.subIn K (.ref C_NoNumber) (.type "BaseException") = some true)
    (tE_NoNumber : PySem.W.typeIn K (.ref C_NoNumber) = some (.type "type"))
    (xE_NoRoot : PySem.W.excIn K C_NoRoot veMro "ValueError.__new__" = true)
    (kE_NoRoot : PySem.W.keepIn K (.ref C_NoRoot) = true)
    (bE_NoRoot : PySem.W.subIn K (.ref C_NoRoot) (.type "BaseException") = some true)
    (tE_NoRoot : PySem.W.typeIn K (.ref C_NoRoot) = some (.type "type"))
    (xE_NoRow : PySem.W.excIn K C_NoRow veMro "ValueError.__new__" = true)
    (kE_NoRow : PySem.W.keepIn K (.ref C_NoRow) = true)
    (bE_NoRow : PySem.W.subIn K (.ref C_NoRow) (.type "BaseException") = some true)
    (tE_NoRow : PySem.W.typeIn K (.ref C_NoRow) = some (.type "type"))
    (dE_NoNumber : PySem.W.hasDictIn K C_NoNumber = true)
    (dE_NoRoot : PySem.W.hasDictIn K C_NoRoot = true)
    (dE_NoRow : PySem.W.hasDictIn K C_NoRow = true)
    (sE_NoNumber_NoRoot : PySem.W.subIn K (.ref C_NoNumber) (.ref C_NoRoot) = some false)
    (sE_NoRoot_NoRoot : PySem.W.subIn K (.ref C_NoRoot) (.ref C_NoRoot) = some true)
    (sE_NoRow_NoRoot : PySem.W.subIn K (.ref C_NoRow) (.ref C_NoRoot) = some false)
    : ∃ fd : FuncData, (∀ (s : Shared) (v : Value), BindsTo s fd ⟨[v], []⟩ [("script", v)]) ∧ ∀ base : Heap, K.In base → base.Ns mainGlobals mg → FnOk l.prog w K mg base (L2.CX l.prog w) 8 fa fd ["script"] (spLaw K) := by
  have e := hfa.symm.trans (PySem.W.mg_of X G a26)
  cases e
  have GG : Gs mg := ⟨PySem.W.mg_none_of X G z_abs, PySem.W.mg_none_of X G z_bool, PySem.W.mg_none_of X G z_int, PySem.W.mg_none_of X G z_isinstance, PySem.W.mg_none_of X G z_len, PySem.W.mg_none_of X G z_range, PySem.W.mg_none_of X G z_str, PySem.W.mg_none_of X G z_tuple, gsStr X G y_LETTERS, gsInt X G y_MOST_TIMES, gsStr X G y_SMALL⟩
  have mE_NoNumber_NoRoot := PySem.W.exm_ref bE_NoRoot dE_NoRoot tE_NoRoot sE_NoNumber_NoRoot
  have mE_NoRoot_NoRoot := PySem.W.exm_ref bE_NoRoot dE_NoRoot tE_NoRoot sE_NoRoot_NoRoot
  have mE_NoRow_NoRoot := PySem.W.exm_ref bE_NoRoot dE_NoRoot tE_NoRoot sE_NoRow_NoRoot
  have H_NoRoot : HanAt K mg subT "NoRoot" := by
    refine han_mk X G aE_NoRoot [("NoNumber", C_NoNumber, false), ("NoRoot", C_NoRoot, true), ("NoRow", C_NoRow, false)] (fun y b h => ?_) (fun t ht => ?_)
    · have m := look_mem h
      simp only [List.mem_cons, Prod.mk.injEq, List.not_mem_nil, or_false] at m
      rcases m with m | m | m
      · obtain ⟨⟨rfl, _⟩, rfl⟩ := m; exact ⟨C_NoNumber, by simp⟩
      · obtain ⟨⟨rfl, _⟩, rfl⟩ := m; exact ⟨C_NoRoot, by simp⟩
      · obtain ⟨⟨rfl, _⟩, rfl⟩ := m; exact ⟨C_NoRow, by simp⟩
    · simp only [List.mem_cons, List.not_mem_nil, or_false] at ht
      rcases ht with rfl | rfl | rfl
      · exact ⟨aE_NoNumber, mE_NoNumber_NoRoot⟩
      · exact ⟨aE_NoRoot, mE_NoRoot_NoRoot⟩
      · exact ⟨aE_NoRow, mE_NoRow_NoRoot⟩
  have FF : Fa K mg := ⟨err_mk X G aE_NoNumber xE_NoNumber kE_NoNumber bE_NoNumber tE_NoNumber, err_mk X G aE_NoRoot xE_NoRoot kE_NoRoot bE_NoRoot tE_NoRoot, err_mk X G aE_NoRow xE_NoRow kE_NoRow bE_NoRow tE_NoRow, H_NoRoot, funAt_mk X G a0 l0 c0 k0, funAt_mk X G a1 l1 c1 k1, funAt_mk X G a2 l2 c2 k2, funAt_mk X G a3 l3 c3 k3, funAt_mk X G a4 l4 c4 k4, funAt_mk X G a5 l5 c5 k5, funAt_mk X G a6 l6 c6 k6, funAt_mk X G a7 l7 c7 k7, funAt_mk X G a8 l8 c8 k8, funAt_mk X G a9 l9 c9 k9, funAt_mk X G a10 l10 c10 k10, funAt_mk X G a11 l11 c11 k11, funAt_mk X G a12 l12 c12 k12, funAt_mk X G a13 l13 c13 k13, funAt_mk X G a14 l14 c14 k14, funAt_mk X G a15 l15 c15 k15, funAt_mk X G a16 l16 c16 k16, funAt_mk X G a17 l17 c17 k17, funAt_mk X G a18 l18 c18 k18, funAt_mk X G a19 l19 c19 k19, funAt_mk X G a20 l20 c20 k20, funAt_mk X G a21 l21 c21 k21, funAt_mk X G a22 l22 c22 k22, funAt_mk X G a23 l23 c23 k23, funAt_mk X G a24 l24 c24 k24, funAt_mk X G a25 l25 c25 k25, funAt_mk X G a26 l26 c26 k26⟩
  exact ⟨PySem.W.fnOf "law" "law" (defArgs t_law) (defBody t_law) (defScope t_law) .none kv26 dc26 pm26 an26 cd26 ct26, fun s v => .of_eq rfl, fun base _ _ => law_end (L_law GG FF (fun_mk (st := t_law) l26 c26 k26)) promise⟩
end K02
open PySem PySem.W PyProof.Rows
set_option maxHeartbeats 0 in
theorem PySem.Challenge.cw_runsturned_k02_whole_roots_and_earlier_r_holds : PySem.Challenge.rw_runsturned_k02_whole_roots_and_earlier_r.Holds := by
  w_on; o_law; k_head; (case hw => w_witness2)
  k_fill
  refine L2.walk_of (l := PySem.Challenge.rw_runsturned_k02_whole_roots_and_earlier_r) (n := 63) (k := 8) (x := "script") (CX := fun w => L2.CX PySem.Challenge.rw_runsturned_k02_whole_roots_and_earlier_r.prog w) (sp := fun w => Eng.spLaw _) rfl (by decide) rfl ⟨rfl, by decide, by decide⟩ (fun w h Y => PySem.W.kIn_of Y) ?F (fun _ _ a ns hl _ hS => ⟨a, ns, rfl, hS, hl, fun _ => rfl⟩) (fun _ _ _ _ _ h => Eng.law_cx h)
  case F =>
    intro w mg fa h KX G hmg
    refine' K02.all_mk KX G hmg ?a0 ?l0 ?c0 ?k0 ?a1 ?l1 ?c1 ?k1 ?a2 ?l2 ?c2 ?k2 ?a3 ?l3 ?c3 ?k3 ?a4 ?l4 ?c4 ?k4 ?a5 ?l5 ?c5 ?k5 ?a6 ?l6 ?c6 ?k6 ?a7 ?l7 ?c7 ?k7 ?a8 ?l8 ?c8 ?k8 ?a9 ?l9 ?c9 ?k9 ?a10 ?l10 ?c10 ?k10 ?a11 ?l11 ?c11 ?k11 ?a12 ?l12 ?c12 ?k12 ?a13 ?l13 ?c13 ?k13 ?a14 ?l14 ?c14 ?k14 ?a15 ?l15 ?c15 ?k15 ?a16 ?l16 ?c16 ?k16 ?a17 ?l17 ?c17 ?k17 ?a18 ?l18 ?c18 ?k18 ?a19 ?l19 ?c19 ?k19 ?a20 ?l20 ?c20 ?k20 ?a21 ?l21 ?c21 ?k21 ?a22 ?l22 ?c22 ?k22 ?a23 ?l23 ?c23 ?k23 ?a24 ?l24 ?c24 ?k24 ?a25 ?l25 ?c25 ?k25 ?a26 ?l26 ?c26 ?k26 ?z_abs ?z_bool ?z_int ?z_isinstance ?z_len ?z_range ?z_str ?z_tuple ?y_LETTERS ?y_MOST_TIMES ?y_SMALL ?aE_NoNumber ?aE_NoRoot ?aE_NoRow ?xE_NoNumber ?kE_NoNumber ?bE_NoNumber ?tE_NoNumber ?xE_NoRoot ?kE_NoRoot ?bE_NoRoot ?tE_NoRoot ?xE_NoRow ?kE_NoRow ?bE_NoRow ?tE_NoRow ?dE_NoNumber ?dE_NoRoot ?dE_NoRow ?sE_NoNumber_NoRoot ?sE_NoRoot_NoRoot ?sE_NoRow_NoRoot
    (case a0 => k_is); (case l0 => k_is); (case c0 => k_is); (case k0 => k_is); (case a1 => k_is); (case l1 => k_is); (case c1 => k_is); (case k1 => k_is); (case a2 => k_is); (case l2 => k_is); (case c2 => k_is); (case k2 => k_is); (case a3 => k_is); (case l3 => k_is); (case c3 => k_is); (case k3 => k_is); (case a4 => k_is); (case l4 => k_is); (case c4 => k_is); (case k4 => k_is); (case a5 => k_is); (case l5 => k_is); (case c5 => k_is); (case k5 => k_is); (case a6 => k_is); (case l6 => k_is); (case c6 => k_is); (case k6 => k_is); (case a7 => k_is); (case l7 => k_is); (case c7 => k_is); (case k7 => k_is); (case a8 => k_is); (case l8 => k_is); (case c8 => k_is); (case k8 => k_is); (case a9 => k_is); (case l9 => k_is); (case c9 => k_is); (case k9 => k_is); (case a10 => k_is); (case l10 => k_is); (case c10 => k_is); (case k10 => k_is); (case a11 => k_is); (case l11 => k_is); (case c11 => k_is); (case k11 => k_is); (case a12 => k_is); (case l12 => k_is); (case c12 => k_is); (case k12 => k_is); (case a13 => k_is); (case l13 => k_is); (case c13 => k_is); (case k13 => k_is); (case a14 => k_is); (case l14 => k_is); (case c14 => k_is); (case k14 => k_is); (case a15 => k_is); (case l15 => k_is); (case c15 => k_is); (case k15 => k_is); (case a16 => k_is); (case l16 => k_is); (case c16 => k_is); (case k16 => k_is); (case a17 => k_is); (case l17 => k_is); (case c17 => k_is); (case k17 => k_is); (case a18 => k_is); (case l18 => k_is); (case c18 => k_is); (case k18 => k_is); (case a19 => k_is); (case l19 => k_is); (case c19 => k_is); (case k19 => k_is); (case a20 => k_is); (case l20 => k_is); (case c20 => k_is); (case k20 => k_is); (case a21 => k_is); (case l21 => k_is); (case c21 => k_is); (case k21 => k_is); (case a22 => k_is); (case l22 => k_is); (case c22 => k_is); (case k22 => k_is); (case a23 => k_is); (case l23 => k_is); (case c23 => k_is); (case k23 => k_is); (case a24 => k_is); (case l24 => k_is); (case c24 => k_is); (case k24 => k_is); (case a25 => k_is); (case l25 => k_is); (case c25 => k_is); (case k25 => k_is); (case a26 => k_is); (case l26 => k_is); (case c26 => k_is); (case k26 => k_is); (case z_abs => k_is); (case z_bool => k_is); (case z_int => k_is); (case z_isinstance => k_is); (case z_len => k_is); (case z_range => k_is); (case z_str => k_is); (case z_tuple => k_is); (case y_LETTERS => k_is); (case y_MOST_TIMES => k_is); (case y_SMALL => k_is); (case aE_NoNumber => k_is); (case aE_NoRoot => k_is); (case aE_NoRow => k_is); (case xE_NoNumber => k_exc); (case kE_NoNumber => k_is); (case bE_NoNumber => k_is); (case tE_NoNumber => k_is); (case xE_NoRoot => k_exc); (case kE_NoRoot => k_is); (case bE_NoRoot => k_is); (case tE_NoRoot => k_is); (case xE_NoRow => k_exc); (case kE_NoRow => k_is); (case bE_NoRow => k_is); (case tE_NoRow => k_is); (case dE_NoNumber => k_is); (case dE_NoRoot => k_is); (case dE_NoRow => k_is); (case sE_NoNumber_NoRoot => first | rfl | k_is); (case sE_NoRoot_NoRoot => first | rfl | k_is); (case sE_NoRow_NoRoot => first | rfl | k_is)

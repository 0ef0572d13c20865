import PyProof.Rows.All
import Wide.All
import OpenK.AllK
import Wide.FinOn
import PySem.Challenge.RW_runsturned_k19_whole_rounds_of_great_tim
import HandS.ForMost
import HandS.ForExc
import HandS.Wide
import HandS.TupAny
import HandS.TupMul
import HandS.IsInst
import HandS.CallSlots
import HandS.StrMore
import HandS.ExcIs
import HandS.TryMany
import PyProof.ListStr
import HandS.Conv
import HandS.Dict
import HandS.Style
import HandS.Ends
import HandS.ExcOwn
import HandS.Iter
import KE.DataCmp
import HandS.Zip
import PyProof.EnumMake
import KE.GoesMore
import KE.KExcSuper
import HandS.ExcInit
import HandS.ExcField
import HandS.More
import HandS.DictComp
set_option Elab.async false
set_option linter.all false
set_option maxRecDepth 100000
set_option maxHeartbeats 4000000
/-! Eng1: data as trees, how a heap bears them, who owns what. -/
namespace Eng
open PySem L2

/-- where one stands: the module's names, the written part, the exception that is handled -/
structure Hx where
  a : Addr
  d : Option Addr
structure Ev where
  mg : Str → Option Value
  K : PySem.W.Frag
  hd : Option Hx
/-- the exception that is handled, and its dict -/
def hdOf (pn : List (Addr × Obj)) : Option Value → Option Hx
  | some (.ref a) => some ⟨a, (pn.lookup a).bind (·.dict)⟩
  | _ => none
def _root_.L2.Cx.ev (X : Cx) : Ev := ⟨X.mg, X.K, cond X.calm none (hdOf X.pn X.A.handled)⟩

/-- a datum: o tells whether the one who holds it may change it -/
inductive D where
  | non
  | bl (b : Bool)
  | int (i : Int)
  | str (s : List Nat)
  | ty (n : String)
  | scr (ns : List Int)
  | lst (o : Bool) (xs : List D)
  | tup (xs : List D)
  | dic (o : Bool) (kvs : List (D × D))
  | ins (o : Bool) (c : Str) (fs : List (Str × D))
  | exo (c : Str) (fs : List (Str × D))
  deriving Inhabited

mutual
def D.freeze : D → D
  | .lst _ xs => .lst false (freezes xs)
  | .tup xs => .tup (freezes xs)
  | .dic _ kvs => .dic false (freezeK kvs)
  | .ins _ c fs => .ins false c (freezeF fs)
  | .non => .non
  | .bl b => .bl b
  | .int i => .int i
  | .str s => .str s
  | .ty n => .ty n
  | .scr ns => .scr ns
  | .exo c fs => .exo c fs
def freezes : List D → List D
  | [] => []
  | d :: ds => d.freeze :: freezes ds
def freezeK : List (D × D) → List (D × D)
  | [] => []
  | (k, d) :: ds => (k, d.freeze) :: freezeK ds
def freezeF : List (Str × D) → List (Str × D)
  | [] => []
  | (k, d) :: ds => (k, d.freeze) :: freezeF ds
end
mutual
def D.frz : D → Bool
  | .lst o xs => !o && frzs xs
  | .tup xs => frzs xs
  | .dic o kvs => !o && frzK kvs
  | .ins o _ fs => !o && frzF fs
  | .non => true
  | .bl _ => true
  | .int _ => true
  | .str _ => true
  | .ty _ => true
  | .scr _ => true
  | .exo _ _ => true
def frzs : List D → Bool
  | [] => true
  | d :: ds => d.frz && frzs ds
def frzK : List (D × D) → Bool
  | [] => true
  | (_, d) :: ds => d.frz && frzK ds
def frzF : List (Str × D) → Bool
  | [] => true
  | (_, d) :: ds => d.frz && frzF ds
end
theorem freezeK_eq : ∀ l : List (D × D), freezeK l = (l.map (·.1)).zip (freezes (l.map (·.2)))
  | [] => rfl
  | (k, d) :: r => by simp [freezeK, freezes, freezeK_eq r]
theorem freezeF_eq : ∀ l : List (Str × D), freezeF l = (l.map (·.1)).zip (freezes (l.map (·.2)))
  | [] => rfl
  | (k, d) :: r => by simp [freezeF, freezes, freezeF_eq r]
theorem frzK_eq : ∀ l : List (D × D), frzK l = frzs (l.map (·.2))
  | [] => rfl
  | (k, d) :: r => by simp [frzK, frzs, frzK_eq r]
theorem frzF_eq : ∀ l : List (Str × D), frzF l = frzs (l.map (·.2))
  | [] => rfl
  | (k, d) :: r => by simp [frzF, frzs, frzF_eq r]

/-- a key as a datum -/
def keyD : Key → D
  | .inl i => .int i
  | .inr x => .str x.cps.toList

def D.kids : D → List D
  | .lst _ xs => xs
  | .tup xs => xs
  | .dic _ kvs => kvs.map (·.2)
  | .ins _ _ fs => fs.map (·.2)
  | _ => []
/-- may the one who holds it change it -/
def D.own : D → Bool
  | .lst o _ => o
  | .dic o _ => o
  | .ins o _ _ => o
  | _ => false
def D.isTup : D → Bool
  | .tup _ => true
  | _ => false

/-- a value without parts, whatever the heap -/
def Flat : V → D → Prop
  | .non, .non => True
  | .bl b, .bl c => b = c
  | .int i, .int j => i = j
  | .str x, .str s => x.cps.toList = s
  | _, _ => False
def FlatL : List V → List D → Prop
  | [], [] => True
  | v :: vs, d :: ds => Flat v d ∧ FlatL vs ds
  | _, _ => False
/-- a datum without parts (the script is one) -/
def Atom (mg : Ev) (B : Hp) : V → D → Prop
  | .non, .non => True
  | .bl b, .bl c => b = c
  | .int i, .int j => i = j
  | .str x, .str s => x.cps.toList = s
  | .ty n, .ty m => n = m
  | .ref a, .scr ns => SqL mg.K B a (ns.map V.int)
  | .ref a, .exo _ fs => ∃ dx, mg.hd = some ⟨a, dx⟩ ∧ (fs = [] ∨ ∃ dd vs, dx = some dd ∧ B dd = some (.xd ((fs.map (·.1)).zip vs)) ∧ FlatL vs (fs.map (·.2)))
  | _, _ => False
/-- a dict stands open with its owner, locked with all others -/
def kD : Bool → Hp → Addr → HO → Prop
  | true, X, a, u => X a = some u
  | false, X, a, u => ∃ od, X a = some (.frz od u)
/-- how the object of a datum with parts stands in a heap: vs its parts' values, A its addresses -/
def Shape (mg : Ev) (X : Hp) : V → D → List V → List Addr → Prop
  | .ref a, .lst _ _, vs, A => X a = some (.lst vs) ∧ A = [a]
  | .ref a, .tup _, vs, A => X a = some (.tup vs) ∧ A = []
  | .ref a, .dic o kvs, vs, A => A = [a] ∧ vs.length = kvs.length ∧
      ((∃ ks : List Key, kvs.map (·.1) = ks.map keyD ∧ kD o X a (.dK (ks.zip vs))) ∨ (∃ ks : List (List Key), (kvs.map (·.1) = ks.map (fun k => D.tup (k.map keyD)) ∧ ks ≠ []) ∧ X a = some (.dT (ks.zip vs))))
  | .ref a, .ins _ c fs, vs, A => ∃ C dx, X a = some (.ins C dx ((fs.map (·.1)).zip vs)) ∧ X dx = some (.own a) ∧ mg.mg c = some (.ref C) ∧ vs.length = fs.length ∧ A = [dx, a]
  | _, _, _, _ => False
-- B: the part of the heap that nobody changes; H: the heap; F: the addresses that the one who holds the datum owns
mutual
inductive Own (mg : Ev) (B H : Hp) : V → D → List Addr → Prop where
  | atom {v d} : Atom mg B v d → Own mg B H v d []
  | fro {v d vs A F} : d.own = false → Shape mg B v d vs A → Owns mg B H vs d.kids F → (d.isTup = false → F = []) → Own mg B H v d F
  | own {v d vs A F} : d.own = true → Shape mg H v d vs A → Owns mg B H vs d.kids F → Own mg B H v d (A ++ F)
inductive Owns (mg : Ev) (B H : Hp) : List V → List D → List Addr → Prop where
  | nil : Owns mg B H [] [] []
  | cons {v d F vs ds G} : Own mg B H v d F → Owns mg B H vs ds G → Owns mg B H (v :: vs) (d :: ds) (F ++ G)
end

section
variable {mg : Ev} {B B' H H' X X' : Hp} {v : V} {d : D} {vs : List V} {ds : List D} {A F G U U' : List Addr}

theorem Owns.len : ∀ {vs ds F}, Owns mg B H vs ds F → vs.length = ds.length
  | _, _, _, .nil => rfl
  | _, _, _, .cons _ t => by simp [Owns.len t]
theorem sq_mono {K : PySem.W.Frag} {a : Addr} {xs : List V} (hB : ∀ a o, B a = some o → B' a = some o) (h : SqL K B a xs) : SqL K B' a xs := by
  rcases h with (h | ⟨o, h⟩) | h
  · exact .inl (.inl (hB _ _ h))
  · exact .inl (.inr ⟨o, hB _ _ h⟩)
  · exact .inr h
theorem Atom.mono (hB : ∀ a o, B a = some o → B' a = some o) (h : Atom mg B v d) : Atom mg B' v d := by
  cases v <;> cases d <;> simp only [Atom] at h ⊢ <;> first | exact h | exact sq_mono hB h | (obtain ⟨dx, h1, h2⟩ := h; exact ⟨dx, h1, h2.imp id fun ⟨dd, vs, e1, e2, e3⟩ => ⟨dd, vs, e1, hB _ _ e2, e3⟩⟩)
theorem kD.mono {o : Bool} {a : Addr} {u : HO} (hB : ∀ a o, X a = some o → X' a = some o) (h : kD o X a u) : kD o X' a u := by
  cases o
  · obtain ⟨od, e⟩ := h
    exact ⟨od, hB _ _ e⟩
  · exact hB _ _ h
theorem kD.there {o : Bool} {a : Addr} {u : HO} (h : kD o X a u) : X a ≠ none := by
  cases o
  · obtain ⟨od, e⟩ := h
    rw [e]; simp
  · rw [show X a = some u from h]; simp
theorem Shape.mono (hB : ∀ a o, X a = some o → X' a = some o) (h : Shape mg X v d vs A) : Shape mg X' v d vs A := by
  cases v <;> cases d <;> simp only [Shape] at h ⊢
  · exact ⟨hB _ _ h.1, h.2⟩
  · exact ⟨hB _ _ h.1, h.2⟩
  · obtain ⟨e, l, h⟩ := h
    refine ⟨e, l, ?_⟩
    rcases h with ⟨ks, e, h⟩ | ⟨ks, e, h⟩
    · exact .inl ⟨ks, e, h.mono hB⟩
    · exact .inr ⟨ks, e, hB _ _ h⟩
  · obtain ⟨C, dx, h1, h2, h3⟩ := h
    exact ⟨C, dx, hB _ _ h1, hB _ _ h2, h3⟩
/-- for an owned datum: only its own addresses matter -/
theorem Shape.at (ho : d.own = true) (h : Shape mg X v d vs A) (k : ∀ a ∈ A, X' a = X a) : Shape mg X' v d vs A := by
  cases v <;> cases d <;> simp only [Shape] at h ⊢ <;> simp only [D.own] at ho
  · obtain ⟨h1, rfl⟩ := h
    exact ⟨by rw [k _ (by simp)]; exact h1, rfl⟩
  · exact absurd ho (by simp)
  · obtain ⟨rfl, l, h⟩ := h
    refine ⟨rfl, l, ?_⟩
    rcases h with ⟨ks, e, h⟩ | ⟨ks, e, h⟩
    · subst ho
      exact .inl ⟨ks, e, (k _ (by simp)).trans h⟩
    · exact .inr ⟨ks, e, by rw [k _ (by simp)]; exact h⟩
  · obtain ⟨C, dx, h1, h2, h3, h4, rfl⟩ := h
    exact ⟨C, dx, by rw [k _ (by simp)]; exact h1, by rw [k _ (by simp)]; exact h2, h3, h4, rfl⟩
theorem Shape.there (h : Shape mg X v d vs A) : ∀ a ∈ A, X a ≠ none := by
  intro b hb
  cases v <;> cases d <;> simp only [Shape] at h
  · obtain ⟨h1, rfl⟩ := h
    simp at hb; subst hb; rw [h1]; simp
  · obtain ⟨h1, rfl⟩ := h
    simp at hb
  · obtain ⟨rfl, l, h⟩ := h
    simp at hb; subst hb
    rcases h with ⟨ks, e, h⟩ | ⟨ks, e, h⟩
    · exact h.there
    · rw [h]; simp
  · obtain ⟨C, dx, h1, h2, h3, h4, rfl⟩ := h
    simp at hb
    rcases hb with rfl | rfl
    · rw [h2]; simp
    · rw [h1]; simp
theorem freezeK_keys : ∀ l : List (D × D), (freezeK l).map (·.1) = l.map (·.1)
  | [] => rfl
  | (k, d) :: r => by simp [freezeK, freezeK_keys r]
theorem freezeF_keys : ∀ l : List (Str × D), (freezeF l).map (·.1) = l.map (·.1)
  | [] => rfl
  | (k, d) :: r => by simp [freezeF, freezeF_keys r]
theorem freezeK_vals : ∀ l : List (D × D), (freezeK l).map (·.2) = freezes (l.map (·.2))
  | [] => rfl
  | (k, d) :: r => by simp [freezeK, freezes, freezeK_vals r]
theorem freezeF_vals : ∀ l : List (Str × D), (freezeF l).map (·.2) = freezes (l.map (·.2))
  | [] => rfl
  | (k, d) :: r => by simp [freezeF, freezes, freezeF_vals r]
theorem kids_freeze (d : D) : d.freeze.kids = freezes d.kids := by
  cases d <;> simp [D.freeze, D.kids, freezes, freezeK_vals, freezeF_vals]
theorem own_freeze (d : D) : d.freeze.own = false := by
  cases d <;> simp [D.freeze, D.own]
theorem freezeK_len (l : List (D × D)) : (freezeK l).length = l.length := by
  have := congrArg List.length (freezeK_keys l); simpa using this
theorem freezeF_len (l : List (Str × D)) : (freezeF l).length = l.length := by
  have := congrArg List.length (freezeF_keys l); simpa using this
theorem Shape.freeze (ho : d.own = false) (h : Shape mg X v d vs A) : Shape mg X v d.freeze vs A := by
  cases v <;> cases d <;> simp only [Shape, D.freeze] at h ⊢ <;> simp only [D.own] at ho
  · exact h
  · exact h
  · subst ho; rw [freezeK_keys, freezeK_len]; exact h
  · rw [freezeF_keys, freezeF_len]; exact h
theorem Atom.freeze (h : Atom mg B v d) : Atom mg B v d.freeze := by
  cases v <;> cases d <;> simp only [Atom, D.freeze] at h ⊢ <;> exact h
theorem frz_eq (d : D) : d.frz = (!d.own && frzs d.kids) := by
  cases d <;> simp [D.frz, D.own, D.kids, frzs, frzK_eq, frzF_eq]

-- the ground grows, what is owned stays
mutual
theorem Own.mono (hB : ∀ a o, B a = some o → B' a = some o) : ∀ {v d F}, (∀ a ∈ F, H' a = H a) → Own mg B H v d F → Own mg B' H' v d F
  | _, _, _, _, .atom h => .atom (h.mono hB)
  | _, _, _, k, .fro o s t e => .fro o (s.mono hB) (Owns.mono hB k t) e
  | _, _, _, k, .own o s t => .own o (s.at o fun a x => k a (by simp [x])) (Owns.mono hB (fun a x => k a (by simp [x])) t)
theorem Owns.mono (hB : ∀ a o, B a = some o → B' a = some o) : ∀ {vs ds F}, (∀ a ∈ F, H' a = H a) → Owns mg B H vs ds F → Owns mg B' H' vs ds F
  | _, _, _, _, .nil => .nil
  | _, _, _, k, .cons h t => .cons (Own.mono hB (fun a x => k a (by simp [x])) h) (Owns.mono hB (fun a x => k a (by simp [x])) t)
end
-- what is owned is there
mutual
theorem Own.there : ∀ {v d F}, Own mg B H v d F → ∀ a ∈ F, H a ≠ none
  | _, _, _, .atom _, a, x => absurd x (by simp)
  | _, _, _, .fro _ _ t _, a, x => Owns.there t a x
  | _, _, _, .own _ s t, a, x => by
    rcases List.mem_append.mp x with x | x
    · exact s.there a x
    · exact Owns.there t a x
theorem Owns.there : ∀ {vs ds F}, Owns mg B H vs ds F → ∀ a ∈ F, H a ≠ none
  | _, _, _, .nil, a, x => absurd x (by simp)
  | _, _, _, .cons h t, a, x => by
    rcases List.mem_append.mp x with x | x
    · exact Own.there h a x
    · exact Owns.there t a x
end
theorem Shape.ne (o : d.own = true) (h : Shape mg X v d vs A) : A ≠ [] := by
  cases v <;> cases d <;> simp only [Shape] at h <;> simp only [D.own] at o
  · rw [h.2]; simp
  · cases o
  · rw [h.1]; simp
  · obtain ⟨C, dx, _, _, _, _, rfl⟩ := h; simp
-- a frozen datum owns nothing
mutual
theorem Own.nil_of : ∀ {v d F}, Own mg B H v d F → d.frz = true → F = []
  | _, _, _, .atom _, _ => rfl
  | _, _, _, .fro _ _ t _, h => Owns.nil_of t (by rw [frz_eq] at h; simp at h; exact h.2)
  | _, _, _, .own o _ _, h => by rw [frz_eq, o] at h; simp at h
theorem Owns.nil_of : ∀ {vs ds F}, Owns mg B H vs ds F → frzs ds = true → F = []
  | _, _, _, .nil, _ => rfl
  | _, _, _, .cons h t, e => by
    simp [frzs] at e
    rw [Own.nil_of h e.1, Owns.nil_of t e.2]; rfl
end
theorem atom_kids (h : Atom mg B v d) : d.kids = [] := by
  cases v <;> cases d <;> simp only [Atom] at h <;> rfl
theorem atom_own (h : Atom mg B v d) : d.own = false := by
  cases v <;> cases d <;> simp only [Atom] at h <;> rfl
mutual
theorem Own.frz_of : ∀ {v d F}, Own mg B H v d F → F = [] → d.frz = true
  | _, _, _, .atom h, _ => by rw [frz_eq, atom_own h, atom_kids h]; rfl
  | _, _, _, .fro o _ t _, e => by rw [frz_eq, o, Owns.frz_of t e]; rfl
  | _, _, _, .own o s _, e => absurd (List.append_eq_nil_iff.mp e).1 (s.ne o)
theorem Owns.frz_of : ∀ {vs ds F}, Owns mg B H vs ds F → F = [] → frzs ds = true
  | _, _, _, .nil, _ => rfl
  | _, _, _, .cons h t, e => by
    obtain ⟨e1, e2⟩ := List.append_eq_nil_iff.mp e
    simp [frzs, Own.frz_of h e1, Owns.frz_of t e2]
end
-- what is owned goes into the ground, its dicts are locked
theorem Shape.lock (ho : d.own = true) (h : Shape mg X v d vs A) : ∃ l : List Addr, l.Nodup ∧ (∀ a ∈ l, a ∈ A ∧ ∃ u, X a = some u ∧ Mut (some u)) ∧
    ∀ B' : Hp, (∀ a ∈ A, a ∉ l → B' a = X a) → (∀ a ∈ l, ∃ od, B' a = (X a).map (HO.frz od)) → Shape mg B' v d.freeze vs A := by
  cases v <;> cases d <;> simp only [Shape] at h <;> simp only [D.own] at ho
  · obtain ⟨h1, rfl⟩ := h
    exact ⟨[], List.nodup_nil, by simp, fun B' k _ => by simp only [D.freeze, Shape]; exact ⟨by rw [k _ (by simp) (by simp)]; exact h1, trivial⟩⟩
  · cases ho
  · rename_i a o kvs
    subst ho
    obtain ⟨rfl, l, h⟩ := h
    rcases h with ⟨ks, e, h⟩ | ⟨ks, e, h⟩
    · have h' : X a = some (.dK (ks.zip vs)) := h
      refine ⟨[a], by simp, fun b hb => ?_, fun B' _ k => ?_⟩
      · rw [List.mem_singleton.mp hb]
        exact ⟨by simp, _, h', trivial⟩
      · obtain ⟨od, eb⟩ := k a (by simp)
        simp only [D.freeze, Shape]
        rw [freezeK_keys, freezeK_len]
        exact ⟨trivial, l, .inl ⟨ks, e, od, by rw [eb, h']; rfl⟩⟩
    · refine ⟨[], List.nodup_nil, by simp, fun B' k _ => ?_⟩
      simp only [D.freeze, Shape]
      rw [freezeK_keys, freezeK_len]
      exact ⟨trivial, l, .inr ⟨ks, e, by rw [k _ (by simp) (by simp)]; exact h⟩⟩
  · obtain ⟨C, dx, h1, h2, h3, h4, rfl⟩ := h
    refine ⟨[], List.nodup_nil, by simp, fun B' k _ => ?_⟩
    simp only [D.freeze, Shape]
    rw [freezeF_keys, freezeF_len]
    exact ⟨C, dx, by rw [k _ (by simp) (by simp)]; exact h1, by rw [k _ (by simp) (by simp)]; exact h2, h3, h4, rfl⟩
mutual
theorem Own.freeze : ∀ {v d F}, Own mg B H v d F → F.Nodup → ∃ l : List Addr, l.Nodup ∧ (∀ a ∈ l, a ∈ F ∧ ∃ u, H a = some u ∧ Mut (some u)) ∧
    ∀ B' H' : Hp, (∀ a o, B a = some o → B' a = some o) → (∀ a ∈ F, a ∉ l → B' a = H a) → (∀ a ∈ l, ∃ od, B' a = (H a).map (HO.frz od)) → Own mg B' H' v d.freeze []
  | _, _, _, .atom h, _ => ⟨[], List.nodup_nil, by simp, fun B' H' hB _ _ => .atom (h.mono hB).freeze⟩
  | _, _, _, .fro o s t e, nd => by
    obtain ⟨l, l1, l2, l3⟩ := Owns.freeze t nd
    exact ⟨l, l1, l2, fun B' H' hB k1 k2 => .fro (own_freeze _) ((s.mono hB).freeze o) (by rw [kids_freeze]; exact l3 B' H' hB k1 k2) fun _ => rfl⟩
  | _, _, _, .own o s t, nd => by
    obtain ⟨n1, n2, n3⟩ := List.nodup_append.mp nd
    obtain ⟨l, l1, l2, l3⟩ := Owns.freeze t n2
    obtain ⟨m, m1, m2, m3⟩ := s.lock o
    refine ⟨m ++ l, List.nodup_append.mpr ⟨m1, l1, fun a x b y => n3 a (m2 a x).1 b (l2 b y).1⟩, fun a x => ?_, fun B' H' hB k1 k2 => ?_⟩
    · rcases List.mem_append.mp x with x | x
      · exact ⟨List.mem_append_left _ (m2 a x).1, (m2 a x).2⟩
      · exact ⟨List.mem_append_right _ (l2 a x).1, (l2 a x).2⟩
    · refine .fro (own_freeze _) (m3 B' (fun a x y => k1 a (List.mem_append_left _ x) fun z => ?_) fun a x => k2 a (List.mem_append_left _ x)) (by
        rw [kids_freeze]
        exact l3 B' H' hB (fun a x y => k1 a (List.mem_append_right _ x) fun z => (List.mem_append.mp z).elim (fun z => n3 a (m2 a z).1 a x rfl) y) fun a x => k2 a (List.mem_append_right _ x)) fun _ => rfl
      rcases List.mem_append.mp z with z | z
      · exact y z
      · exact n3 a x a (l2 a z).1 rfl
theorem Owns.freeze : ∀ {vs ds F}, Owns mg B H vs ds F → F.Nodup → ∃ l : List Addr, l.Nodup ∧ (∀ a ∈ l, a ∈ F ∧ ∃ u, H a = some u ∧ Mut (some u)) ∧
    ∀ B' H' : Hp, (∀ a o, B a = some o → B' a = some o) → (∀ a ∈ F, a ∉ l → B' a = H a) → (∀ a ∈ l, ∃ od, B' a = (H a).map (HO.frz od)) → Owns mg B' H' vs (freezes ds) []
  | _, _, _, .nil, _ => ⟨[], List.nodup_nil, by simp, fun B' H' _ _ _ => .nil⟩
  | _, _, _, .cons h t, nd => by
    obtain ⟨n1, n2, n3⟩ := List.nodup_append.mp nd
    obtain ⟨m, m1, m2, m3⟩ := Own.freeze h n1
    obtain ⟨l, l1, l2, l3⟩ := Owns.freeze t n2
    refine ⟨m ++ l, List.nodup_append.mpr ⟨m1, l1, fun a x b y => n3 a (m2 a x).1 b (l2 b y).1⟩, fun a x => ?_, fun B' H' hB k1 k2 => ?_⟩
    · rcases List.mem_append.mp x with x | x
      · exact ⟨List.mem_append_left _ (m2 a x).1, (m2 a x).2⟩
      · exact ⟨List.mem_append_right _ (l2 a x).1, (l2 a x).2⟩
    · refine .cons (F := []) (G := []) (m3 B' H' hB (fun a x y => k1 a (List.mem_append_left _ x) fun z => ?_) fun a x => k2 a (List.mem_append_left _ x)) (l3 B' H' hB (fun a x y => k1 a (List.mem_append_right _ x) fun z => (List.mem_append.mp z).elim (fun z => n3 a (m2 a z).1 a x rfl) y) fun a x => k2 a (List.mem_append_right _ x))
      rcases List.mem_append.mp z with z | z
      · exact y z
      · exact n3 a x a (l2 a z).1 rfl
end
end
end Eng
/-! Eng2: steps, slots, states. -/
namespace Eng
open PySem L2

/-- from (B, H) to (B', H') by one who may change U: what else stood stands -/
structure Step (B H : Hp) (U : List Addr) (B' H' : Hp) (U' : List Addr) : Prop where
  sub : ∀ a o, B' a = some o → H' a = some o
  bs : ∀ a o, B a = some o → B' a = some o
  keep : ∀ a, H a ≠ none → a ∉ U → H' a = H a
  new : ∀ a ∈ U', a ∈ U ∨ H a = none
  bnew : ∀ a, B' a ≠ none → B a ≠ none ∨ a ∈ U ∨ H a = none
/-- F is owned beside U -/
structure Sep (B : Hp) (F U : List Addr) : Prop where
  nd : F.Nodup
  dj : ∀ a ∈ F, a ∉ U
  off : ∀ a ∈ F, B a = none

section
variable {mg : Ev} {B B' B1 B2 H H' H1 H2 : Hp} {v : V} {d d' : D} {vs : List V} {ds : List D} {A F F' G U U' U1 U2 : List Addr} {σ σ' : List (Option V)} {ρ ρ' : List (Option D)}
theorem Step.refl (s : ∀ a o, B a = some o → H a = some o) : Step B H U B H U :=
  ⟨s, fun _ _ h => h, fun _ _ _ => rfl, fun _ h => .inl h, fun _ h => .inl h⟩
theorem Step.trans (s : Step B H U B1 H1 U1) (t : Step B1 H1 U1 B2 H2 U2) : Step B H U B2 H2 U2 where
  sub := t.sub
  bs := fun a o h => t.bs a o (s.bs a o h)
  keep := fun a h n => by
    have e := s.keep a h n
    rw [← e]
    refine t.keep a (by rw [e]; exact h) fun z => ?_
    rcases s.new a z with z | z
    · exact n z
    · exact h z
  new := fun a z => by
    rcases t.new a z with z | z
    · exact s.new a z
    · by_cases y : H a = none
      · exact .inr y
      · by_cases x : a ∈ U
        · exact .inl x
        · rw [s.keep a y x] at z
          exact absurd z y
  bnew := fun a z => by
    rcases t.bnew a z with z | z | z
    · exact s.bnew a z
    · exact .inr (s.new a z)
    · by_cases y : H a = none
      · exact .inr (.inr y)
      · by_cases x : a ∈ U
        · exact .inr (.inl x)
        · rw [s.keep a y x] at z
          exact absurd z y
/-- may change more, owns less -/
theorem Step.weak (s : Step B H U B' H' U') (h : ∀ a ∈ U, a ∈ F) (h' : ∀ a ∈ G, a ∈ U' ∨ a ∈ F ∨ H a = none) : Step B H F B' H' G where
  sub := s.sub
  bs := s.bs
  keep := fun a x n => s.keep a x fun z => n (h a z)
  new := fun a z => by
    rcases h' a z with z | z | z
    · rcases s.new a z with z | z
      · exact .inl (h a z)
      · exact .inr z
    · exact .inl z
    · exact .inr z
  bnew := fun a z => by
    rcases s.bnew a z with z | z | z
    · exact .inl z
    · exact .inr (.inl (h a z))
    · exact .inr (.inr z)
/-- one who changes nothing, seen by one who owns U -/
theorem Step.none_of (s : Step B H [] B' H' []) : Step B H U B' H' U := s.weak (fun _ h => absurd h (by simp)) fun _ h => .inr (.inl h)
/-- what is owned elsewhere stays -/
theorem Own.step (h : Own mg B H v d F) (s : Step B H U B' H' U') (n : ∀ a ∈ F, a ∉ U) : Own mg B' H' v d F :=
  h.mono s.bs fun a x => s.keep a (h.there a x) (n a x)
theorem Owns.step (h : Owns mg B H vs ds F) (s : Step B H U B' H' U') (n : ∀ a ∈ F, a ∉ U) : Owns mg B' H' vs ds F :=
  h.mono s.bs fun a x => s.keep a (h.there a x) (n a x)
theorem Sep.step (k : Sep B F U) (t : ∀ a ∈ F, H a ≠ none) (s : Step B H U B' H' U') : Sep B' F U' where
  nd := k.nd
  dj := fun a x y => by
    rcases s.new a y with y | y
    · exact k.dj a x y
    · exact t a x y
  off := fun a x => by
    cases e : B' a with
    | none => rfl
    | some o =>
      rcases s.bnew a (by rw [e]; simp) with y | y | y
      · exact absurd (k.off a x) y
      · exact absurd y (k.dj a x)
      · exact absurd y (t a x)
theorem Sep.nil : Sep B [] U := ⟨List.nodup_nil, fun _ h => absurd h (by simp), fun _ h => absurd h (by simp)⟩
theorem Sep.mono (k : Sep B F U) (h : ∀ a ∈ U', a ∈ U) : Sep B F U' := ⟨k.nd, fun a x y => k.dj a x (h a y), k.off⟩

/-! ### slots -/
theorem set_self {α : Type} : ∀ {l : List α} {i : Nat} {x : α}, l[i]? = some x → l.set i x = l
  | [], _, _, h => by simp at h
  | y :: l, 0, x, h => by simp at h; simp [h]
  | y :: l, i + 1, x, h => by simp at h; simp [set_self h]
/-- H on F, else B -/
def lay (B H : Hp) (F : List Addr) : Hp := fun a => if a ∈ F then H a else B a
theorem lay_in {a : Addr} (h : a ∈ F) : lay B H F a = H a := if_pos h
theorem lay_out {a : Addr} (h : a ∉ F) : lay B H F a = B a := if_neg h
def Slots (mg : Ev) (B H : Hp) (σ : List (Option V)) (ρ : List (Option D)) (U : List Addr) : Prop :=
  σ.length = ρ.length ∧ ∃ Fs : List (List Addr), Fs.length = ρ.length ∧ U.Perm Fs.flatten ∧
    ∀ (i : Nat) (d : D), ρ[i]? = some (some d) → ∃ v F, σ[i]? = some (some v) ∧ Fs[i]? = some F ∧ Own mg B H v d F
theorem flatten_set {α : Type} : ∀ (Fs : List (List α)) (i : Nat) (F' : List α), i < Fs.length → (Fs.set i F').flatten.Perm (F' ++ (Fs.set i []).flatten)
  | [], i, _, h => absurd h (by simp)
  | F :: Fs, 0, F', _ => by simp
  | F :: Fs, i + 1, F', h => by
    have ih := flatten_set Fs i F' (by simpa using h)
    simp only [List.set_cons_succ, List.flatten_cons]
    refine (ih.append_left F).trans ?_
    rw [← List.append_assoc, ← List.append_assoc]
    exact List.perm_append_comm.append_right _
theorem Slots.take {i : Nat} (s : Slots mg B H σ ρ U) (h : ρ[i]? = some (some d)) :
    ∃ v F U', σ[i]? = some (some v) ∧ Own mg B H v d F ∧ U.Perm (F ++ U') ∧ Slots mg B H σ (ρ.set i none) U' := by
  obtain ⟨l, Fs, lf, pu, k⟩ := s
  obtain ⟨v, F, e1, e2, o⟩ := k i d h
  have hi : i < Fs.length := by
    rw [lf]; exact (List.getElem?_eq_some_iff.mp h).1
  have hs : Fs.set i F = Fs := set_self e2
  refine ⟨v, F, (Fs.set i []).flatten, e1, o, ?_, by simp [l], Fs.set i [], by simp [lf], List.Perm.refl _, fun j d' hj => ?_⟩
  · have := flatten_set Fs i F hi
    rw [hs] at this
    exact pu.trans this
  · by_cases e : j = i
    · subst e
      rw [List.getElem?_set_self (by rw [lf] at hi; exact hi)] at hj
      simp at hj
    · rw [List.getElem?_set_ne (Ne.symm e)] at hj
      obtain ⟨v', F', a, b, c⟩ := k j d' hj
      exact ⟨v', F', a, by rw [List.getElem?_set_ne (Ne.symm e)]; exact b, c⟩
theorem Slots.put {i : Nat} (s : Slots mg B H σ ρ U) (hi : i < ρ.length) :
    ∃ U', (∀ a ∈ U', a ∈ U) ∧ (U.Nodup → U'.Nodup) ∧ ∀ v d F, Own mg B H v d F → Slots mg B H (σ.set i (some v)) (ρ.set i (some d)) (F ++ U') := by
  obtain ⟨l, Fs, lf, pu, k⟩ := s
  have hif : i < Fs.length := by rw [lf]; exact hi
  have e : Fs[i]? = some Fs[i] := List.getElem?_eq_getElem hif
  have pf := flatten_set Fs i Fs[i] hif
  rw [set_self e] at pf
  have pu' := pu.trans pf
  refine ⟨(Fs.set i []).flatten, fun a h => pu'.mem_iff.mpr (List.mem_append.mpr (.inr h)), fun nd => (List.nodup_append.mp (pu'.nodup_iff.mp nd)).2.1, fun v d F o => ?_⟩
  refine ⟨by simp [l], Fs.set i F, by simp [lf], (flatten_set Fs i F hif).symm, fun j d' hj => ?_⟩
  by_cases ej : j = i
  · subst ej
    rw [List.getElem?_set_self hi] at hj
    simp at hj
    subst hj
    exact ⟨v, F, by rw [List.getElem?_set_self (by rw [l]; exact hi)], by rw [List.getElem?_set_self hif], o⟩
  · rw [List.getElem?_set_ne (Ne.symm ej)] at hj
    obtain ⟨v', F', a, b, c⟩ := k j d' hj
    exact ⟨v', F', by rw [List.getElem?_set_ne (Ne.symm ej)]; exact a, by rw [List.getElem?_set_ne (Ne.symm ej)]; exact b, c⟩
theorem Slots.mono (hB : ∀ a o, B a = some o → B' a = some o) (hH : ∀ a ∈ U, H' a = H a) (s : Slots mg B H σ ρ U) : Slots mg B' H' σ ρ U := by
  obtain ⟨l, Fs, lf, pu, k⟩ := s
  refine ⟨l, Fs, lf, pu, fun i d h => ?_⟩
  obtain ⟨v, F, a, b, c⟩ := k i d h
  refine ⟨v, F, a, b, c.mono hB fun x hx => hH x (pu.mem_iff.mpr (List.mem_flatten.mpr ⟨F, List.mem_of_getElem? b, hx⟩))⟩
theorem Slots.perm (s : Slots mg B H σ ρ U) (p : U'.Perm U) : Slots mg B H σ ρ U' := by
  obtain ⟨l, Fs, lf, pu, k⟩ := s
  exact ⟨l, Fs, lf, p.trans pu, k⟩
theorem Slots.lenEq (s : Slots mg B H σ ρ U) : σ.length = ρ.length := s.1

structure Sta (mg : Ev) (B H : Hp) (σ : List (Option V)) (ρ : List (Option D)) (U : List Addr) : Prop where
  sub : ∀ a o, B a = some o → H a = some o
  sl : Slots mg B H σ ρ U
  nd : U.Nodup
  off : ∀ a ∈ U, B a = none
  ex : ∀ a ∈ U, H a ≠ none
theorem Sta.take {i : Nat} (s : Sta mg B H σ ρ U) (h : ρ[i]? = some (some d)) :
    ∃ v F U', σ[i]? = some (some v) ∧ Own mg B H v d F ∧ Sep B F U' ∧ Sta mg B H σ (ρ.set i none) U' ∧ (∀ a, a ∈ U ↔ a ∈ F ∨ a ∈ U') := by
  obtain ⟨v, F, U', e, o, p, sl⟩ := s.sl.take h
  have nd := List.nodup_append.mp (p.nodup_iff.mp s.nd)
  have m : ∀ a, a ∈ U ↔ a ∈ F ∨ a ∈ U' := fun a => by rw [p.mem_iff, List.mem_append]
  exact ⟨v, F, U', e, o, ⟨nd.1, fun a x y => nd.2.2 a x a y rfl, fun a x => s.off a ((m a).mpr (.inl x))⟩,
    ⟨s.sub, sl, nd.2.1, fun a x => s.off a ((m a).mpr (.inr x)), fun a x => s.ex a ((m a).mpr (.inr x))⟩, m⟩
theorem Sta.put {i : Nat} (s : Sta mg B H σ ρ U) (hi : i < ρ.length) (o : Own mg B H v d F) (k : Sep B F U) :
    ∃ U', Sta mg B H (σ.set i (some v)) (ρ.set i (some d)) (F ++ U') ∧ (∀ a ∈ U', a ∈ U) := by
  obtain ⟨U', m, nd, h⟩ := s.sl.put hi
  refine ⟨U', ⟨s.sub, h v d F o, List.nodup_append.mpr ⟨k.nd, nd s.nd, fun a x b y e => ?_⟩, fun a x => ?_, fun a x => ?_⟩, m⟩
  · subst e; exact k.dj a x (m a y)
  · rcases List.mem_append.mp x with x | x
    · exact k.off a x
    · exact s.off a (m a x)
  · rcases List.mem_append.mp x with x | x
    · exact o.there a x
    · exact s.ex a (m a x)
/-- someone else makes a step -/
theorem Sta.step (s : Sta mg B H σ ρ U) (t : Step B H G B' H' F) (n : ∀ a ∈ U, a ∉ G) : Sta mg B' H' σ ρ U where
  sub := t.sub
  sl := s.sl.mono t.bs fun a x => t.keep a (s.ex a x) (n a x)
  nd := s.nd
  off := fun a x => by
    cases e : B' a with
    | none => rfl
    | some o =>
      rcases t.bnew a (by rw [e]; simp) with y | y | y
      · exact absurd (s.off a x) y
      · exact absurd y (n a x)
      · exact absurd y (s.ex a x)
  ex := fun a x => by rw [t.keep a (s.ex a x) (n a x)]; exact s.ex a x
theorem Sta.stepN (s : Sta mg B H σ ρ U) (t : Step B H [] B' H' []) : Sta mg B' H' σ ρ U := s.step t fun _ _ h => absurd h (by simp)
theorem Sta.len (s : Sta mg B H σ ρ U) : σ.length = ρ.length := s.sl.1
/-- forget a slot's datum -/
theorem Sta.drop {i : Nat} (s : Sta mg B H σ ρ U) : Sta mg B H σ (ρ.set i none) U := by
  obtain ⟨l, Fs, lf, pu, k⟩ := s.sl
  refine ⟨s.sub, ⟨by simp [l], Fs, by simp [lf], pu, fun j d h => ?_⟩, s.nd, s.off, s.ex⟩
  by_cases e : j = i
  · subst e
    by_cases hj : j < ρ.length
    · rw [List.getElem?_set_self hj] at h; simp at h
    · rw [List.getElem?_eq_none (by simp; omega)] at h; simp at h
  · rw [List.getElem?_set_ne (Ne.symm e)] at h
    exact k j d h
/-- dicts are locked -/
def lk (H : Hp) (l : List Addr) (od : Addr → Obj) : Hp := fun b => if b ∈ l then (H b).map (HO.frz (od b)) else H b
theorem lk_out {l : List Addr} {od : Addr → Obj} {a : Addr} (h : a ∉ l) : lk H l od a = H a := if_neg h
theorem lk_in {l : List Addr} {od : Addr → Obj} {a : Addr} (h : a ∈ l) : lk H l od a = (H a).map (HO.frz (od a)) := if_pos h
theorem lk_nil {od : Addr → Obj} : lk H [] od = H := by
  funext b; exact lk_out (by simp)
/-- freeze what is owned beside the slots -/
theorem freeze_sep (hs : ∀ a o, B a = some o → H a = some o) (o : Own mg B H v d F) (k : Sep B F U) :
    ∃ l : List Addr, l.Nodup ∧ (∀ a ∈ l, ∃ u, H a = some u ∧ Mut (some u)) ∧ ∀ od : Addr → Obj, ∃ B', Step B H F B' (lk H l od) [] ∧ Own mg B' (lk H l od) v d.freeze [] ∧ (∀ a, B' a ≠ none → B a ≠ none ∨ a ∈ F) := by
  obtain ⟨l, l1, l2, l3⟩ := o.freeze k.nd
  refine ⟨l, l1, fun a x => (l2 a x).2, fun od => ?_⟩
  have out : ∀ a o, B a = some o → a ∉ F := fun a o h z => by rw [k.off a z] at h; cases h
  have lo : ∀ a, lay B (lk H l od) F a ≠ none → B a ≠ none ∨ a ∈ F := fun a h => by
    by_cases z : a ∈ F
    · exact .inr z
    · rw [lay_out z] at h; exact .inl h
  have nl : ∀ a, a ∉ F → lk H l od a = H a := fun a z => lk_out fun y => z (l2 a y).1
  refine ⟨lay B (lk H l od) F, ⟨fun a o h => ?_, fun a o h => ?_, fun a _ z => nl a z, fun _ h => absurd h (by simp), fun a h => ?_⟩, ?_, lo⟩
  · by_cases z : a ∈ F
    · rw [lay_in z] at h; exact h
    · rw [lay_out z] at h; rw [nl a z]; exact hs a o h
  · rw [lay_out (out a o h)]; exact h
  · rcases lo a h with h | h
    · exact .inl h
    · exact .inr (.inl h)
  · refine l3 _ _ (fun a o h => by rw [lay_out (out a o h)]; exact h) (fun a x y => by rw [lay_in x]; exact lk_out y) fun a x => ⟨od a, by rw [lay_in (l2 a x).1]; exact lk_in x⟩
end
/-! the machine's side of it -/
section
variable {X : Cx} {pins : List (Addr × Obj)} {σ : St} {s : Shared}
theorem inv_lk : ∀ (l : List Addr) {H : Hp}, Inv X pins σ H s → l.Nodup → (∀ a ∈ l, ∃ u, H a = some u ∧ Mut (some u)) → ∃ od, Inv X pins σ (lk H l od) s
  | [], H, I, _, _ => ⟨fun _ => ⟨.none, none, .plain, #[]⟩, by rw [lk_nil]; exact I⟩
  | d :: l, H, I, nd, h => by
    obtain ⟨n1, n2⟩ := List.nodup_cons.mp nd
    obtain ⟨u, e, mu⟩ := h d (by simp)
    obtain ⟨o0, I1⟩ := I.lock e mu
    have ne : ∀ a ∈ l, a ≠ d := fun a x z => n1 (by rw [← z]; exact x)
    obtain ⟨od, I2⟩ := inv_lk l I1 n2 fun a x => by
      obtain ⟨u', e', mu'⟩ := h a (by simp [x])
      exact ⟨u', by rw [upd_ne (ne a x)]; exact e', mu'⟩
    refine ⟨fun b => if b = d then o0 else od b, ?_⟩
    have eq : lk H (d :: l) (fun b => if b = d then o0 else od b) = lk (upd H d (.frz o0 u)) l od := by
      funext b
      by_cases hb : b = d
      · subst hb
        rw [lk_in (by simp), lk_out n1, upd_same, e]
        simp
      · by_cases hl : b ∈ l
        · rw [lk_in (by simp [hl]), lk_in hl, upd_ne hb, if_neg hb]
        · rw [lk_out (by simp [hb, hl]), lk_out hl, upd_ne hb]
    rw [eq]; exact I2
/-- ahead of statements, nothing is seen of it -/
theorem pss_lk {sts : List Stmt} {t : TS} (h : PSs X sts t) : PSs X sts (fun D σ H => ∃ l : List Addr, l.Nodup ∧ (∀ a ∈ l, ∃ u, H a = some u ∧ Mut (some u)) ∧ ∀ od, t D σ (lk H l od)) :=
  ⟨fun pins s σ H D I ⟨l, n, m, q⟩ => by
    obtain ⟨od, I1⟩ := inv_lk l I n m
    exact h.run pins s σ _ D I1 (q od)⟩
/-- behind an expression -/
theorem pe_lk {e : Expr} {t : TE} (h : PE X e t) : PE X e (fun σ H Q => t σ H fun v H1 => ∃ l : List Addr, l.Nodup ∧ (∀ a ∈ l, ∃ u, H1 a = some u ∧ Mut (some u)) ∧ ∀ od, Q v (lk H1 l od)) :=
  ⟨fun pins s σ H Q I q => thn (h.run pins s σ H _ I q) fun u s1 ⟨x, H1, I1, r, l, n, m, q1⟩ => by
    obtain ⟨od, I2⟩ := inv_lk l I1 n m
    exact ⟨x, _, I2, r, q1 od⟩⟩
end
end Eng
/-! Eng3: what an expression does to trees; the judgements; operators. -/
namespace Eng
open PySem L2

abbrev Rho := List (Option D)
/-- an exception of the text's own: its class, its fields -/
structure Exc where
  cls : Str
  fs : List (Str × D)
inductive Res (α : Type) where
  | ok (a : α) (ρ : Rho)
  | exc (e : Exc) (ρ : Rho)
  | stuck
abbrev M (α : Type) := Rho → Res α
def Res.bind {α β : Type} (x : Res α) (f : α → M β) : Res β := match x with
  | .ok a ρ => f a ρ
  | .exc e ρ => .exc e ρ
  | .stuck => .stuck
def mBind {α β : Type} (m : M α) (f : α → M β) : M β := fun ρ => (m ρ).bind f
def mPure {α : Type} (a : α) : M α := fun ρ => .ok a ρ
def mOpt {α : Type} (x : Option α) : M α := fun ρ => match x with
  | some a => .ok a ρ
  | none => .stuck
def mStuck {α : Type} : M α := fun _ => .stuck
def noExc {α : Type} (m : M α) : M α := fun ρ => match m ρ with
  | .ok a ρ' => .ok a ρ'
  | _ => .stuck

/-- whose addresses are these -/
structure Rel (mg : Ev) where
  R : Hp → Hp → List Addr → Prop
  step : ∀ {B H B' H' U U' F}, R B H F → Step B H U B' H' U' → (∀ a ∈ F, a ∉ U) → R B' H' F
  there : ∀ {B H F}, R B H F → ∀ a ∈ F, H a ≠ none
def oV (mg : Ev) (v : V) (d : D) : Rel mg := ⟨fun B H F => Own mg B H v d F, fun h s n => h.step s n, fun h => h.there⟩
def oL (mg : Ev) (vs : List V) (ds : List D) : Rel mg := ⟨fun B H F => Owns mg B H vs ds F, fun h s n => h.step s n, fun h => h.there⟩
def oN (mg : Ev) : Rel mg := ⟨fun _ _ F => F = [], fun h _ _ => h, fun h a x => by subst h; simp at x⟩
def Rel.and {mg : Ev} (r s : Rel mg) : Rel mg := ⟨fun B H F => ∃ F1 F2, F = F1 ++ F2 ∧ r.R B H F1 ∧ s.R B H F2,
  fun ⟨F1, F2, e, h1, h2⟩ st n => ⟨F1, F2, e, r.step h1 st fun a x => n a (by rw [e]; simp [x]), s.step h2 st fun a x => n a (by rw [e]; simp [x])⟩,
  fun ⟨F1, F2, e, h1, h2⟩ a x => by
    rw [e] at x
    rcases List.mem_append.mp x with x | x
    · exact r.there h1 a x
    · exact s.there h2 a x⟩

/-- alt: may it have altered what the slots hold; sep: is what comes out owned beside the slots -/
structure Post (mg : Ev) (alt sep : Bool) (B H : Hp) (σ : St) (ρ : Rho) (U : List Addr) (ρ' : Rho) (r : Rel mg) (B' H' : Hp) (U' F : List Addr) : Prop where
  st : Eng.Sta mg B' H' σ ρ' U'
  own : r.R B' H' F
  sep : sep = true → Sep B' F U' ∧ ∀ a ∈ F, a ∈ U ∨ H a = none
  step : Step B H U B' H' U'
  alt : alt = false → ρ' = ρ ∧ U' = U ∧ Step B H [] B' H' []

section
variable {mg : Ev} {a1 a2 s1 s2 alt sep : Bool} {B B1 B2 B' H H1 H2 H' : Hp} {σ : St} {ρ ρ1 ρ2 ρ' : Rho} {U U1 U2 U' F F1 F2 : List Addr} {r r1 r2 : Rel mg}
theorem Post.comb (p : Post mg a1 s1 B H σ ρ U ρ1 r1 B1 H1 U1 F1) (q : Post mg a2 s2 B1 H1 σ ρ1 U1 ρ2 r2 B2 H2 U2 F2) (hc : a2 = false ∨ s1 = true) :
    Post mg (a1 || a2) (s1 && s2) B H σ ρ U ρ2 (r1.and r2) B2 H2 U2 (F1 ++ F2) where
  st := q.st
  own := by
    refine ⟨F1, F2, rfl, ?_, q.own⟩
    rcases hc with e | e
    · exact r1.step p.own (q.alt e).2.2 fun _ _ h => absurd h (by simp)
    · exact r1.step p.own q.step (p.sep e).1.dj
  sep := fun e => by
    simp only [Bool.and_eq_true] at e
    obtain ⟨k1, n1⟩ := p.sep e.1
    obtain ⟨k2, n2⟩ := q.sep e.2
    have th := r1.there p.own
    have k1' := k1.step th q.step
    refine ⟨⟨List.nodup_append.mpr ⟨k1'.nd, k2.nd, fun a x b y e => ?_⟩, fun a x => ?_, fun a x => ?_⟩, fun a x => ?_⟩
    · subst e
      rcases n2 a y with z | z
      · exact k1.dj a x z
      · exact th a x z
    · rcases List.mem_append.mp x with x | x
      · exact k1'.dj a x
      · exact k2.dj a x
    · rcases List.mem_append.mp x with x | x
      · exact k1'.off a x
      · exact k2.off a x
    · rcases List.mem_append.mp x with x | x
      · exact n1 a x
      · rcases n2 a x with z | z
        · exact p.step.new a z
        · by_cases y : H a = none
          · exact .inr y
          · by_cases w : a ∈ U
            · exact .inl w
            · rw [p.step.keep a y w] at z; exact absurd z y
  step := p.step.trans q.step
  alt := fun e => by
    simp only [Bool.or_eq_false_iff] at e
    obtain ⟨x1, x2, x3⟩ := p.alt e.1
    obtain ⟨y1, y2, y3⟩ := q.alt e.2
    exact ⟨y1.trans x1, y2.trans x2, x3.trans y3⟩

/-- a reading's end: something new, all else as it was -/
structure New (mg : Ev) (B H : Hp) (v : V) (d : D) (B' H' : Hp) (F : List Addr) : Prop where
  own : Own mg B' H' v d F
  step : Step B H [] B' H' []
  nd : F.Nodup
  nw : ∀ a ∈ F, H a = none ∧ B' a = none
theorem New.flat {v : V} {d : D} (hs : ∀ a o, B a = some o → H a = some o) (h : Own mg B H v d []) : New mg B H v d B H [] := ⟨h, Step.refl hs, List.nodup_nil, fun _ h => absurd h (by simp)⟩
theorem Post.fin {v : V} {d : D} (p : Post mg alt sep B H σ ρ U ρ1 r B1 H1 U1 F) (q : New mg B1 H1 v d B' H' F') : Post mg alt true B H σ ρ U ρ1 (oV mg v d) B' H' U1 F' where
  st := p.st.stepN q.step
  own := q.own
  sep := fun _ => ⟨⟨q.nd, fun a x y => p.st.ex a y (q.nw a x).1, fun a x => (q.nw a x).2⟩, fun a x => by
    by_cases y : H a = none
    · exact .inr y
    · by_cases w : a ∈ U
      · exact .inl w
      · have := p.step.keep a y w
        rw [(q.nw a x).1] at this
        exact absurd this.symm y⟩
  step := p.step.trans q.step.none_of
  alt := fun e => by
    obtain ⟨x, y, z⟩ := p.alt e
    exact ⟨x, y, z.trans q.step⟩
/-- less is told -/
theorem Post.weak (p : Post mg a1 s1 B H σ ρ U ρ' r B' H' U' F) (ha : a2 = false → a1 = false) (hs : s2 = true → s1 = true) : Post mg a2 s2 B H σ ρ U ρ' r B' H' U' F :=
  ⟨p.st, p.own, fun e => p.sep (hs e), p.step, fun e => p.alt (ha e)⟩
end

/-- how an exception lies -/
def ExcR (mg : Ev) (B H : Hp) (e : Exc) (cls : Value) (dx : Option Addr) : Prop :=
  ∃ C, mg.mg e.cls = some (.ref C) ∧ cls = .ref C ∧ ((e.fs = [] ∧ dx = none) ∨ ∃ a vs, e.fs ≠ [] ∧ dx = some a ∧ B a = some (.xd ((e.fs.map (·.1)).zip vs)) ∧ Owns mg B H vs (e.fs.map (·.2)) [])
def excW (mg : Ev) (W : WX) (B H : Hp) (σ : St) (U : List Addr) (e : Exc) (ρ' : Rho) : Prop :=
  ∀ B' H' U' cls dx, Eng.Sta mg B' H' σ ρ' U' → Step B H U B' H' U' → ExcR mg B' H' e cls dx → W cls dx σ H'

def tE (mg : Ev) (W : WX) (alt sep : Bool) (m : M D) : TE := fun σ H Q => ∃ B ρ U, Eng.Sta mg B H σ ρ U ∧ match m ρ with
  | .ok d ρ' => ∀ v B' H' U' F, Post mg alt sep B H σ ρ U ρ' (oV mg v d) B' H' U' F → Q v H'
  | .exc e ρ' => excW mg W B H σ U e ρ'
  | .stuck => False
def tT (mg : Ev) (W : WX) (alt : Bool) (m : M Bool) : TT := fun σ H Q => ∃ B ρ U, Eng.Sta mg B H σ ρ U ∧ match m ρ with
  | .ok b ρ' => ∀ B' H' U', Post mg alt true B H σ ρ U ρ' (oN mg) B' H' U' [] → Q b H'
  | .exc e ρ' => excW mg W B H σ U e ρ'
  | .stuck => False
def tL (mg : Ev) (W : WX) (alt sep : Bool) (m : M (List D)) : TA := fun σ H Q => ∃ B ρ U, Eng.Sta mg B H σ ρ U ∧ match m ρ with
  | .ok ds ρ' => ∀ vs B' H' U' F, Post mg alt sep B H σ ρ U ρ' (oL mg vs ds) B' H' U' F → Q vs H'
  | .exc e ρ' => excW mg W B H σ U e ρ'
  | .stuck => False
def PD (X : Cx) (W : WX) (alt sep : Bool) (e : Expr) (m : M D) : Prop := PE X e (tE X.ev W alt sep m)
def PDT (X : Cx) (W : WX) (alt : Bool) (e : Expr) (m : M Bool) : Prop := PT X e (tT X.ev W alt m)
def PDW (X : Cx) (W : WX) (alt : Bool) (e : Expr) (m : M Bool) : Prop := PW X e (tT X.ev W alt m)
def PDL (X : Cx) (W : WX) (alt sep : Bool) (es : List Expr) (m : M (List D)) : Prop := PA X es (tL X.ev W alt sep m)

theorem PE.weak {X : Cx} {e : Expr} {t t' : TE} (h : PE X e t) (w : ∀ σ H Q, t' σ H Q → t σ H Q) : PE X e t' := ⟨fun pins s σ H Q I q => h.run pins s σ H Q I (w _ _ _ q)⟩
theorem PT.weak {X : Cx} {e : Expr} {t t' : TT} (h : PT X e t) (w : ∀ σ H Q, t' σ H Q → t σ H Q) : PT X e t' := ⟨fun pins s σ H Q I q => h.run pins s σ H Q I (w _ _ _ q)⟩
theorem PW.weak {X : Cx} {e : Expr} {t t' : TT} (h : PW X e t) (w : ∀ σ H Q, t' σ H Q → t σ H Q) : PW X e t' := ⟨fun wh pins s σ H Q I q => h.run wh pins s σ H Q I (w _ _ _ q)⟩
theorem PA.weak {X : Cx} {e : List Expr} {t t' : TA} (h : PA X e t) (w : ∀ σ H Q, t' σ H Q → t σ H Q) : PA X e t' := ⟨fun pos pins s σ H Q I q => h.run pos pins s σ H Q I (w _ _ _ q)⟩
theorem PS.weak {X : Cx} {e : Stmt} {t t' : TS} (h : PS X e t) (w : ∀ D σ H, t' D σ H → t D σ H) : PS X e t' := ⟨fun pins s σ H D I q => h.run pins s σ H D I (w _ _ _ q)⟩
theorem PSs.weak {X : Cx} {e : List Stmt} {t t' : TS} (h : PSs X e t) (w : ∀ D σ H, t' D σ H → t D σ H) : PSs X e t' := ⟨fun pins s σ H D I q => h.run pins s σ H D I (w _ _ _ q)⟩

section
variable {X : Cx} {W : WX} {alt alt' sep sep' a1 a2 s1 s2 : Bool} {e ea eb : Expr} {es : List Expr} {m ma mb : M D} {ms : M (List D)} {mc : M Bool} {pos : Pos}

/-- the exception's wish goes back over a step -/
theorem excW.back {mg : Ev} {W : WX} {B H B' H' : Hp} {σ : St} {U U' : List Addr} {x : Exc} {ρ' : Rho} (h : excW mg W B H σ U x ρ') (s : Step B H U B' H' U') : excW mg W B' H' σ U' x ρ' :=
  fun B2 H2 U2 cls dx st t r => h B2 H2 U2 cls dx st (s.trans t) r

/-- less is told of an expression -/
theorem PD.to (h : PD X W a1 s1 e m) (ha : a2 = false → a1 = false := by decide) (hs : s2 = true → s1 = true := by decide) : PD X W a2 s2 e m := PE.weak h fun σ H Q ⟨B, ρ, U, st, k⟩ => by
  refine ⟨B, ρ, U, st, ?_⟩
  cases hm : m ρ with
  | ok d ρ' => rw [hm] at k; exact fun v B' H' U' F p => k v B' H' U' F (p.weak ha hs)
  | exc x ρ' => rw [hm] at k; exact k
  | stuck => rw [hm] at k; exact k
/-- it is frozen: so it is nobody's -/
def eFz (m : M D) : M D := fun ρ => match m ρ with
  | .ok d ρ' => if d.frz then .ok d ρ' else .stuck
  | .exc e ρ' => .exc e ρ'
  | .stuck => .stuck
theorem d_fz (h : PD X W alt sep e m) : PD X W alt true e (eFz m) := PE.weak h fun σ H Q ⟨B, ρ, U, st, k⟩ => by
  refine ⟨B, ρ, U, st, ?_⟩
  unfold eFz at k
  cases hm : m ρ with
  | ok d ρ' =>
    rw [hm] at k
    by_cases hf : d.frz = true
    · simp only [hf, if_true] at k
      intro v B' H' U' F p
      obtain rfl := Own.nil_of p.own hf
      exact k v B' H' U' [] ⟨p.st, p.own, fun _ => ⟨Sep.nil, fun _ h => absurd h (by simp)⟩, p.step, p.alt⟩
    · simp [hf] at k
  | exc x ρ' => rw [hm] at k; exact k
  | stuck => rw [hm] at k; exact k

/-! ### names and constants -/
def ePk (i : Nat) : M D := fun ρ => match ρ[i]? with
  | some (some d) => .ok d ρ
  | _ => .stuck
theorem d_pk (i : Nat) {x : Str} (hN : X.N[i]? = some x := by rfl) (hv : Vis X.env.scope x := by first | exact Or.inl rfl | exact Or.inr (Or.inl rfl) | exact Or.inr (Or.inr rfl)) (hd : (x == ("__debug__" : Str)) = false := by decide)
    (hcd : (x == ("__classdict__" : Str)) = false := by decide) : PD X W false false (.Name x pos) (ePk i) := PE.weak (pe_var (i := i) hN hv hd hcd) fun σ H Q ⟨B, ρ, U, st, k⟩ => by
  unfold ePk at k
  cases hr : ρ[i]? with
  | none => rw [hr] at k; exact k.elim
  | some o =>
    cases o with
    | none => rw [hr] at k; exact k.elim
    | some d =>
      rw [hr] at k
      obtain ⟨_, Fs, _, _, kk⟩ := st.sl
      obtain ⟨v, F, e1, e2, o⟩ := kk i d hr
      exact ⟨v, e1, k v B H U F ⟨st, o, fun h => by simp at h, Step.refl st.sub, fun _ => ⟨rfl, rfl, Step.refl st.sub⟩⟩⟩
def eVar (i : Nat) : M D := eFz (ePk i)
theorem d_var (i : Nat) {x : Str} (hN : X.N[i]? = some x := by rfl) (hv : Vis X.env.scope x := by first | exact Or.inl rfl | exact Or.inr (Or.inl rfl) | exact Or.inr (Or.inr rfl)) (hd : (x == ("__debug__" : Str)) = false := by decide)
    (hcd : (x == ("__classdict__" : Str)) = false := by decide) : PD X W false true (.Name x pos) (eVar i) := d_fz (d_pk i hN hv hd hcd)
/-- the slot gives it away -/
def eMov (i : Nat) : M D := fun ρ => match ρ[i]? with
  | some (some d) => .ok d (ρ.set i none)
  | _ => .stuck
theorem d_mov (i : Nat) {x : Str} (hN : X.N[i]? = some x := by rfl) (hv : Vis X.env.scope x := by first | exact Or.inl rfl | exact Or.inr (Or.inl rfl) | exact Or.inr (Or.inr rfl)) (hd : (x == ("__debug__" : Str)) = false := by decide)
    (hcd : (x == ("__classdict__" : Str)) = false := by decide) : PD X W true true (.Name x pos) (eMov i) := PE.weak (pe_var (i := i) hN hv hd hcd) fun σ H Q ⟨B, ρ, U, st, k⟩ => by
  unfold eMov at k
  cases hr : ρ[i]? with
  | none => rw [hr] at k; exact k.elim
  | some o =>
    cases o with
    | none => rw [hr] at k; exact k.elim
    | some d =>
      rw [hr] at k
      obtain ⟨v, F, U', e, o, sp, st', m⟩ := st.take hr
      refine ⟨v, e, k v B H U' F ⟨st', o, fun _ => ⟨sp, fun a x => .inl ((m a).mpr (.inl x))⟩, ?_, fun h => by simp at h⟩⟩
      exact (Step.refl (U := U) st.sub).weak (fun _ h => h) fun a x => .inl ((m a).mpr (.inr x))
def eK (d : D) : M D := mPure d
theorem d_atom {v : V} {d : D} (h : PE X e (tC v)) (ha : ∀ B, Atom X.ev B v d) : PD X W false true e (eK d) := PE.weak h fun σ H Q ⟨B, ρ, U, st, k⟩ =>
  k v B H U [] ⟨st, .atom (ha B), fun _ => ⟨Sep.nil, fun _ h => absurd h (by simp)⟩, Step.refl st.sub, fun _ => ⟨rfl, rfl, Step.refl st.sub⟩⟩
theorem d_int {i : Int} {j} : PD X W false true (.Constant (.int i) j pos) (eK (.int i)) := d_atom pe_int fun _ => rfl
theorem d_bl {b : Bool} {j} : PD X W false true (.Constant (.bool b) j pos) (eK (.bl b)) := d_atom pe_bl fun _ => rfl
theorem d_non {j} : PD X W false true (.Constant .none j pos) (eK .non) := d_atom pe_non fun _ => trivial
theorem d_str {x : Str} {j} {s : List Nat} (hs : x.cps.toList = s := by rfl) : PD X W false true (.Constant (.str x) j pos) (eK (.str s)) := d_atom pe_str fun _ => hs
/-- a module's constant -/
theorem d_glob {x : Str} {v : V} {u : Value} {d : D} (hg : Gl X x) (hm : X.mg x = some u) (r : RelV v u) (ha : ∀ B, Atom X.ev B v d) (hd : (x == ("__debug__" : Str)) = false := by decide) : PD X W false true (.Name x pos) (eK d) := d_atom (pe_glob hg hm r hd) ha

/-! ### two-place operators -/
/-- an operator on data that makes something new or nothing -/
def OpD (X : Cx) (g : Value → Value → Sem Value) (f : D → D → Option D) : Prop :=
  OpR X g fun x y H Q => ∃ B d e F G z, (∀ a o, B a = some o → H a = some o) ∧ Own X.ev B H x d F ∧ Own X.ev B H y e G ∧ f d e = some z ∧ ∀ w B' H' K, New X.ev B H w z B' H' K → Q w H'
def eOp (f : D → D → Option D) (ma mb : M D) : M D := mBind ma fun d => mBind mb fun e => mOpt (f d e)
theorem d_two {f : D → D → Option D} {r : R2} (t : PE X e (tOp r (tE X.ev W a1 s1 ma) (tE X.ev W a2 s2 mb)))
    (ho : ∀ x y H Q, (∃ B d e F G z, (∀ a o, B a = some o → H a = some o) ∧ Own X.ev B H x d F ∧ Own X.ev B H y e G ∧ f d e = some z ∧ ∀ w B' H' K, New X.ev B H w z B' H' K → Q w H') → r x y H Q)
    (hc : (!a2 || s1) = true := by decide) : PD X W (a1 || a2) true e (eOp f ma mb) := PE.weak t fun σ H Q ⟨B, ρ, U, st, k⟩ => by
  have hc' : a2 = false ∨ s1 = true := by cases a2 <;> simp_all
  refine ⟨B, ρ, U, st, ?_⟩
  unfold eOp mBind at k
  cases hm : ma ρ with
  | ok d ρ1 =>
    rw [hm] at k
    intro v B1 H1 U1 F1 p
    refine ⟨B1, ρ1, U1, p.st, ?_⟩
    dsimp only [Res.bind] at k
    cases hm2 : mb ρ1 with
    | ok d2 ρ2 =>
      rw [hm2] at k
      intro v2 B2 H2 U2 F2 q
      have pq := p.comb q hc'
      obtain ⟨G1, G2, _, o1, o2⟩ := pq.own
      dsimp only [mOpt] at k
      cases hf : f d d2 with
      | none => rw [hf] at k; exact k.elim
      | some z =>
        rw [hf] at k
        refine ho _ _ _ _ ⟨B2, d, d2, G1, G2, z, pq.st.sub, o1, o2, hf, fun w B' H' K nw => ?_⟩
        exact k w B' H' U2 K (pq.fin nw)
    | exc x ρ2 => rw [hm2] at k; exact k.back p.step
    | stuck => rw [hm2] at k; exact k
  | exc x ρ1 => rw [hm] at k; exact k
  | stuck => rw [hm] at k; exact k
theorem d_op {op : Operator} {f : D → D → Option D} (ho : OpD X (binaryOp op) f) (ha : PD X W a1 s1 ea ma) (hb : PD X W a2 s2 eb mb) (hc : (!a2 || s1) = true := by decide) : PD X W (a1 || a2) true (.BinOp ea op eb pos) (eOp f ma mb) :=
  d_two (pe_op ho ha hb) (fun _ _ _ _ h => h) hc
theorem d_cmp {op : CmpOp} {f : D → D → Option D} (ho : OpD X (compareOp op) f) (ha : PD X W a1 s1 ea ma) (hb : PD X W a2 s2 eb mb) (hm : behindInMarks op eb = false := by first | exact nomark _ | rfl) (hc : (!a2 || s1) = true := by decide) :
    PD X W (a1 || a2) true (.Compare ea [op] [eb] pos) (eOp f ma mb) :=
  d_two (pe_cmpR ho ha hb hm) (fun _ _ _ _ h => h) hc
theorem OpD.or {g : Value → Value → Sem Value} {f f' : D → D → Option D} (h : OpD X g f) (h' : OpD X g f') : OpD X g (fun d e => match f d e with | some z => some z | none => f' d e) := by
  intro pins s σ H x y v u Q I r1 r2 ⟨B, d, e, F, G, z, hs, o1, o2, hf, q⟩
  cases h1 : f d e with
  | some z' =>
    simp only [h1] at hf; cases hf
    exact h pins s σ H x y v u Q I r1 r2 ⟨B, d, e, F, G, _, hs, o1, o2, h1, q⟩
  | none =>
    simp only [h1] at hf
    exact h' pins s σ H x y v u Q I r1 r2 ⟨B, d, e, F, G, z, hs, o1, o2, hf, q⟩
end
end Eng
/-! Eng4: operators on data. -/
namespace Eng
open PySem PySem.Spec PyProof.Rows L2

def S (s : List Nat) : Str := ⟨s.toArray⟩
theorem S_list (s : List Nat) : (S s).cps.toList = s := by simp [S]
theorem S_of {x : Str} {s : List Nat} (h : x.cps.toList = s) : x = S s := by
  subst h; cases x; simp [S]
theorem S_len (s : List Nat) : (S s).length = s.length := by show (S s).cps.size = _; simp [S]
theorem S_app (s t : List Nat) : S s ++ S t = S (s ++ t) := by
  show (⟨(S s).cps ++ (S t).cps⟩ : Str) = _
  simp [S]

section
variable {mg : Ev} {B B' H H' : Hp} {v : V} {d : D} {vs : List V} {ds xs : List D} {F G : List Addr} {o : Bool}

theorem own_non (h : Own mg B H v .non F) : v = .non ∧ F = [] := by
  cases h with
  | atom h => cases v <;> simp [Atom] at h ⊢
  | fro h s t e => cases v <;> simp [Shape] at s
  | own h => simp [D.own] at h
theorem own_int {i : Int} (h : Own mg B H v (.int i) F) : v = .int i ∧ F = [] := by
  cases h with
  | atom h => cases v <;> simp [Atom] at h ⊢; exact h
  | fro h s t e => cases v <;> simp [Shape] at s
  | own h => simp [D.own] at h
theorem own_bl {i : Bool} (h : Own mg B H v (.bl i) F) : v = .bl i ∧ F = [] := by
  cases h with
  | atom h => cases v <;> simp [Atom] at h ⊢; exact h
  | fro h s t e => cases v <;> simp [Shape] at s
  | own h => simp [D.own] at h
theorem own_str {s : List Nat} (h : Own mg B H v (.str s) F) : v = .str (S s) ∧ F = [] := by
  cases h with
  | atom h => cases v <;> simp [Atom] at h ⊢; exact S_of h
  | fro h s t e => cases v <;> simp [Shape] at s
  | own h => simp [D.own] at h
theorem own_ty {n : String} (h : Own mg B H v (.ty n) F) : v = .ty n ∧ F = [] := by
  cases h with
  | atom h => cases v <;> simp [Atom] at h ⊢; exact h
  | fro h s t e => cases v <;> simp [Shape] at s
  | own h => simp [D.own] at h
theorem own_scr {ns : List Int} (h : Own mg B H v (.scr ns) F) : ∃ a, v = .ref a ∧ SqL mg.K B a (ns.map V.int) ∧ F = [] := by
  cases h with
  | atom h => cases v <;> simp [Atom] at h ⊢; exact h
  | fro h s t e => cases v <;> simp [Shape] at s
  | own h => simp [D.own] at h
theorem own_lst (hs : ∀ a u, B a = some u → H a = some u) (h : Own mg B H v (.lst o xs) F) : ∃ a vs G, v = .ref a ∧ H a = some (.lst vs) ∧ Owns mg B H vs xs G ∧ (o = false → B a = some (.lst vs) ∧ F = [] ∧ G = []) ∧ (o = true → F = a :: G) := by
  cases h with
  | atom h => cases v <;> simp [Atom] at h
  | fro h s t e =>
    cases v <;> simp [Shape] at s
    obtain ⟨s, rfl⟩ := s
    simp [D.own] at h; subst h
    have := e rfl; subst this
    exact ⟨_, _, [], rfl, hs _ _ s, t, fun _ => ⟨s, rfl, rfl⟩, fun h => by cases h⟩
  | own h s t =>
    cases v <;> simp [Shape] at s
    obtain ⟨s, rfl⟩ := s
    simp [D.own] at h; subst h
    exact ⟨_, _, _, rfl, s, t, ⟨fun h => by simp at h, fun _ => rfl⟩⟩
theorem own_tup (hs : ∀ a u, B a = some u → H a = some u) (h : Own mg B H v (.tup xs) F) : ∃ a vs, v = .ref a ∧ B a = some (.tup vs) ∧ H a = some (.tup vs) ∧ Owns mg B H vs xs F := by
  cases h with
  | atom h => cases v <;> simp [Atom] at h
  | fro h s t e =>
    cases v <;> simp [Shape] at s
    exact ⟨_, _, rfl, s.1, hs _ _ s.1, t⟩
  | own h => simp [D.own] at h
theorem lst_sql {K : PySem.W.Frag} (hs : ∀ a u, B a = some u → H a = some u) (h : Own mg B H v (.lst o xs) F) : ∃ a vs G, v = .ref a ∧ H a = some (.lst vs) ∧ SqL K H a vs ∧ Owns mg B H vs xs G := by
  obtain ⟨a, vs, G, e, h1, h2, _⟩ := own_lst hs h
  exact ⟨a, vs, G, e, h1, .inl (.inl h1), h2⟩
theorem tup_sqt {K : PySem.W.Frag} (hs : ∀ a u, B a = some u → H a = some u) (h : Own mg B H v (.tup xs) F) : ∃ a vs, v = .ref a ∧ SqT K H a vs ∧ Owns mg B H vs xs F := by
  obtain ⟨a, vs, e, _, h1, h2⟩ := own_tup hs h
  exact ⟨a, vs, e, .inl (.inl h1), h2⟩

theorem Owns.append : ∀ {vs ds F ws es G}, Owns mg B H vs ds F → Owns mg B H ws es G → Owns mg B H (vs ++ ws) (ds ++ es) (F ++ G)
  | _, _, _, _, _, _, .nil, t => t
  | _, _, _, _, _, _, .cons h r, t => by
    rw [List.append_assoc]
    exact .cons h (Owns.append r t)
theorem Owns.get : ∀ {vs ds F} (i : Nat) {d}, Owns mg B H vs ds F → ds[i]? = some d → ∃ v F1 F' F2, vs[i]? = some v ∧ Own mg B H v d F' ∧ F = F1 ++ (F' ++ F2)
  | _, _, _, i, _, .nil, h => by simp at h
  | _, _, _, 0, _, .cons h r, e => by
    simp at e; subst e
    exact ⟨_, [], _, _, rfl, h, rfl⟩
  | _, _, _, i + 1, _, .cons (F := F) h r, e => by
    simp at e
    obtain ⟨v, F1, F', F2, a, b, c⟩ := Owns.get i r e
    exact ⟨v, F ++ F1, F', F2, by simpa using a, b, by rw [c]; simp⟩
theorem Owns.take : ∀ {vs ds F} (n : Nat), Owns mg B H vs ds F → ∃ F1 F2, Owns mg B H (vs.take n) (ds.take n) F1 ∧ Owns mg B H (vs.drop n) (ds.drop n) F2 ∧ F = F1 ++ F2
  | _, _, _, 0, h => ⟨[], _, by simpa using .nil, by simpa using h, rfl⟩
  | _, _, _, n + 1, .nil => ⟨[], [], by simpa using .nil, by simpa using .nil, rfl⟩
  | _, _, _, n + 1, .cons (F := F) h r => by
    obtain ⟨F1, F2, a, b, c⟩ := Owns.take n r
    exact ⟨F ++ F1, F2, by simpa using .cons h a, by simpa using b, by rw [c]; simp⟩
theorem frzs_append {xs ys : List D} : frzs (xs ++ ys) = (frzs xs && frzs ys) := by
  induction xs with
  | nil => simp [frzs]
  | cons x r ih => simp [frzs, ih, Bool.and_assoc]
theorem frzs_get {xs : List D} {i : Nat} {d : D} (h : frzs xs = true) (e : xs[i]? = some d) : d.frz = true := by
  induction xs generalizing i with
  | nil => simp at e
  | cons x r ih =>
    simp [frzs] at h
    cases i with
    | zero => simp at e; subst e; exact h.1
    | succ i => simp at e; exact ih h.2 e
theorem frzs_iff {xs : List D} : frzs xs = true ↔ ∀ x ∈ xs, x.frz = true := by
  induction xs with
  | nil => simp [frzs]
  | cons x r ih => simp [frzs, ih]
/-- a new list of frozen data -/
theorem New.lst (hs : ∀ a o, B a = some o → H a = some o) (t : Owns mg B H vs ds []) {p : Addr} (hp : H p = none) : New mg B H (.ref p) (.lst true ds) B (upd H p (.lst vs)) [p] where
  own := by
    refine .own (A := [p]) (F := []) rfl ⟨upd_same, rfl⟩ (t.mono (fun _ _ h => h) fun _ h => absurd h (by simp))
  step := ⟨fun a o h => by rw [upd_ne (ne_of_none (hs a o h) hp)]; exact hs a o h, fun _ _ h => h, fun a h _ => by rw [upd_ne (fun z => h (by rw [z]; exact hp))], fun _ h => absurd h (by simp), fun a h => .inl h⟩
  nd := by simp
  nw := fun a h => by
    simp at h; subst h
    refine ⟨hp, ?_⟩
    cases e : B a with
    | none => rfl
    | some o => rw [hs _ _ e] at hp; cases hp
/-- a new tuple of frozen data -/
theorem New.tup (hs : ∀ a o, B a = some o → H a = some o) (t : Owns mg B H vs ds []) {p : Addr} (hp : H p = none) : New mg B H (.ref p) (.tup ds) (upd B p (.tup vs)) (upd H p (.tup vs)) [] where
  own := by
    have hb : B p = none := by
      cases e : B p with
      | none => rfl
      | some o => rw [hs _ _ e] at hp; cases hp
    refine .fro (A := []) rfl ⟨upd_same, rfl⟩ (t.mono (fun a o h => by rw [upd_ne (ne_of_none h hb)]; exact h) fun _ h => absurd h (by simp)) fun _ => rfl
  step := by
    have hb : B p = none := by
      cases e : B p with
      | none => rfl
      | some o => rw [hs _ _ e] at hp; cases hp
    refine ⟨fun a o h => ?_, fun a o h => by rw [upd_ne (ne_of_none h hb)]; exact h, fun a h _ => by rw [upd_ne (fun z => h (by rw [z]; exact hp))], fun _ h => absurd h (by simp), fun a h => ?_⟩
    · by_cases e : a = p
      · subst e; rw [upd_same] at h ⊢; exact h
      · rw [upd_ne e] at h ⊢; exact hs a o h
    · by_cases e : a = p
      · subst e; exact .inr (.inr hp)
      · rw [upd_ne e] at h; exact .inl h
  nd := by simp
  nw := fun a h => by simp at h
end

/-! ### arithmetic -/
def addD : D → D → Option D
  | .int i, .int j => some (.int (i + j))
  | .str s, .str t => if s.length + t.length ≤ 16777216 then some (.str (s ++ t)) else none
  | .lst _ xs, .lst _ ys => if frzs xs && frzs ys && decide (xs.length + ys.length ≤ 16777216) then some (.lst true (xs ++ ys)) else none
  | .tup xs, .tup ys => if frzs xs && frzs ys && decide (xs.length + ys.length ≤ 16777216) then some (.tup (xs ++ ys)) else none
  | _, _ => none
def IntMulE (i j : Int) : Bool := decide (i.natAbs.log2 + j.natAbs.log2 < 134000000)
def mulD : D → D → Option D
  | .int i, .int j => if IntMulE i j then some (.int (i * j)) else none
  | .str s, .int k => if decide (-(2 ^ 63) ≤ k ∧ k < 2 ^ 63 ∧ s.length * k.toNat ≤ 16777216) then some (.str (List.replicate k.toNat s).flatten) else none
  | .lst _ xs, .int k => if frzs xs && decide (-(2 ^ 63) ≤ k ∧ k < 2 ^ 63 ∧ xs.length * k.toNat ≤ 16777216) then some (.lst true (List.replicate k.toNat xs).flatten) else none
  | .tup xs, .int k => if frzs xs && decide (xs ≠ [] → 2 ≤ k ∧ k ≤ 1000 ∧ xs.length ≤ 1000) && !xs.isEmpty then some (.tup (List.replicate k.toNat xs).flatten) else none
  | _, _ => none
def subD : D → D → Option D
  | .int i, .int j => some (.int (i - j))
  | _, _ => none
def modD : D → D → Option D
  | .int i, .int j => if 0 < j then some (.int (i % j)) else none
  | _, _ => none
def fdivD : D → D → Option D
  | .int i, .int j => if 0 < j ∧ j.natAbs.log2 < 9000 then some (.int (i / j)) else none
  | _, _ => none
def powD : D → D → Option D
  | .int i, .int j => if 0 ≤ j ∧ j ≤ 1000000 ∧ i.natAbs < 2 ^ 64 then some (.int (i ^ j.toNat)) else none
  | _, _ => none
section
variable {X : Cx}
theorem mulE_ok {i j : Int} (h : IntMulE i j = true) : IntMulOk i j := by
  have b : ∀ x : Int, Builtin.Int.intBits x ≤ x.natAbs.log2 + 1 := fun x => by
    unfold Builtin.Int.intBits
    split <;> omega
  have h1 := b i
  have h2 := b j
  have h3 : i.natAbs.log2 + j.natAbs.log2 < 134000000 := of_decide_eq_true h
  have e : bitsLine = 134217728 := by decide
  unfold IntMulOk
  intro z
  rw [Bool.and_eq_true] at z
  have z2 := z.2
  unfold Builtin.Int.intTooBig at z2
  have z3 := of_decide_eq_true z2
  rw [e] at z3
  omega
theorem OpR.or3 {f : Value → Value → Sem Value} {r r' : R2} (h : OpR X f r) (h' : OpR X f r') : OpR X f (fun x y H Q => r x y H Q ∨ r' x y H Q) := L2.OpR.or h h'
theorem od_add : OpD X (binaryOp .Add) addD := by
  intro pins s σ H x y v u Q I r1 r2 ⟨B, d, e, F, G, z, hs, o1, o2, hf, q⟩
  unfold addD at hf
  split at hf
  · cases hf
    obtain ⟨rfl, rfl⟩ := own_int o1
    obtain ⟨rfl, rfl⟩ := own_int o2
    exact op_add pins s σ H _ _ v u Q I r1 r2 ⟨_, _, rfl, rfl, q _ B H [] (New.flat hs (.atom rfl))⟩
  · rename_i a b
    split at hf <;> cases hf
    obtain ⟨rfl, rfl⟩ := own_str o1
    obtain ⟨rfl, rfl⟩ := own_str o2
    refine op_add_str pins s σ H _ _ v u Q I r1 r2 ⟨S a, S b, rfl, rfl, by rw [S_len, S_len]; assumption, ?_⟩
    exact q _ B H [] (New.flat hs (.atom (by rw [S_app]; exact S_list _)))
  · rename_i o1' xs o2' ys
    split at hf <;> cases hf
    rename_i hc
    simp only [Bool.and_eq_true, decide_eq_true_eq] at hc
    obtain ⟨⟨c1, c2⟩, c3⟩ := hc
    obtain ⟨a, vs, K1, rfl, h1, t1, _⟩ := own_lst hs o1
    obtain ⟨b, ws, K2, rfl, h2, t2, _⟩ := own_lst hs o2
    obtain rfl := Owns.nil_of t1 c1
    obtain rfl := Owns.nil_of t2 c2
    refine op_cat pins s σ H _ _ v u Q I r1 r2 ⟨a, b, vs, ws, rfl, rfl, h1, h2, by rw [t1.len, t2.len]; exact c3, fun p hp => ?_⟩
    exact q _ _ _ _ (New.lst hs (t1.append t2) hp)
  · rename_i xs ys
    split at hf <;> cases hf
    rename_i hc
    simp only [Bool.and_eq_true, decide_eq_true_eq] at hc
    obtain ⟨⟨c1, c2⟩, c3⟩ := hc
    obtain ⟨a, vs, rfl, h1, t1⟩ := tup_sqt (K := X.K) hs o1
    obtain ⟨b, ws, rfl, h2, t2⟩ := tup_sqt (K := X.K) hs o2
    obtain rfl := Owns.nil_of t1 c1
    obtain rfl := Owns.nil_of t2 c2
    refine op_catA pins s σ H _ _ v u Q I r1 r2 ⟨a, b, vs, ws, rfl, rfl, h1, h2, by rw [t1.len, t2.len]; exact c3, fun e => ?_, fun _ e => ?_, fun _ _ p hp => ?_⟩
    · have : xs = [] := List.length_eq_zero_iff.mp (by rw [← t1.len, e]; rfl)
      subst this
      exact q _ _ _ _ (New.flat hs o2)
    · have : ys = [] := List.length_eq_zero_iff.mp (by rw [← t2.len, e]; rfl)
      subst this
      rw [List.append_nil] at q
      exact q _ _ _ _ (New.flat hs o1)
    · exact q _ _ _ _ (New.tup hs (t1.append t2) hp)
  · cases hf
theorem od_sub : OpD X (binaryOp .Sub) subD := by
  intro pins s σ H x y v u Q I r1 r2 ⟨B, d, e, F, G, z, hs, o1, o2, hf, q⟩
  unfold subD at hf
  split at hf <;> cases hf
  obtain ⟨rfl, rfl⟩ := own_int o1
  obtain ⟨rfl, rfl⟩ := own_int o2
  exact op_sub pins s σ H _ _ v u Q I r1 r2 ⟨_, _, rfl, rfl, q _ B H [] (New.flat hs (.atom rfl))⟩
theorem od_mod : OpD X (binaryOp .Mod) modD := by
  intro pins s σ H x y v u Q I r1 r2 ⟨B, d, e, F, G, z, hs, o1, o2, hf, q⟩
  unfold modD at hf
  split at hf
  · split at hf <;> cases hf
    obtain ⟨rfl, rfl⟩ := own_int o1
    obtain ⟨rfl, rfl⟩ := own_int o2
    exact op_mod pins s σ H _ _ v u Q I r1 r2 ⟨_, _, rfl, rfl, by assumption, q _ B H [] (New.flat hs (.atom rfl))⟩
  · cases hf
theorem od_fdiv : OpD X (binaryOp .FloorDiv) fdivD := by
  intro pins s σ H x y v u Q I r1 r2 ⟨B, d, e, F, G, z, hs, o1, o2, hf, q⟩
  unfold fdivD at hf
  split at hf
  · split at hf <;> cases hf
    obtain ⟨rfl, rfl⟩ := own_int o1
    obtain ⟨rfl, rfl⟩ := own_int o2
    exact op_fdivW pins s σ H _ _ v u Q I r1 r2 ⟨_, _, rfl, rfl, by assumption, q _ B H [] (New.flat hs (.atom rfl))⟩
  · cases hf
theorem od_pow : OpD X (binaryOp .Pow) powD := by
  intro pins s σ H x y v u Q I r1 r2 ⟨B, d, e, F, G, z, hs, o1, o2, hf, q⟩
  unfold powD at hf
  split at hf
  · split at hf <;> cases hf
    obtain ⟨rfl, rfl⟩ := own_int o1
    obtain ⟨rfl, rfl⟩ := own_int o2
    exact op_pow pins s σ H _ _ v u Q I r1 r2 ⟨_, _, rfl, rfl, by assumption, q _ B H [] (New.flat hs (.atom rfl))⟩
  · cases hf
/-- text * int -/
theorem op_mulS : OpR X (binaryOp .Mult) (fun x y H Q => ∃ (a : Str) (k : Int), x = .str a ∧ y = .int k ∧ -(2 ^ 63) ≤ k ∧ k < 2 ^ 63 ∧ a.length * k.toNat ≤ sizeLine ∧ Q (.str (S (List.replicate k.toNat a.cps.toList).flatten)) H) := by
  intro pins s σ H x y v u Q I r1 r2 ⟨a, k, e1, e2, h1, h2, h3, q⟩
  subst e1; subst e2
  obtain ⟨t, rfl⟩ := r1
  obtain ⟨t', rfl⟩ := r2
  have hz : sizeLine = 16777216 := sizeLine_eq
  refine PySem.P.mul_str (by rw [decide_eq_false (by omega), decide_eq_false (by omega)]; rfl) (fun n1 _ => ?_) (fun n1 _ => ?_) ?_
  · have hk : (k.toNat : Int) = k := by omega
    have hm : (a.length : Int) * k ≤ 16777216 := by
      have : ((a.length * k.toNat : Nat) : Int) ≤ 16777216 := by omega
      rw [Int.natCast_mul, hk] at this; exact this
    have h5 : (a.length : Int) ≤ (2 ^ 63 - 1) / k := by
      rw [Int.le_ediv_iff_mul_le (by omega)]; omega
    omega
  · exact PyProof.Rows.short24 (by omega)
  · by_cases c1 : k < 1
    · rw [if_pos c1]
      have : k.toNat = 0 := by omega
      rw [this] at q
      exact ⟨Nat.zero_le _, .str Str.empty, H, I.tok _, ⟨_, rfl⟩, q⟩
    · rw [if_neg c1]
      split
      · rename_i c2
        refine ⟨.str _, H, I, ⟨t, ?_⟩, q⟩
        simp only [Bool.or_eq_true, beq_iff_eq] at c2
        have e : (List.replicate k.toNat a.cps.toList).flatten = a.cps.toList := by
          rcases c2 with c2 | c2
          · subst c2; simp
          · have : a.cps.toList = [] := List.length_eq_zero_iff.mp (by rw [Array.length_toList]; exact c2)
            rw [this]; simp
        rw [e]
        exact congrArg (fun z => Value.str z t) (S_of rfl)
      · have e : ∀ (n : Nat) (z : Array Nat), ((List.replicate n a.cps).foldl (· ++ ·) z) = z ++ (List.replicate n a.cps.toList).flatten.toArray := by
          intro n
          induction n with
          | zero => intro z; simp
          | succ n ih => intro z; rw [List.replicate_succ, List.foldl_cons, ih, List.replicate_succ, List.flatten_cons]; apply Array.ext'; simp
        have e2 : (⟨(List.replicate k.toNat a.cps).foldl (· ++ ·) #[]⟩ : Str) = S (List.replicate k.toNat a.cps.toList).flatten := by
          rw [e]; simp [S]
        refine ⟨?_, .str _, H, I.tok _, ⟨_, rfl⟩, ?_⟩
        · rw [e2, S_len]
          have : ∀ n : Nat, (List.replicate n a.cps.toList).flatten.length = n * a.length := by
            intro n
            induction n with
            | zero => simp
            | succ n ih => rw [List.replicate_succ, List.flatten_cons, List.length_append, ih, Array.length_toList, Nat.succ_mul, Nat.add_comm]; rfl
          rw [this, Nat.mul_comm]; exact h3
        · rw [e2]; exact q
theorem od_mul : OpD X (binaryOp .Mult) mulD := by
  intro pins s σ H x y v u Q I r1 r2 ⟨B, d, e, F, G, z, hs, o1, o2, hf, q⟩
  unfold mulD at hf
  split at hf
  · split at hf <;> cases hf
    rename_i hc
    obtain ⟨rfl, rfl⟩ := own_int o1
    obtain ⟨rfl, rfl⟩ := own_int o2
    obtain ⟨t, rfl⟩ := r1
    obtain ⟨t', rfl⟩ := r2
    exact PyProof.Rows.mul_int ⟨.int _, H, I.tok _, ⟨_, rfl⟩, q _ B H [] (New.flat hs (.atom rfl))⟩ (mulE_ok hc)
  · rename_i a k
    split at hf <;> cases hf
    rename_i hc
    simp only [decide_eq_true_eq] at hc
    obtain ⟨rfl, rfl⟩ := own_str o1
    obtain ⟨rfl, rfl⟩ := own_int o2
    refine op_mulS pins s σ H _ _ v u Q I r1 r2 ⟨S a, k, rfl, rfl, hc.1, hc.2.1, by rw [S_len]; exact hc.2.2, ?_⟩
    refine q _ B H [] (New.flat hs (.atom ?_))
    rw [S_list]; exact S_list _
  · rename_i o' xs k
    split at hf <;> cases hf
    rename_i hc
    simp only [Bool.and_eq_true, decide_eq_true_eq] at hc
    obtain ⟨c1, c2, c3, c4⟩ := hc
    obtain ⟨a, vs, K1, rfl, h1, t1, _⟩ := own_lst hs o1
    obtain ⟨rfl, rfl⟩ := own_int o2
    obtain rfl := Owns.nil_of t1 c1
    refine op_rep pins s σ H _ _ v u Q I r1 r2 ⟨a, k, vs, rfl, rfl, h1, c2, c3, by rw [t1.len]; exact c4, fun p hp => ?_⟩
    refine q _ _ _ _ (New.lst hs ?_ hp)
    clear c4
    induction k.toNat with
    | zero => exact .nil
    | succ n ih => rw [List.replicate_succ, List.replicate_succ, List.flatten_cons, List.flatten_cons]; exact t1.append ih
  · rename_i xs k
    split at hf <;> cases hf
    rename_i hc
    simp only [Bool.and_eq_true, decide_eq_true_eq, Bool.not_eq_true', List.isEmpty_eq_false_iff] at hc
    obtain ⟨⟨c1, c2⟩, c3⟩ := hc
    obtain ⟨a, vs, rfl, h1, t1⟩ := tup_sqt (K := X.K) hs o1
    obtain ⟨rfl, rfl⟩ := own_int o2
    obtain rfl := Owns.nil_of t1 c1
    have c2 := c2 c3
    refine op_repT pins s σ H _ _ v u Q I r1 r2 ⟨a, k, vs, rfl, rfl, h1, fun e => c3 (List.length_eq_zero_iff.mp (by rw [← t1.len, e]; rfl)), c2.1, c2.2.1, by rw [t1.len]; exact c2.2.2, fun p hp => ?_⟩
    refine q _ _ _ _ (New.tup hs ?_ hp)
    induction k.toNat with
    | zero => exact .nil
    | succ n ih => rw [List.replicate_succ, List.replicate_succ, List.flatten_cons, List.flatten_cons]; exact t1.append ih
  · cases hf
end
end Eng
/-! Eng5: comparisons, tests, displays, items, slices. -/
namespace Eng
open PySem PySem.Spec PyProof.Rows L2

/-! ### equality -/
mutual
def toPy : D → PyData
  | .non => .none
  | .bl b => .bool b
  | .int i => .int i
  | .str s => .str (S s)
  | .lst _ xs => .list (toPys xs)
  | .tup xs => .tuple (toPys xs)
  | .ty _ => .dict []
  | .scr _ => .dict []
  | .dic _ _ => .dict []
  | .ins _ _ _ => .dict []
  | .exo _ _ => .dict []
def toPys : List D → List PyData
  | [] => []
  | d :: ds => toPy d :: toPys ds
end
def eqOk (d : D) : Bool := SeqAt.shaped (toPy d)
def eqB (d e : D) : Bool := PyData.eqv (toPy d) (toPy e)
def flatEq : D → D → Option Bool
  | .non, .non => some true
  | .non, .int _ => some false
  | .int _, .non => some false
  | .non, .bl _ => some false
  | .bl _, .non => some false
  | .non, .str _ => some false
  | .str _, .non => some false
  | .int i, .int j => some (decide (i = j))
  | .bl i, .bl j => some (decide (i = j))
  | .str i, .str j => some (decide (i = j))
  | .int _, .str _ => some false
  | .str _, .int _ => some false
  | .bl _, .str _ => some false
  | .str _, .bl _ => some false
  | _, _ => none
def eqD (d e : D) : Option D := match flatEq d e with
  | some b => some (.bl b)
  | none => if eqOk d && eqOk e then some (.bl (eqB d e)) else none
def neD (d e : D) : Option D := match flatEq d e with
  | some b => some (.bl !b)
  | none => if eqOk d && eqOk e then some (.bl !(eqB d e)) else none
section
variable {mg : Ev} {B H : Hp} {K : PySem.W.Frag}
theorem own_node_dp (hs : ∀ a o, B a = some o → H a = some o) {v : V} {d : D} {vs : List V} {A : List Addr} (hd : (toPy d).canLay0 = true) (ih : PyData.canLayAll0 (toPys d.kids) = true → DpAll K H vs (toPys d.kids)) :
    (Shape mg B v d vs A ∨ Shape mg H v d vs A) → Dp K H v (toPy d) := by
  intro h
  have h : Shape mg H v d vs A := by
    rcases h with h | h
    · exact h.mono hs
    · exact h
  cases v <;> cases d <;> simp only [Shape] at h <;> simp only [toPy] at hd ⊢
  · simp only [PyData.canLay0] at hd
    exact .lst (.inl (.inl h.1)) (ih hd)
  · simp only [PyData.canLay0] at hd
    exact .tup (.inl (.inl h.1)) (ih hd)
  · simp [PyData.canLay0] at hd
  · simp [PyData.canLay0] at hd
theorem atom_dp {v : V} {d : D} (hd : (toPy d).canLay0 = true) (h : Atom mg B v d) : Dp K H v (toPy d) := by
  cases v <;> cases d <;> simp only [Atom] at h <;> simp only [toPy] at hd ⊢
  · exact .non
  · subst h; exact .bl _
  · subst h; exact .int _
  · rw [← S_of h]; exact .str _
  · simp [PyData.canLay0] at hd
  · simp [PyData.canLay0] at hd
  · simp [PyData.canLay0] at hd
mutual
theorem own_dp (hs : ∀ a o, B a = some o → H a = some o) : ∀ {v d F}, Own mg B H v d F → (toPy d).canLay0 = true → Dp K H v (toPy d)
  | _, _, _, .atom h, hd => atom_dp hd h
  | _, _, _, .fro _ s t _, hd => own_node_dp hs hd (fun h => owns_dp hs t h) (.inl s)
  | _, _, _, .own _ s t, hd => own_node_dp hs hd (fun h => owns_dp hs t h) (.inr s)
theorem owns_dp (hs : ∀ a o, B a = some o → H a = some o) : ∀ {vs ds F}, Owns mg B H vs ds F → PyData.canLayAll0 (toPys ds) = true → DpAll K H vs (toPys ds)
  | _, _, _, .nil, _ => .nil
  | _, _, _, .cons h t, hd => by
    simp only [toPys, PyData.canLayAll0, Bool.and_eq_true] at hd
    exact .cons (own_dp hs h hd.1) (owns_dp hs t hd.2)
end
theorem flat_scal {v u : V} {d e : D} {b : Bool} {F G : List Addr} (o1 : Own mg B H v d F) (o2 : Own mg B H u e G) (h : flatEq d e = some b) : scal v u = true ∧ decide (v = u) = b := by
  unfold flatEq at h
  split at h <;> cases h
  · obtain ⟨rfl, _⟩ := own_non o1; obtain ⟨rfl, _⟩ := own_non o2; exact ⟨rfl, rfl⟩
  · obtain ⟨rfl, _⟩ := own_non o1; obtain ⟨rfl, _⟩ := own_int o2; exact ⟨rfl, rfl⟩
  · obtain ⟨rfl, _⟩ := own_int o1; obtain ⟨rfl, _⟩ := own_non o2; exact ⟨rfl, rfl⟩
  · obtain ⟨rfl, _⟩ := own_non o1; obtain ⟨rfl, _⟩ := own_bl o2; exact ⟨rfl, rfl⟩
  · obtain ⟨rfl, _⟩ := own_bl o1; obtain ⟨rfl, _⟩ := own_non o2; exact ⟨rfl, rfl⟩
  · obtain ⟨rfl, _⟩ := own_non o1; obtain ⟨rfl, _⟩ := own_str o2; exact ⟨rfl, rfl⟩
  · obtain ⟨rfl, _⟩ := own_str o1; obtain ⟨rfl, _⟩ := own_non o2; exact ⟨rfl, rfl⟩
  · obtain ⟨rfl, _⟩ := own_int o1; obtain ⟨rfl, _⟩ := own_int o2; exact ⟨rfl, by simp⟩
  · obtain ⟨rfl, _⟩ := own_bl o1; obtain ⟨rfl, _⟩ := own_bl o2; exact ⟨rfl, by simp⟩
  · obtain ⟨rfl, _⟩ := own_str o1; obtain ⟨rfl, _⟩ := own_str o2; exact ⟨rfl, by simp [S]⟩
  · obtain ⟨rfl, _⟩ := own_int o1; obtain ⟨rfl, _⟩ := own_str o2; exact ⟨rfl, rfl⟩
  · obtain ⟨rfl, _⟩ := own_str o1; obtain ⟨rfl, _⟩ := own_int o2; exact ⟨rfl, rfl⟩
  · obtain ⟨rfl, _⟩ := own_bl o1; obtain ⟨rfl, _⟩ := own_str o2; exact ⟨rfl, rfl⟩
  · obtain ⟨rfl, _⟩ := own_str o1; obtain ⟨rfl, _⟩ := own_bl o2; exact ⟨rfl, rfl⟩
end
section
variable {X : Cx}
theorem od_eq (hu : X.A.units + 64 < cLine) : OpD X (compareOp .Eq) eqD := by
  intro pins s σ H x y v u Q I r1 r2 ⟨B, d, e, F, G, z, hs, o1, o2, hf, q⟩
  unfold eqD at hf
  split at hf
  · rename_i b hb
    cases hf
    obtain ⟨h1, h2⟩ := flat_scal o1 o2 hb
    exact op_eq pins s σ H _ _ v u Q I r1 r2 ⟨h1, by rw [h2]; exact q _ B H [] (New.flat hs (.atom rfl))⟩
  · split at hf <;> cases hf
    rename_i hc
    simp only [Bool.and_eq_true, eqOk] at hc
    refine op_eqD hu pins s σ H _ _ v u Q I r1 r2 ⟨_, _, own_dp hs o1 (SeqAt.canLay_of_shaped hc.1), own_dp hs o2 (SeqAt.canLay_of_shaped hc.2), hc.1, hc.2, ?_⟩
    exact q _ B H [] (New.flat hs (.atom rfl))
theorem od_ne (hu : X.A.units + 64 < cLine) : OpD X (compareOp .NotEq) neD := by
  intro pins s σ H x y v u Q I r1 r2 ⟨B, d, e, F, G, z, hs, o1, o2, hf, q⟩
  unfold neD at hf
  split at hf
  · rename_i b hb
    cases hf
    obtain ⟨h1, h2⟩ := flat_scal o1 o2 hb
    exact op_ne pins s σ H _ _ v u Q I r1 r2 ⟨h1, by rw [h2]; exact q _ B H [] (New.flat hs (.atom rfl))⟩
  · split at hf <;> cases hf
    rename_i hc
    simp only [Bool.and_eq_true, eqOk] at hc
    refine op_neD hu pins s σ H _ _ v u Q I r1 r2 ⟨_, _, own_dp hs o1 (SeqAt.canLay_of_shaped hc.1), own_dp hs o2 (SeqAt.canLay_of_shaped hc.2), hc.1, hc.2, ?_⟩
    exact q _ B H [] (New.flat hs (.atom rfl))
end
/-! ### order -/
def ltD : D → D → Option D
  | .int i, .int j => some (.bl (decide (i < j)))
  | .str s, .str t => some (.bl (decide (s < t)))
  | _, _ => none
def leD : D → D → Option D
  | .int i, .int j => some (.bl (decide (i ≤ j)))
  | .str s, .str t => some (.bl (!decide (t < s)))
  | _, _ => none
def gtD (d e : D) : Option D := ltD e d
def geD (d e : D) : Option D := leD e d
section
variable {X : Cx}
theorem od_lt : OpD X (compareOp .Lt) ltD := by
  intro pins s σ H x y v u Q I r1 r2 ⟨B, d, e, F, G, z, hs, o1, o2, hf, q⟩
  unfold ltD at hf
  split at hf <;> cases hf
  · obtain ⟨rfl, rfl⟩ := own_int o1; obtain ⟨rfl, rfl⟩ := own_int o2
    exact op_lt pins s σ H _ _ v u Q I r1 r2 ⟨_, _, rfl, rfl, q _ B H [] (New.flat hs (.atom rfl))⟩
  · obtain ⟨rfl, rfl⟩ := own_str o1; obtain ⟨rfl, rfl⟩ := own_str o2
    exact op_lt_str pins s σ H _ _ v u Q I r1 r2 ⟨_, _, rfl, rfl, by rw [S_list, S_list]; exact q _ B H [] (New.flat hs (.atom rfl))⟩
theorem od_gt : OpD X (compareOp .Gt) gtD := by
  intro pins s σ H x y v u Q I r1 r2 ⟨B, d, e, F, G, z, hs, o1, o2, hf, q⟩
  unfold gtD ltD at hf
  split at hf <;> cases hf
  · obtain ⟨rfl, rfl⟩ := own_int o1; obtain ⟨rfl, rfl⟩ := own_int o2
    exact op_gt pins s σ H _ _ v u Q I r1 r2 ⟨_, _, rfl, rfl, q _ B H [] (New.flat hs (.atom rfl))⟩
  · obtain ⟨rfl, rfl⟩ := own_str o1; obtain ⟨rfl, rfl⟩ := own_str o2
    exact op_gt_str pins s σ H _ _ v u Q I r1 r2 ⟨_, _, rfl, rfl, by rw [S_list, S_list]; exact q _ B H [] (New.flat hs (.atom rfl))⟩
theorem od_le : OpD X (compareOp .LtE) leD := by
  intro pins s σ H x y v u Q I r1 r2 ⟨B, d, e, F, G, z, hs, o1, o2, hf, q⟩
  unfold leD at hf
  split at hf <;> cases hf
  · obtain ⟨rfl, rfl⟩ := own_int o1; obtain ⟨rfl, rfl⟩ := own_int o2
    exact op_le pins s σ H _ _ v u Q I r1 r2 ⟨_, _, rfl, rfl, q _ B H [] (New.flat hs (.atom rfl))⟩
  · obtain ⟨rfl, rfl⟩ := own_str o1; obtain ⟨rfl, rfl⟩ := own_str o2
    exact op_le_str pins s σ H _ _ v u Q I r1 r2 ⟨_, _, rfl, rfl, by rw [S_list, S_list]; exact q _ B H [] (New.flat hs (.atom rfl))⟩
theorem od_ge : OpD X (compareOp .GtE) geD := by
  intro pins s σ H x y v u Q I r1 r2 ⟨B, d, e, F, G, z, hs, o1, o2, hf, q⟩
  unfold geD leD at hf
  split at hf <;> cases hf
  · obtain ⟨rfl, rfl⟩ := own_int o1; obtain ⟨rfl, rfl⟩ := own_int o2
    exact op_ge pins s σ H _ _ v u Q I r1 r2 ⟨_, _, rfl, rfl, q _ B H [] (New.flat hs (.atom rfl))⟩
  · obtain ⟨rfl, rfl⟩ := own_str o1; obtain ⟨rfl, rfl⟩ := own_str o2
    exact op_ge_str pins s σ H _ _ v u Q I r1 r2 ⟨_, _, rfl, rfl, by rw [S_list, S_list]; exact q _ B H [] (New.flat hs (.atom rfl))⟩
end
/-! ### in, is -/
def flatD : D → Bool
  | .non => true
  | .bl _ => true
  | .int _ => true
  | .str _ => true
  | _ => false
/-- a part of a text -/
def isSub (s t : List Nat) : Bool := !(Builtin.Str.occurrences (S t) (S s) 0 (S t).length 1).isEmpty
def inB (d : D) : D → Option Bool
  | .str t => match d with
    | .str [c] => some (decide (c ∈ t))
    | .str s => some (isSub s t)
    | _ => none
  | .lst _ xs => if flatD d && xs.all flatD then some (xs.any fun x => eqB x d) else none
  | .tup xs => if flatD d && xs.all flatD then some (xs.any fun x => eqB x d) else none
  | _ => none
def inD (d e : D) : Option D := (inB d e).map D.bl
def ninD (d e : D) : Option D := (inB d e).map fun b => D.bl !b
section
variable {mg : Ev} {B H : Hp} {X : Cx}
theorem own_flat {v : V} {d : D} {F : List Addr} (o : Own mg B H v d F) (h : flatD d = true) : flatV v = true ∧ F = [] := by
  cases d <;> simp [flatD] at h
  · obtain ⟨rfl, e⟩ := own_non o; exact ⟨rfl, e⟩
  · obtain ⟨rfl, e⟩ := own_bl o; exact ⟨rfl, e⟩
  · obtain ⟨rfl, e⟩ := own_int o; exact ⟨rfl, e⟩
  · obtain ⟨rfl, e⟩ := own_str o; exact ⟨rfl, e⟩
theorem own_eqV {v u : V} {d e : D} {F G : List Addr} (o1 : Own mg B H v d F) (o2 : Own mg B H u e G) (h1 : flatD d = true) (h2 : flatD e = true) : eqV v u = eqB d e := by
  cases d <;> simp [flatD] at h1 <;> cases e <;> simp [flatD] at h2 <;>
    (first
      | obtain ⟨rfl, _⟩ := own_non o1 | obtain ⟨rfl, _⟩ := own_bl o1 | obtain ⟨rfl, _⟩ := own_int o1 | obtain ⟨rfl, _⟩ := own_str o1) <;>
    (first
      | obtain ⟨rfl, _⟩ := own_non o2 | obtain ⟨rfl, _⟩ := own_bl o2 | obtain ⟨rfl, _⟩ := own_int o2 | obtain ⟨rfl, _⟩ := own_str o2) <;> rfl
theorem owns_any {v : V} {d : D} {F : List Addr} (o : Own mg B H v d F) (h : flatD d = true) : ∀ {vs ds G}, Owns mg B H vs ds G → ds.all flatD = true → vs.all flatV = true ∧ inV v vs = ds.any fun x => eqB x d
  | _, _, _, .nil, _ => ⟨rfl, rfl⟩
  | _, _, _, .cons h1 t, e => by
    simp only [List.all_cons, Bool.and_eq_true] at e
    obtain ⟨a, b⟩ := owns_any o h t e.2
    refine ⟨by simp [(own_flat h1 e.1).1, List.all_eq_true.mp a]; exact fun x hx => List.all_eq_true.mp a x hx, ?_⟩
    show (eqV _ v || inV v _) = _
    rw [own_eqV h1 o e.1 h, b]; rfl
theorem in_core {neg : Bool} {g : Value → Value → Sem Value} (hseq : OpR X g (rIn X.K neg)) (hsig : OpR X g (fun x y H Q => ∃ (c : Nat) (z : Str), x = .str ⟨#[c]⟩ ∧ y = .str z ∧ Q (.bl (if neg then !decide (c ∈ z.cps.toList) else decide (c ∈ z.cps.toList))) H))
    (hstr : OpR X g (fun x y H Q => ∃ i j, x = .str i ∧ y = .str j ∧ Q (.bl (if neg then !(!(Builtin.Str.occurrences j i 0 j.length 1).isEmpty) else !(Builtin.Str.occurrences j i 0 j.length 1).isEmpty)) H)) :
    OpD X g (fun d e => (inB d e).map fun b => D.bl (if neg then !b else b)) := by
  intro pins s σ H x y v u Q I r1 r2 ⟨B, d, e, F, G, z, hs, o1, o2, hf, q⟩
  dsimp only at hf
  cases hi : inB d e with
  | none => rw [hi] at hf; cases hf
  | some b =>
    rw [hi] at hf
    cases hf
    have q' := q _ B H [] (New.flat hs (.atom (v := .bl (if neg then !b else b)) rfl))
    cases e <;> simp only [inB] at hi <;> try (cases hi; done)
    · rename_i t
      obtain ⟨rfl, rfl⟩ := own_str o2
      split at hi <;> cases hi
      · rename_i c
        obtain ⟨rfl, rfl⟩ := own_str o1
        exact hsig pins s σ H _ _ v u Q I r1 r2 ⟨c, S t, rfl, rfl, by rw [S_list]; exact q'⟩
      · rename_i s' _
        obtain ⟨rfl, rfl⟩ := own_str o1
        exact hstr pins s σ H _ _ v u Q I r1 r2 ⟨_, _, rfl, rfl, q'⟩
    · split at hi <;> cases hi
      rename_i hc
      simp only [Bool.and_eq_true] at hc
      obtain ⟨a, vs, K1, rfl, h1, h2, t⟩ := lst_sql (K := X.K) hs o2
      obtain ⟨e1, e2⟩ := owns_any o1 hc.1 t hc.2
      exact hseq pins s σ H _ _ v u Q I r1 r2 ⟨a, vs, rfl, .inl h2, (own_flat o1 hc.1).1, e1, by rw [e2]; exact q'⟩
    · split at hi <;> cases hi
      rename_i hc
      simp only [Bool.and_eq_true] at hc
      obtain ⟨a, vs, rfl, h2, t⟩ := tup_sqt (K := X.K) hs o2
      obtain ⟨e1, e2⟩ := owns_any o1 hc.1 t hc.2
      exact hseq pins s σ H _ _ v u Q I r1 r2 ⟨a, vs, rfl, .inr h2, (own_flat o1 hc.1).1, e1, by rw [e2]; exact q'⟩
theorem od_in : OpD X (compareOp .In) inD := in_core (neg := false) op_in_seq op_in_sign op_in_str
theorem od_nin : OpD X (compareOp .NotIn) ninD := in_core (neg := true) op_notIn_seq op_notIn_sign L2.op_notin_str
def isNonD : D → D → Option D
  | .non, .non => some (.bl true)
  | _, .non => some (.bl false)
  | _, _ => none
def notNonD : D → D → Option D
  | .non, .non => some (.bl false)
  | _, .non => some (.bl true)
  | _, _ => none
def isNonB : D → Bool
  | .non => true
  | _ => false
theorem own_isnon {v : V} {d : D} {F : List Addr} (o : Own mg B H v d F) : decide (v = .non) = isNonB d := by
  cases d <;> simp only [isNonB]
  · obtain ⟨rfl, _⟩ := own_non o; rfl
  all_goals
    refine decide_eq_false fun e => ?_
    subst e
    cases o with
    | atom h => exact h
    | fro _ s _ _ => exact s
    | own _ s _ => exact s
theorem od_is : OpD X (compareOp .Is) isNonD := by
  intro pins s σ H x y v u Q I r1 r2 ⟨B, d, e, F, G, z, hs, o1, o2, hf, q⟩
  have h := own_isnon o1
  unfold isNonD at hf
  split at hf <;> cases hf
  · obtain ⟨rfl, rfl⟩ := own_non o2
    exact op_isN pins s σ H _ _ v u Q I r1 r2 ⟨rfl, by rw [h]; exact q _ B H [] (New.flat hs (.atom rfl))⟩
  · rename_i hne
    obtain ⟨rfl, rfl⟩ := own_non o2
    refine op_isN pins s σ H _ _ v u Q I r1 r2 ⟨rfl, ?_⟩
    rw [h]
    have e2 : isNonB d = false := by
      cases d <;> simp [isNonB] at hne ⊢
    rw [e2]
    exact q _ B H [] (New.flat hs (.atom rfl))
theorem od_isnot : OpD X (compareOp .IsNot) notNonD := by
  intro pins s σ H x y v u Q I r1 r2 ⟨B, d, e, F, G, z, hs, o1, o2, hf, q⟩
  have h := own_isnon o1
  unfold notNonD at hf
  split at hf <;> cases hf
  · obtain ⟨rfl, rfl⟩ := own_non o2
    exact op_notN pins s σ H _ _ v u Q I r1 r2 ⟨rfl, by rw [h]; exact q _ B H [] (New.flat hs (.atom rfl))⟩
  · rename_i hne
    obtain ⟨rfl, rfl⟩ := own_non o2
    refine op_notN pins s σ H _ _ v u Q I r1 r2 ⟨rfl, ?_⟩
    rw [h]
    have e2 : isNonB d = false := by
      cases d <;> simp [isNonB] at hne ⊢
    rw [e2]
    exact q _ B H [] (New.flat hs (.atom rfl))
end
end Eng
/-! Eng6: tests, and, or, not, if; displays; items; slices. -/
namespace Eng
open PySem PySem.Spec PyProof.Rows L2

def mB (m : M D) : M Bool := fun ρ => match m ρ with
  | .ok (.bl b) ρ' => .ok b ρ'
  | .ok _ _ => .stuck
  | .exc e ρ' => .exc e ρ'
  | .stuck => .stuck
def eBo (m : M Bool) : M D := mBind m fun b => mPure (.bl b)
def mAnd (m n : M Bool) : M Bool := mBind m fun b => if b then n else mPure false
def mOr (m n : M Bool) : M Bool := mBind m fun b => if b then mPure true else n
def mNot (m : M Bool) : M Bool := mBind m fun b => mPure (!b)
def eIf (c : M Bool) (m n : M D) : M D := mBind c fun b => if b then m else n

section
variable {mg : Ev} {a1 a2 s1 s2 alt sep : Bool} {B B1 B2 B' H H1 H2 H' : Hp} {σ : L2.St} {ρ ρ1 ρ2 ρ' : Rho} {U U1 U2 U' F F1 F2 : List Addr} {r r1 r2 : Rel mg}
/-- the first one alone, behind the second -/
theorem Post.comb1 (p : Post mg a1 s1 B H σ ρ U ρ1 r1 B1 H1 U1 F1) (q : Post mg a2 s2 B1 H1 σ ρ1 U1 ρ2 r2 B2 H2 U2 F2) (hc : a2 = false ∨ s1 = true) :
    Post mg (a1 || a2) s1 B H σ ρ U ρ2 r1 B2 H2 U2 F1 where
  st := q.st
  own := by
    rcases hc with e | e
    · exact r1.step p.own (q.alt e).2.2 fun _ _ h => absurd h (by simp)
    · exact r1.step p.own q.step (p.sep e).1.dj
  sep := fun e => by
    obtain ⟨k1, n1⟩ := p.sep e
    exact ⟨k1.step (r1.there p.own) q.step, n1⟩
  step := p.step.trans q.step
  alt := fun e => by
    simp only [Bool.or_eq_false_iff] at e
    obtain ⟨x1, x2, x3⟩ := p.alt e.1
    obtain ⟨y1, y2, y3⟩ := q.alt e.2
    exact ⟨y1.trans x1, y2.trans x2, x3.trans y3⟩
/-- the second one alone: what the first gave is dropped -/
theorem Post.comb2 (p : Post mg a1 s1 B H σ ρ U ρ1 r1 B1 H1 U1 F1) (q : Post mg a2 s2 B1 H1 σ ρ1 U1 ρ2 r2 B2 H2 U2 F2) :
    Post mg (a1 || a2) s2 B H σ ρ U ρ2 r2 B2 H2 U2 F2 where
  st := q.st
  own := q.own
  sep := fun e => by
    obtain ⟨k1, n1⟩ := q.sep e
    refine ⟨k1, fun a x => ?_⟩
    rcases n1 a x with z | z
    · exact p.step.new a z
    · by_cases y : H a = none
      · exact .inr y
      · by_cases w : a ∈ U
        · exact .inl w
        · rw [p.step.keep a y w] at z; exact absurd z y
  step := p.step.trans q.step
  alt := fun e => by
    simp only [Bool.or_eq_false_iff] at e
    obtain ⟨x1, x2, x3⟩ := p.alt e.1
    obtain ⟨y1, y2, y3⟩ := q.alt e.2
    exact ⟨y1.trans x1, y2.trans x2, x3.trans y3⟩
end

section
variable {X : Cx} {W : WX} {alt sep a1 a2 a3 s1 s2 s3 : Bool} {e ea eb ec : Expr} {es : List Expr} {m ma mb mc : M D} {ms : M (List D)} {m1 m2 : M Bool} {pos : Pos}

theorem bool_core {t : TT} (w : ∀ σ H Q, (tE X.ev W alt sep m) σ H (fun x H1 => ∃ b, x = .bl b ∧ Q b H1) → t σ H Q) : ∀ σ H Q, tT X.ev W alt (mB m) σ H Q → t σ H Q := by
  intro σ H Q ⟨B, ρ, U, st, k⟩
  refine w σ H Q ⟨B, ρ, U, st, ?_⟩
  unfold mB at k
  cases hm : m ρ with
  | ok d ρ' =>
    rw [hm] at k
    intro v B' H' U' F p
    cases d with
    | bl b =>
      obtain ⟨rfl, rfl⟩ := own_bl p.own
      exact ⟨b, rfl, k B' H' U' ⟨p.st, rfl, fun _ => ⟨Sep.nil, fun _ h => absurd h (by simp)⟩, p.step, p.alt⟩⟩
    | _ => exact k.elim
  | exc x ρ' => rw [hm] at k; exact k
  | stuck => rw [hm] at k; exact k
/-- a bool as a test -/
theorem t_val (h : PD X W alt sep e m) (he : ∀ whole, isTrue e X.env whole = (do let v ← whole; standAt e.pos; holding [v] (truthy v)) := by intro _; rfl) : PDT X W alt e (mB m) :=
  PT.weak (pt_val h he) (bool_core fun _ _ _ h => h)
theorem t_cmp {op : CmpOp} {f : D → D → Option D} (ho : OpD X (compareOp op) f) (ha : PD X W a1 s1 ea ma) (hb : PD X W a2 s2 eb mb) (hm : behindInMarks op eb = false := by first | exact nomark _ | rfl) (hc : (!a2 || s1) = true := by decide) :
    PDT X W (a1 || a2) (.Compare ea [op] [eb] pos) (mB (eOp f ma mb)) := by
  refine PT.weak (pt_cmpR ho ha hb hm) (bool_core (sep := true) fun σ H Q h => ?_)
  obtain ⟨B, ρ, U, st, k⟩ := h
  -- the very proof of d_two
  have hc' : a2 = false ∨ s1 = true := by cases a2 <;> simp_all
  refine ⟨B, ρ, U, st, ?_⟩
  unfold eOp mBind at k
  cases hm : ma ρ with
  | ok d ρ1 =>
    rw [hm] at k
    intro v B1 H1 U1 F1 p
    refine ⟨B1, ρ1, U1, p.st, ?_⟩
    dsimp only [Res.bind] at k
    cases hm2 : mb ρ1 with
    | ok d2 ρ2 =>
      rw [hm2] at k
      intro v2 B2 H2 U2 F2 q
      have pq := p.comb q hc'
      obtain ⟨G1, G2, _, o1, o2⟩ := pq.own
      dsimp only [mOpt] at k
      cases hf : f d d2 with
      | none => rw [hf] at k; exact k.elim
      | some z =>
        rw [hf] at k
        exact ⟨B2, d, d2, G1, G2, z, pq.st.sub, o1, o2, hf, fun w B' H' K nw => k w B' H' U2 K (pq.fin nw)⟩
    | exc x ρ2 => rw [hm2] at k; exact k.back p.step
    | stuck => rw [hm2] at k; exact k
  | exc x ρ1 => rw [hm] at k; exact k
  | stuck => rw [hm] at k; exact k
theorem PDT.to (h : PDT X W a1 e m1) (ha : a2 = false → a1 = false := by decide) : PDT X W a2 e m1 := PT.weak h fun σ H Q ⟨B, ρ, U, st, k⟩ => by
  refine ⟨B, ρ, U, st, ?_⟩
  cases hm : m1 ρ with
  | ok d ρ' => rw [hm] at k; exact fun B' H' U' p => k B' H' U' (p.weak ha fun h => h)
  | exc x ρ' => rw [hm] at k; exact k
  | stuck => rw [hm] at k; exact k
theorem PDW.pt (h : PDW X W a1 e m1) : PDT X W a1 e m1 := L2.PW.pt h
theorem w_and1 (h : PDT X W a1 e m1) : PDW X W a1 (.BoolOp .And [e] pos) m1 := pw_and1 h
theorem w_or1 (h : PDT X W a1 e m1) : PDW X W a1 (.BoolOp .Or [e] pos) m1 := pw_or1 h
theorem w_and {rest : List Expr} (ha : PDT X W a1 ea m1) (hb : PDW X W a2 (.BoolOp .And (eb :: rest) pos) m2) : PDW X W (a1 || a2) (.BoolOp .And (ea :: eb :: rest) pos) (mAnd m1 m2) := PW.weak (pw_and ha hb) fun σ H Q ⟨B, ρ, U, st, k⟩ => by
  refine ⟨B, ρ, U, st, ?_⟩
  unfold mAnd mBind at k
  cases hm : m1 ρ with
  | ok b ρ1 =>
    rw [hm] at k
    intro B1 H1 U1 p
    dsimp only [Res.bind] at k
    cases b with
    | true =>
      simp only [if_true] at k ⊢
      refine ⟨B1, ρ1, U1, p.st, ?_⟩
      cases hm2 : m2 ρ1 with
      | ok b2 ρ2 => rw [hm2] at k; exact fun B2 H2 U2 q => k B2 H2 U2 (p.comb2 q)
      | exc x ρ2 => rw [hm2] at k; exact k.back p.step
      | stuck => rw [hm2] at k; exact k
    | false =>
      exact k B1 H1 U1 (p.weak (fun e => by simp only [Bool.or_eq_false_iff] at e; exact e.1) fun h => h)
  | exc x ρ1 => rw [hm] at k; exact k
  | stuck => rw [hm] at k; exact k
theorem w_or {rest : List Expr} (ha : PDT X W a1 ea m1) (hb : PDW X W a2 (.BoolOp .Or (eb :: rest) pos) m2) : PDW X W (a1 || a2) (.BoolOp .Or (ea :: eb :: rest) pos) (mOr m1 m2) := PW.weak (pw_or ha hb) fun σ H Q ⟨B, ρ, U, st, k⟩ => by
  refine ⟨B, ρ, U, st, ?_⟩
  unfold mOr mBind at k
  cases hm : m1 ρ with
  | ok b ρ1 =>
    rw [hm] at k
    intro B1 H1 U1 p
    dsimp only [Res.bind] at k
    cases b with
    | false =>
      refine ⟨B1, ρ1, U1, p.st, ?_⟩
      simp only [Bool.false_eq_true, if_false] at k
      cases hm2 : m2 ρ1 with
      | ok b2 ρ2 => rw [hm2] at k; exact fun B2 H2 U2 q => k B2 H2 U2 (p.comb2 q)
      | exc x ρ2 => rw [hm2] at k; exact k.back p.step
      | stuck => rw [hm2] at k; exact k
    | true =>
      exact k B1 H1 U1 (p.weak (fun e => by simp only [Bool.or_eq_false_iff] at e; exact e.1) fun h => h)
  | exc x ρ1 => rw [hm] at k; exact k
  | stuck => rw [hm] at k; exact k
theorem t_not (h : PDT X W alt e m1) : PDT X W alt (.UnaryOp .Not e pos) (mNot m1) := PT.weak (pt_not h) fun σ H Q ⟨B, ρ, U, st, k⟩ => by
  refine ⟨B, ρ, U, st, ?_⟩
  unfold mNot mBind at k
  cases hm : m1 ρ with
  | ok b ρ1 => rw [hm] at k; exact k
  | exc x ρ1 => rw [hm] at k; exact k
  | stuck => rw [hm] at k; exact k
/-! as values -/
theorem d_not (h : PD X W alt sep e m) : PD X W alt true (.UnaryOp .Not e pos) (eBo (mNot (mB m))) := PE.weak (pe_not h) fun σ H Q ⟨B, ρ, U, st, k⟩ => by
  refine ⟨B, ρ, U, st, ?_⟩
  dsimp only [eBo, mNot, mB, mBind] at k
  cases hm : m ρ with
  | ok d ρ' =>
    rw [hm] at k
    intro v B' H' U' F p
    cases d with
    | bl b =>
      obtain ⟨rfl, rfl⟩ := own_bl p.own
      exact ⟨b, rfl, k _ B' H' U' [] ⟨p.st, .atom rfl, fun _ => ⟨Sep.nil, fun _ h => absurd h (by simp)⟩, p.step, p.alt⟩⟩
    | _ => exact k.elim
  | exc x ρ' => rw [hm] at k; exact k
  | stuck => rw [hm] at k; exact k
/-- one operand alone -/
theorem d_one {op} (h : PD X W alt sep e m) : PD X W alt true (.BoolOp op [e] pos) (eBo (mB m)) := PE.weak (pe_one h) fun σ H Q ⟨B, ρ, U, st, k⟩ => by
  refine ⟨B, ρ, U, st, ?_⟩
  dsimp only [eBo, mB, mBind] at k
  cases hm : m ρ with
  | ok d ρ' =>
    rw [hm] at k
    intro v B' H' U' F p
    cases d with
    | bl b =>
      obtain ⟨rfl, rfl⟩ := own_bl p.own
      exact k _ B' H' U' [] ⟨p.st, .atom rfl, fun _ => ⟨Sep.nil, fun _ h => absurd h (by simp)⟩, p.step, p.alt⟩
    | _ => exact k.elim
  | exc x ρ' => rw [hm] at k; exact k
  | stuck => rw [hm] at k; exact k
theorem d_and {rest : List Expr} (ha : PD X W a1 s1 ea ma) (hb : PD X W a2 s2 (.BoolOp .And (eb :: rest) pos) (eBo m2)) : PD X W (a1 || a2) true (.BoolOp .And (ea :: eb :: rest) pos) (eBo (mAnd (mB ma) m2)) := PE.weak (pe_and ha hb) fun σ H Q ⟨B, ρ, U, st, k⟩ => by
  refine ⟨B, ρ, U, st, ?_⟩
  dsimp only [eBo, mAnd, mB, mBind] at k
  cases hm : ma ρ with
  | ok d ρ1 =>
    rw [hm] at k
    intro v B1 H1 U1 F1 p
    cases d with
    | bl b =>
      obtain ⟨rfl, rfl⟩ := own_bl p.own
      refine ⟨b, rfl, ?_⟩
      dsimp only [Res.bind] at k
      cases b with
      | true =>
        simp only [if_true] at k ⊢
        refine ⟨B1, ρ1, U1, p.st, ?_⟩
        unfold eBo mBind
        cases hm2 : m2 ρ1 with
        | ok b2 ρ2 =>
          rw [hm2] at k
          intro v2 B2 H2 U2 F2 q
          obtain ⟨rfl, rfl⟩ := own_bl q.own
          have pq := p.comb2 q
          exact k _ B2 H2 U2 [] ⟨pq.st, .atom rfl, fun _ => ⟨Sep.nil, fun _ h => absurd h (by simp)⟩, pq.step, pq.alt⟩
        | exc x ρ2 => rw [hm2] at k; exact k.back p.step
        | stuck => rw [hm2] at k; exact k
      | false =>
        exact k _ B1 H1 U1 [] ⟨p.st, .atom rfl, fun _ => ⟨Sep.nil, fun _ h => absurd h (by simp)⟩, p.step, fun e => p.alt (by simp only [Bool.or_eq_false_iff] at e; exact e.1)⟩
    | _ => exact k.elim
  | exc x ρ1 => rw [hm] at k; exact k
  | stuck => rw [hm] at k; exact k
theorem d_or {rest : List Expr} (ha : PD X W a1 s1 ea ma) (hb : PD X W a2 s2 (.BoolOp .Or (eb :: rest) pos) (eBo m2)) : PD X W (a1 || a2) true (.BoolOp .Or (ea :: eb :: rest) pos) (eBo (mOr (mB ma) m2)) := PE.weak (pe_or ha hb) fun σ H Q ⟨B, ρ, U, st, k⟩ => by
  refine ⟨B, ρ, U, st, ?_⟩
  dsimp only [eBo, mOr, mB, mBind] at k
  cases hm : ma ρ with
  | ok d ρ1 =>
    rw [hm] at k
    intro v B1 H1 U1 F1 p
    cases d with
    | bl b =>
      obtain ⟨rfl, rfl⟩ := own_bl p.own
      refine ⟨b, rfl, ?_⟩
      dsimp only [Res.bind] at k
      cases b with
      | false =>
        simp only [Bool.false_eq_true, if_false] at k ⊢
        refine ⟨B1, ρ1, U1, p.st, ?_⟩
        unfold eBo mBind
        cases hm2 : m2 ρ1 with
        | ok b2 ρ2 =>
          rw [hm2] at k
          intro v2 B2 H2 U2 F2 q
          obtain ⟨rfl, rfl⟩ := own_bl q.own
          have pq := p.comb2 q
          exact k _ B2 H2 U2 [] ⟨pq.st, .atom rfl, fun _ => ⟨Sep.nil, fun _ h => absurd h (by simp)⟩, pq.step, pq.alt⟩
        | exc x ρ2 => rw [hm2] at k; exact k.back p.step
        | stuck => rw [hm2] at k; exact k
      | true =>
        exact k _ B1 H1 U1 [] ⟨p.st, .atom rfl, fun _ => ⟨Sep.nil, fun _ h => absurd h (by simp)⟩, p.step, fun e => p.alt (by simp only [Bool.or_eq_false_iff] at e; exact e.1)⟩
    | _ => exact k.elim
  | exc x ρ1 => rw [hm] at k; exact k
  | stuck => rw [hm] at k; exact k
theorem d_if (hc : PDT X W a1 ec m1) (ha : PD X W a2 s2 ea ma) (hb : PD X W a3 s3 eb mb) : PD X W (a1 || (a2 || a3)) (s2 && s3) (.IfExp ec ea eb pos) (eIf m1 ma mb) := PE.weak (pe_ifExp hc ha hb) fun σ H Q ⟨B, ρ, U, st, k⟩ => by
  refine ⟨B, ρ, U, st, ?_⟩
  unfold eIf mBind at k
  cases hm : m1 ρ with
  | ok b ρ1 =>
    rw [hm] at k
    intro B1 H1 U1 p
    dsimp only [Res.bind] at k
    have go : ∀ {a s : Bool} {mm : M D}, (a = false ∨ (a2 || a3) = true) → ((s2 && s3) = true → s = true) → (match mm ρ1 with | .ok d ρ' => ∀ v B' H' U' F, Post X.ev (a1 || (a2 || a3)) (s2 && s3) B H σ ρ U ρ' (oV X.ev v d) B' H' U' F → Q v H' | .exc e ρ' => excW X.ev W B H σ U e ρ' | .stuck => False) →
        tE X.ev W a s mm σ H1 Q := fun {a s mm} ha hs k => by
      refine ⟨B1, ρ1, U1, p.st, ?_⟩
      cases hm2 : mm ρ1 with
      | ok d ρ2 =>
        rw [hm2] at k
        intro v B2 H2 U2 F2 q
        exact k v B2 H2 U2 F2 ((p.comb2 q).weak (fun e => by
          simp only [Bool.or_eq_false_iff] at e ⊢
          refine ⟨e.1, ?_⟩
          rcases ha with z | z
          · exact z
          · simp [e.2.1, e.2.2] at z) hs)
      | exc x ρ2 => rw [hm2] at k; exact k.back p.step
      | stuck => rw [hm2] at k; exact k
    cases b with
    | true =>
      simp only [if_true] at k ⊢
      exact go (by cases a2 <;> simp) (fun e => by simp only [Bool.and_eq_true] at e; exact e.1) k
    | false =>
      simp only [Bool.false_eq_true, if_false] at k ⊢
      exact go (by cases a3 <;> simp) (fun e => by simp only [Bool.and_eq_true] at e; exact e.2) k
  | exc x ρ1 => rw [hm] at k; exact k
  | stuck => rw [hm] at k; exact k
end
end Eng
/-! Eng7: lists of arguments, displays, items, slices, calls of built-ins. -/
namespace Eng
open PySem PySem.Spec PyProof.Rows L2

def lNil : M (List D) := mPure []
def lCons (m : M D) (ms : M (List D)) : M (List D) := mBind m fun d => mBind ms fun ds => mPure (d :: ds)
def lstD (ds : List D) : Option D := if ds.length ≤ 100000 then some (.lst true ds) else none
def tupD (ds : List D) : Option D := if ds.length ≤ 100000 then some (.tup ds) else none
def eLst (ms : M (List D)) : M D := mBind ms fun ds => mOpt (lstD ds)
def eTup (ms : M (List D)) : M D := mBind ms fun ds => mOpt (tupD ds)
def eUn (f : D → Option D) (m : M D) : M D := mBind m fun d => mOpt (f d)
def eFn (f : List D → Option D) (ms : M (List D)) : M D := mBind ms fun ds => mOpt (f ds)

section
variable {mg : Ev} {a1 a2 s1 s2 alt sep : Bool} {B B1 B2 B' H H1 H2 H' : Hp} {σ : L2.St} {ρ ρ1 ρ2 ρ' : Rho} {U U1 U2 U' F F1 F2 : List Addr} {r r1 r2 : Rel mg}
theorem Post.rel {r' : Rel mg} (p : Post mg alt sep B H σ ρ U ρ' r B' H' U' F) (h : r.R B' H' F → r'.R B' H' F) : Post mg alt sep B H σ ρ U ρ' r' B' H' U' F := ⟨p.st, h p.own, p.sep, p.step, p.alt⟩
theorem Post.newLst {vs : List V} {ds : List D} {q : Addr} (p : Post mg alt true B H σ ρ U ρ' (oL mg vs ds) B1 H1 U1 F) (hq : H1 q = none) : Post mg alt true B H σ ρ U ρ' (oV mg (.ref q) (.lst true ds)) B1 (upd H1 q (.lst vs)) U1 (q :: F) := by
  have hB : B1 q = none := by
    cases e : B1 q with
    | none => rfl
    | some o => rw [p.st.sub _ _ e] at hq; cases hq
  have st : Step B1 H1 [] B1 (upd H1 q (.lst vs)) [] := ⟨fun a o h => by rw [upd_ne (ne_of_none (p.st.sub a o h) hq)]; exact p.st.sub a o h, fun _ _ h => h, fun a h _ => by rw [upd_ne (fun z => h (by rw [z]; exact hq))], fun _ h => absurd h (by simp), fun a h => .inl h⟩
  have o := Owns.step p.own st fun _ _ h => absurd h (by simp)
  obtain ⟨k, n⟩ := p.sep rfl
  have th := Owns.there p.own
  refine ⟨p.st.stepN st, .own (A := [q]) rfl ⟨upd_same, rfl⟩ o, fun _ => ⟨⟨List.nodup_cons.mpr ⟨fun z => th q z hq, k.nd⟩, fun a x y => ?_, fun a x => ?_⟩, fun a x => ?_⟩, p.step.trans st.none_of, fun e => ?_⟩
  · rcases List.mem_cons.mp x with rfl | x
    · exact p.st.ex a y hq
    · exact k.dj a x y
  · rcases List.mem_cons.mp x with rfl | x
    · exact hB
    · exact k.off a x
  · rcases List.mem_cons.mp x with rfl | x
    · by_cases w : a ∈ U
      · exact .inl w
      · refine .inr ?_
        cases e : H a with
        | none => rfl
        | some o => rw [p.step.keep a (by rw [e]; simp) w, e] at hq; cases hq
    · exact n a x
  · obtain ⟨x, y, z⟩ := p.alt e
    exact ⟨x, y, z.trans st⟩
theorem Post.newTup {vs : List V} {ds : List D} {q : Addr} (p : Post mg alt sep B H σ ρ U ρ' (oL mg vs ds) B1 H1 U1 F) (hq : H1 q = none) : Post mg alt sep B H σ ρ U ρ' (oV mg (.ref q) (.tup ds)) (upd B1 q (.tup vs)) (upd H1 q (.tup vs)) U1 F := by
  have hB : B1 q = none := by
    cases e : B1 q with
    | none => rfl
    | some o => rw [p.st.sub _ _ e] at hq; cases hq
  have st : Step B1 H1 [] (upd B1 q (.tup vs)) (upd H1 q (.tup vs)) [] := by
    refine ⟨fun a o h => ?_, fun a o h => by rw [upd_ne (ne_of_none h hB)]; exact h, fun a h _ => by rw [upd_ne (fun z => h (by rw [z]; exact hq))], fun _ h => absurd h (by simp), fun a h => ?_⟩
    · by_cases e : a = q
      · subst e; rw [upd_same] at h ⊢; exact h
      · rw [upd_ne e] at h ⊢; exact p.st.sub a o h
    · by_cases e : a = q
      · subst e; exact .inr (.inr hq)
      · rw [upd_ne e] at h; exact .inl h
  have o := Owns.step p.own st fun _ _ h => absurd h (by simp)
  have th := Owns.there p.own
  refine ⟨p.st.stepN st, .fro (A := []) rfl ⟨upd_same, rfl⟩ o (fun e => by cases e), fun e => ?_, p.step.trans st.none_of, fun e => ?_⟩
  · obtain ⟨k, n⟩ := p.sep e
    exact ⟨⟨k.nd, k.dj, fun a x => by rw [upd_ne (fun z => th a x (by rw [z]; exact hq))]; exact k.off a x⟩, n⟩
  · obtain ⟨x, y, z⟩ := p.alt e
    exact ⟨x, y, z.trans st⟩
end

section
variable {X : Cx} {W : WX} {alt sep a1 a2 a3 s1 s2 s3 : Bool} {e ea eb ec : Expr} {es : List Expr} {m ma mb mc : M D} {ms : M (List D)} {m1 m2 : M Bool} {pos : Pos}
theorem l_nil : PDL X W false true [] lNil := PA.weak pa_nil fun σ H Q ⟨B, ρ, U, st, k⟩ =>
  k [] B H U [] ⟨st, .nil, fun _ => ⟨Sep.nil, fun _ h => absurd h (by simp)⟩, Step.refl st.sub, fun _ => ⟨rfl, rfl, Step.refl st.sub⟩⟩
theorem l_cons (h : PD X W a1 s1 e m) (t : PDL X W a2 s2 es ms) (hs : starEach (e :: es) X.env = (false, eval e X.env) :: starEach es X.env := by rfl) (hc : (!a2 || s1) = true := by decide) : PDL X W (a1 || a2) (s1 && s2) (e :: es) (lCons m ms) :=
  PA.weak (pa_cons h t hs) fun σ H Q ⟨B, ρ, U, st, k⟩ => by
    have hc' : a2 = false ∨ s1 = true := by cases a2 <;> simp_all
    refine ⟨B, ρ, U, st, ?_⟩
    dsimp only [lCons, mBind] at k
    cases hm : m ρ with
    | ok d ρ1 =>
      rw [hm] at k
      intro v B1 H1 U1 F1 p
      refine ⟨B1, ρ1, U1, p.st, ?_⟩
      dsimp only [Res.bind, mBind] at k
      cases hm2 : ms ρ1 with
      | ok d2 ρ2 =>
        rw [hm2] at k
        intro v2 B2 H2 U2 F2 q
        refine k _ B2 H2 U2 _ ((p.comb q hc').rel fun ⟨G1, G2, e, o1, o2⟩ => ?_)
        rw [e]
        exact .cons o1 o2
      | exc x ρ2 => rw [hm2] at k; exact k.back p.step
      | stuck => rw [hm2] at k; exact k
    | exc x ρ1 => rw [hm] at k; exact k
    | stuck => rw [hm] at k; exact k
theorem d_lst (h : PDL X W alt true es ms) : PD X W alt true (.List es pos) (eLst ms) := PE.weak (pe_lst h) fun σ H Q ⟨B, ρ, U, st, k⟩ => by
  refine ⟨B, ρ, U, st, ?_⟩
  dsimp only [eLst, mBind] at k
  cases hm : ms ρ with
  | ok ds ρ1 =>
    rw [hm] at k
    intro vs B1 H1 U1 F1 p
    dsimp only [Res.bind, mBind, mOpt] at k
    unfold lstD at k
    by_cases hl : ds.length ≤ 100000
    · simp only [if_pos hl] at k
      refine ⟨by rw [Owns.len p.own]; exact Nat.le_trans hl (by decide), fun q hq => k _ B1 _ U1 _ (p.newLst hq)⟩
    · simp only [if_neg hl] at k
  | exc x ρ1 => rw [hm] at k; exact k
  | stuck => rw [hm] at k; exact k
theorem d_tup {x1} (h : PDL X W alt sep es ms) : PD X W alt sep (.Tuple es x1 pos) (eTup ms) := PE.weak (pe_tup h) fun σ H Q ⟨B, ρ, U, st, k⟩ => by
  refine ⟨B, ρ, U, st, ?_⟩
  dsimp only [eTup, mBind] at k
  cases hm : ms ρ with
  | ok ds ρ1 =>
    rw [hm] at k
    intro vs B1 H1 U1 F1 p
    dsimp only [Res.bind, mBind, mOpt] at k
    unfold tupD at k
    by_cases hl : ds.length ≤ 100000
    · simp only [if_pos hl] at k
      refine ⟨by rw [Owns.len p.own]; exact Nat.le_trans hl (by decide), fun q hq => k _ _ _ U1 _ (p.newTup hq)⟩
    · simp only [if_neg hl] at k
  | exc x ρ1 => rw [hm] at k; exact k
  | stuck => rw [hm] at k; exact k

/-! ### unary minus -/
def negD : D → Option D
  | .int i => some (.int (-i))
  | _ => none
theorem d_neg (h : PD X W alt sep e m) : PD X W alt true (.UnaryOp .USub e pos) (eUn negD m) := PE.weak (pe_un un_neg h) fun σ H Q ⟨B, ρ, U, st, k⟩ => by
  refine ⟨B, ρ, U, st, ?_⟩
  dsimp only [eUn, mBind] at k
  cases hm : m ρ with
  | ok d ρ1 =>
    rw [hm] at k
    intro v B1 H1 U1 F1 p
    dsimp only [Res.bind, mBind] at k
    cases d with
    | int i =>
      obtain ⟨rfl, rfl⟩ := own_int p.own
      exact ⟨i, rfl, k _ B1 H1 U1 [] ⟨p.st, .atom rfl, fun _ => ⟨Sep.nil, fun _ h => absurd h (by simp)⟩, p.step, p.alt⟩⟩
    | _ => exact k.elim
  | exc x ρ1 => rw [hm] at k; exact k
  | stuck => rw [hm] at k; exact k

/-! ### items -/
def idxD : D → D → Option D
  | .lst _ xs, .int i => atI xs i
  | .tup xs, .int i => atI xs i
  | .str s, .int i => if s.length ≤ 16777216 then (atI s i).map fun c => .str [c] else none
  | _, _ => none
def IxD (X : Cx) (f : D → D → Option D) : Prop := IxR X fun x y H Q => ∃ B d e F G z, (∀ a o, B a = some o → H a = some o) ∧ Own X.ev B H x d F ∧ Own X.ev B H y e G ∧ f d e = some z ∧
  ∀ w F', Own X.ev B H w z F' → (∀ a ∈ F', a ∈ F) → (F.Nodup → F'.Nodup) → Q w H
theorem owns_at {mg : Ev} {B H : Hp} {vs : List V} {ds : List D} {F : List Addr} {i : Int} {d : D} (o : Owns mg B H vs ds F) (h : atI ds i = some d) :
    ∃ v F', atI vs i = some v ∧ Own mg B H v d F' ∧ (∀ a ∈ F', a ∈ F) ∧ (F.Nodup → F'.Nodup) := by
  unfold atI at h ⊢
  rw [o.len]
  cases hi : ixN ds.length i with
  | none => rw [hi] at h; cases h
  | some j =>
    rw [hi] at h
    obtain ⟨v, F1, F', F2, e1, o1, e2⟩ := o.get j h
    exact ⟨v, F', e1, o1, fun a x => by rw [e2]; simp [x], fun nd => by rw [e2] at nd; exact (List.nodup_append.mp (List.nodup_append.mp nd).2.1).1⟩
theorem ix_D : IxD X idxD := by
  intro value slice pins s σ H x y v u Q I rx ry ⟨B, d, e, F, G, z, hs, o1, o2, hf, q⟩ hsub
  unfold idxD at hf
  split at hf
  · obtain ⟨a, vs, K1, rfl, h1, t1, hz, ho⟩ := own_lst hs o1
    obtain ⟨rfl, rfl⟩ := own_int o2
    obtain ⟨w, F', e1, ow, sub, nd⟩ := owns_at t1 hf
    refine ix_list value slice pins s σ H _ _ v u Q I rx ry ⟨a, vs, _, w, rfl, rfl, .inl (.inl h1), e1, q w F' ow ?_ ?_⟩ hsub
    · rename_i o _ _
      intro b hb
      cases o with
      | false => obtain ⟨_, _, e⟩ := hz rfl; have := sub b hb; rw [e] at this; simp at this
      | true => rw [ho rfl]; exact List.mem_cons_of_mem _ (sub b hb)
    · rename_i o _ _
      intro nd'
      cases o with
      | false => obtain ⟨_, _, e⟩ := hz rfl; exact nd (by rw [e]; exact List.nodup_nil)
      | true => rw [ho rfl] at nd'; exact nd (List.nodup_cons.mp nd').2
  · obtain ⟨a, vs, rfl, h1, t1⟩ := tup_sqt (K := X.K) hs o1
    obtain ⟨rfl, rfl⟩ := own_int o2
    obtain ⟨w, F', e1, ow, sub, nd⟩ := owns_at t1 hf
    exact ix_tup value slice pins s σ H _ _ v u Q I rx ry ⟨a, vs, _, w, rfl, rfl, h1, e1, q w F' ow sub nd⟩ hsub
  · rename_i s' i
    split at hf
    · rename_i hl
      obtain ⟨rfl, rfl⟩ := own_str o1
      obtain ⟨rfl, rfl⟩ := own_int o2
      cases hc : atI s' i with
      | none => rw [hc] at hf; cases hf
      | some c =>
        rw [hc] at hf; cases hf
        exact ix_str value slice pins s σ H _ _ v u Q I rx ry ⟨_, _, c, rfl, rfl, by rw [S_len]; exact hl, by rw [S_list]; exact hc, q _ [] (.atom rfl) (fun _ h => absurd h (by simp)) fun _ => List.nodup_nil⟩ hsub
    · cases hf
  · cases hf
theorem d_ixG {f : D → D → Option D} (hx : IxD X f) (ha : PD X W a1 s1 ea ma) (hb : PD X W a2 s2 eb mb) (hc : (!a2 || s1) = true := by decide) (hp : PlainIx eb := by exact fun _ _ => rfl) : PD X W (a1 || a2) s1 (.Subscript ea eb pos) (eOp f ma mb) :=
  PE.weak (pe_ix hx ha hb hp) fun σ H Q ⟨B, ρ, U, st, k⟩ => by
    have hc' : a2 = false ∨ s1 = true := by cases a2 <;> simp_all
    refine ⟨B, ρ, U, st, ?_⟩
    dsimp only [eOp, mBind] at k
    cases hm : ma ρ with
    | ok d ρ1 =>
      rw [hm] at k
      intro v B1 H1 U1 F1 p
      refine ⟨B1, ρ1, U1, p.st, ?_⟩
      dsimp only [Res.bind, mBind] at k
      cases hm2 : mb ρ1 with
      | ok d2 ρ2 =>
        rw [hm2] at k
        intro v2 B2 H2 U2 F2 q
        have pq := p.comb1 q hc'
        dsimp only [Res.bind, mBind, mOpt] at k
        cases hf : f d d2 with
        | none => rw [hf] at k; exact k.elim
        | some z =>
          rw [hf] at k
          refine ⟨B2, d, d2, F1, F2, z, pq.st.sub, pq.own, q.own, hf, fun w F' ow sub nd => ?_⟩
          refine k w B2 H2 U2 F' ⟨pq.st, ow, fun e => ?_, pq.step, pq.alt⟩
          obtain ⟨k1, n1⟩ := pq.sep e
          exact ⟨⟨nd k1.nd, fun a x => k1.dj a (sub a x), fun a x => k1.off a (sub a x)⟩, fun a x => n1 a (sub a x)⟩
      | exc x ρ2 => rw [hm2] at k; exact k.back p.step
      | stuck => rw [hm2] at k; exact k
    | exc x ρ1 => rw [hm] at k; exact k
    | stuck => rw [hm] at k; exact k
theorem d_ix (ha : PD X W a1 s1 ea ma) (hb : PD X W a2 s2 eb mb) (hc : (!a2 || s1) = true := by decide) (hp : PlainIx eb := by exact fun _ _ => rfl) : PD X W (a1 || a2) s1 (.Subscript ea eb pos) (eOp idxD ma mb) := d_ixG ix_D ha hb hc hp

/-! ### slices -/
def cutL {α : Type} (xs : List α) (lo hi : Option Int) : List α := (xs.drop (HT.sIx xs.length 0 lo)).take (HT.sIx xs.length xs.length hi - HT.sIx xs.length 0 lo)
def slD (d : D) (lo hi : Option Int) : Option D := match d with
  | .lst _ xs => if frzs (cutL xs lo hi) then some (.lst true (cutL xs lo hi)) else none
  | .tup xs => if frzs xs then some (.tup (cutL xs lo hi)) else none
  | .str s => if s.length ≤ 16777216 then some (.str (cutL s lo hi)) else none
  | .scr ns => some (.lst true ((cutL ns lo hi).map D.int))
  | _ => none
def oNone : M (Option Int) := mPure none
def oSome (m : M D) : M (Option Int) := fun ρ => match m ρ with
  | .ok (.int i) ρ' => .ok (some i) ρ'
  | .ok _ _ => .stuck
  | .exc e ρ' => .exc e ρ'
  | .stuck => .stuck
def eSl (m : M D) (lo hi : M (Option Int)) : M D := mBind m fun d => mBind lo fun l => mBind hi fun h => mOpt (slD d l h)
def tO (mg : Ev) (W : WX) (alt : Bool) (m : M (Option Int)) : TO := fun σ H Q => ∃ B ρ U, Sta mg B H σ ρ U ∧ match m ρ with
  | .ok b ρ' => ∀ B' H' U', Post mg alt true B H σ ρ U ρ' (oN mg) B' H' U' [] → Q b H'
  | .exc e ρ' => excW mg W B H σ U e ρ'
  | .stuck => False
def PDO (X : Cx) (W : WX) (alt : Bool) (e : Option Expr) (m : M (Option Int)) : Prop := PO X e (tO X.ev W alt m)
theorem PO.weak {X : Cx} {e : Option Expr} {t t' : TO} (h : PO X e t) (w : ∀ σ H Q, t' σ H Q → t σ H Q) : PO X e t' := ⟨fun pins s σ H Q I q => h.run pins s σ H Q I (w _ _ _ q)⟩
theorem o_none : PDO X W false none oNone := PO.weak po_none fun σ H Q ⟨B, ρ, U, st, k⟩ =>
  k B H U ⟨st, rfl, fun _ => ⟨Sep.nil, fun _ h => absurd h (by simp)⟩, Step.refl st.sub, fun _ => ⟨rfl, rfl, Step.refl st.sub⟩⟩
theorem o_some (h : PD X W alt sep e m) : PDO X W alt (some e) (oSome m) := PO.weak (po_some h) fun σ H Q ⟨B, ρ, U, st, k⟩ => by
  refine ⟨B, ρ, U, st, ?_⟩
  dsimp only [oSome] at k
  cases hm : m ρ with
  | ok d ρ1 =>
    rw [hm] at k
    intro v B1 H1 U1 F1 p
    cases d with
    | int i =>
      obtain ⟨rfl, rfl⟩ := own_int p.own
      exact ⟨i, rfl, k B1 H1 U1 ⟨p.st, rfl, fun _ => ⟨Sep.nil, fun _ h => absurd h (by simp)⟩, p.step, p.alt⟩⟩
    | _ => exact k.elim
  | exc x ρ1 => rw [hm] at k; exact k
  | stuck => rw [hm] at k; exact k
theorem cutS_S (s : List Nat) (lo hi : Option Int) : cutS (S s) lo hi = S (cutL s lo hi) := by
  show (⟨(((S s).cps.toList.drop (HT.sIx (S s).length 0 lo)).take (HT.sIx (S s).length (S s).length hi - HT.sIx (S s).length 0 lo)).toArray⟩ : Str) = _
  rw [S_list, S_len]; rfl
theorem owns_cut {mg : Ev} {B H : Hp} {vs : List V} {ds : List D} {F : List Addr} (lo hi : Option Int) (o : Owns mg B H vs ds F) (h : frzs (cutL ds lo hi) = true) : Owns mg B H (cutV vs lo hi) (cutL ds lo hi) [] := by
  unfold cutV cutL at *
  rw [o.len]
  obtain ⟨_, F1, _, o1, _⟩ := o.take (HT.sIx ds.length 0 lo)
  obtain ⟨F2, _, o2, _, _⟩ := o1.take (HT.sIx ds.length ds.length hi - HT.sIx ds.length 0 lo)
  obtain rfl := o2.nil_of h
  exact o2
theorem frzs_cut {xs : List D} (lo hi : Option Int) (h : frzs xs = true) : frzs (cutL xs lo hi) = true := by
  rw [frzs_iff] at h ⊢
  intro x hx
  exact h x (List.mem_of_mem_drop (List.mem_of_mem_take hx))
def rSlD (mg : Ev) : V → Option Int → Option Int → Hp → VK → Prop := fun x lo hi H Q => ∃ B d F z, (∀ a o, B a = some o → H a = some o) ∧ Own mg B H x d F ∧ slD d lo hi = some z ∧ ∀ w B' H' K, New mg B H w z B' H' K → Q w H'
theorem sl_or : SlR X (fun x lo hi H Q => rSlL X.K x lo hi H Q ∨ (rSlA X.K x lo hi H Q ∨ rSlS x lo hi H Q)) := sl_list.or (sl_tupA.or sl_str)
theorem sl_D : SlR X (rSlD X.ev) := by
  intro pins s σ H x v vl vu lo hi sl Q I rx hs pl pu ⟨B, d, F, z, hsub, o1, hf, q⟩
  refine sl_or pins s σ H x v vl vu lo hi sl Q I rx hs pl pu ?_
  unfold slD at hf
  split at hf
  · split at hf <;> cases hf
    rename_i hz
    obtain ⟨a, vs, K1, rfl, h1, h2, t1⟩ := lst_sql (K := X.K) hsub o1
    exact .inl ⟨a, vs, rfl, h2, fun p hp => q _ _ _ _ (New.lst hsub (owns_cut lo hi t1 hz) hp)⟩
  · split at hf <;> cases hf
    rename_i xs hz
    obtain ⟨a, vs, rfl, h2, t1⟩ := tup_sqt (K := X.K) hsub o1
    refine .inr (.inl ⟨a, vs, rfl, h2, fun e => ?_, fun _ p hp => q _ _ _ _ (New.tup hsub (owns_cut lo hi t1 (frzs_cut lo hi hz)) hp)⟩)
    have e3 : cutL xs lo hi = xs := by
      unfold cutL
      rw [t1.len] at e
      rw [e.1, e.2]; simp
    rw [e3] at q
    obtain rfl := t1.nil_of hz
    exact q _ B H [] (New.flat hsub o1)
  · split at hf <;> cases hf
    rename_i hz
    obtain ⟨rfl, rfl⟩ := own_str o1
    exact .inr (.inr ⟨_, rfl, by rw [S_len]; exact hz, by rw [cutS_S]; exact q _ B H [] (New.flat hsub (.atom (S_list _)))⟩)
  · cases hf
    obtain ⟨a, rfl, hb, rfl⟩ := own_scr o1
    rename_i ns
    refine .inl ⟨a, ns.map V.int, rfl, sq_mono hsub hb, fun p hp => q _ _ _ _ (New.lst hsub ?_ hp)⟩
    have : cutV (ns.map V.int) lo hi = (cutL ns lo hi).map V.int := by
      unfold cutV cutL; rw [List.length_map, List.map_take, List.map_drop]
    rw [this]
    generalize cutL ns lo hi = l
    induction l with
    | nil => exact .nil
    | cons i r ih => exact .cons (F := []) (.atom rfl) ih
  · cases hf
theorem d_sl {lo hi : Option Expr} {p2 : Pos} {al ah : Bool} {ml mh : M (Option Int)} (h : PD X W a1 s1 e m) (hl : PDO X W al lo ml) (hh : PDO X W ah hi mh) (hc : (!(al || ah) || s1) = true := by decide) : PD X W (a1 || (al || ah)) true (.Subscript e (.Slice lo hi none p2) pos) (eSl m ml mh) :=
  PE.weak (pe_slice sl_D h hl hh) fun σ H Q ⟨B, ρ, U, st, k⟩ => by
    have hc' : (al || ah) = false ∨ s1 = true := by cases hx : (al || ah) <;> simp_all
    refine ⟨B, ρ, U, st, ?_⟩
    dsimp only [eSl, mBind] at k
    cases hm : m ρ with
    | ok d ρ1 =>
      rw [hm] at k
      intro v B1 H1 U1 F1 p
      refine ⟨B1, ρ1, U1, p.st, ?_⟩
      dsimp only [Res.bind, mBind] at k
      cases hm2 : ml ρ1 with
      | ok d2 ρ2 =>
        rw [hm2] at k
        intro B2 H2 U2 q
        refine ⟨B2, ρ2, U2, q.st, ?_⟩
        dsimp only [Res.bind, mBind] at k
        cases hm3 : mh ρ2 with
        | ok d3 ρ3 =>
          rw [hm3] at k
          intro B3 H3 U3 q3
          dsimp only [Res.bind, mBind, mOpt] at k
          have pq := p.comb1 (q.comb1 q3 (.inr rfl)) hc'
          cases hf : slD d d2 d3 with
          | none => rw [hf] at k; exact k.elim
          | some z =>
            rw [hf] at k
            exact ⟨B3, d, F1, z, pq.st.sub, pq.own, hf, fun w B' H' K nw => k w B' H' U3 K (pq.fin nw)⟩
        | exc x ρ3 => rw [hm3] at k; exact (k.back p.step).back q.step
        | stuck => rw [hm3] at k; exact k
      | exc x ρ2 => rw [hm2] at k; exact k.back p.step
      | stuck => rw [hm2] at k; exact k
    | exc x ρ1 => rw [hm] at k; exact k
    | stuck => rw [hm] at k; exact k

/-! ### calls of built-ins, by values -/
/-- a built-in of data that makes something new or nothing -/
def FnD (X : Cx) (f : Value) (g : List D → Option D) : Prop := CallR X f fun xs H Q => ∃ B ds F z, (∀ a o, B a = some o → H a = some o) ∧ Owns X.ev B H xs ds F ∧ g ds = some z ∧ ∀ w B' H' K, New X.ev B H w z B' H' K → Q w H'
theorem fn_core {g : List D → Option D} {t : TE} (ht : ∀ σ H Q, (tCB (fun xs H Q => ∃ B ds F z, (∀ a o, B a = some o → H a = some o) ∧ Owns X.ev B H xs ds F ∧ g ds = some z ∧ ∀ w B' H' K, New X.ev B H w z B' H' K → Q w H') (tL X.ev W alt sep ms)) σ H Q → t σ H Q) :
    ∀ σ H Q, tE X.ev W alt true (eFn g ms) σ H Q → t σ H Q := fun σ H Q ⟨B, ρ, U, st, k⟩ => by
  refine ht σ H Q ⟨B, ρ, U, st, ?_⟩
  dsimp only [eFn, mBind] at k
  cases hm : ms ρ with
  | ok ds ρ1 =>
    rw [hm] at k
    intro vs B1 H1 U1 F1 p
    dsimp only [Res.bind, mBind, mOpt] at k
    cases hf : g ds with
    | none => rw [hf] at k; exact k.elim
    | some z =>
      rw [hf] at k
      exact ⟨B1, ds, F1, z, p.st.sub, p.own, hf, fun w B' H' K nw => k w B' H' U1 K (p.fin nw)⟩
  | exc x ρ1 => rw [hm] at k; exact k
  | stuck => rw [hm] at k; exact k
theorem d_bi {id : String} {x : Str} {g : List D → Option D} {p : Pos} (hc : FnD X (.builtin id) g) (hg : Gl X x) (hm : X.mg x = none) (hv : bootBuiltins x = some (.builtin id)) (ha : PDL X W alt sep (e :: es) ms) (hn : x ≠ "__name__" := by decide) (hdb : (x == ("__debug__" : Str)) = false := by decide)
    (he : starEach (e :: es) X.env = (false, eval e X.env) :: starEach es X.env := by rfl) (hpl : (backTo pos (starEach es X.env)).any (·.1) = false := by rfl) : PD X W alt true (.Call (.Name x p) (e :: es) [] pos) (eFn g ms) :=
  PE.weak (pe_callB hc hg hm hv ha hn hdb he hpl) (fn_core fun _ _ _ h => h)
theorem d_bt {T : String} {x : Str} {g : List D → Option D} {p : Pos} (hc : FnD X (.type T) g) (hg : Gl X x) (hm : X.mg x = none) (hv : bootBuiltins x = some (.type T)) (ha : PDL X W alt sep (e :: es) ms) (hn : x ≠ "__name__" := by decide) (hdb : (x == ("__debug__" : Str)) = false := by decide)
    (he : starEach (e :: es) X.env = (false, eval e X.env) :: starEach es X.env := by rfl) (hpl : (backTo pos (starEach es X.env)).any (·.1) = false := by rfl) : PD X W alt true (.Call (.Name x p) (e :: es) [] pos) (eFn g ms) :=
  PE.weak (pe_callTy hc hg hm hv ha hn hdb he hpl) (fn_core fun _ _ _ h => h)
end
end Eng
/-! Eng8: what a slot holds is changed; statements. -/
namespace Eng
open PySem PySem.Spec PyProof.Rows L2

section
variable {mg : Ev} {a1 a2 s1 s2 alt sep : Bool} {B B1 B2 B' H H1 H2 H' : Hp} {σ σ' : L2.St} {ρ ρ1 ρ2 ρ' : Rho} {U U1 U2 U' F F1 F2 : List Addr} {r r1 r2 : Rel mg}
theorem set_same {α : Type} {l : List α} {i : Nat} {x : α} (h : l[i]? = some x) : l.set i x = l := set_self h
/-- what a slot owns is changed by its holder, who may take in what F owns and give out Fr -/
theorem mut_slot {i : Nat} {d0 : D} (p : Post mg alt true B H σ ρ U ρ1 r B1 H1 U1 F) (hi : ρ1[i]? = some (some d0)) :
    ∃ v0 G, σ[i]? = some (some v0) ∧ Own mg B1 H1 v0 d0 G ∧ G.Nodup ∧ (∀ x ∈ G, x ∉ F) ∧ (∀ x ∈ F, x ∉ G) ∧ (∀ x ∈ G, B1 x = none) ∧
      ∀ H2 d2 G2 w e Fr, (∀ x, x ∉ G → H2 x = H1 x) → Own mg B1 H2 v0 d2 G2 → Own mg B1 H2 w e Fr → (∀ x ∈ G2 ++ Fr, x ∈ G ∨ x ∈ F) → (G2 ++ Fr).Nodup →
        ∃ U2, Post mg true true B H σ ρ U (ρ1.set i (some d2)) (oV mg w e) B1 H2 U2 Fr := by
  obtain ⟨k, n⟩ := p.sep rfl
  obtain ⟨v0, G, U', e0, o0, sp, st', mem⟩ := p.st.take hi
  have thF := r.there p.own
  have hlt : i < ρ1.length := (List.getElem?_eq_some_iff.mp hi).1
  refine ⟨v0, G, e0, o0, sp.nd, fun x hx hf => k.dj x hf ((mem x).mpr (.inl hx)), fun x hf hx => k.dj x hf ((mem x).mpr (.inl hx)), sp.off, fun H2 d2 G2 w e Fr hk o2 ow hsub hnd => ?_⟩
  have hsubB : ∀ a o, B1 a = some o → H2 a = some o := fun a o h => by
    rw [hk a fun z => by rw [sp.off a z] at h; cases h]
    exact p.st.sub a o h
  have st1 : Step B1 H1 G B1 H2 [] := ⟨hsubB, fun _ _ h => h, fun a _ x => hk a x, fun _ h => absurd h (by simp), fun _ h => .inl h⟩
  have st2 := st'.step st1 fun a x y => sp.dj a y x
  have nd2 := List.nodup_append.mp hnd
  have gU : ∀ x ∈ G, x ∈ U1 := fun x h => (mem x).mpr (.inl h)
  have offG : ∀ x, x ∈ G ∨ x ∈ F → B1 x = none := fun x h => h.elim (sp.off x) (k.off x)
  have djU : ∀ x, x ∈ G ∨ x ∈ F → x ∉ U' := fun x h y => h.elim (fun h => sp.dj x h y) (fun h => k.dj x h ((mem x).mpr (.inr y)))
  have sp2 : Sep B1 G2 U' := ⟨nd2.1, fun x h => djU x (hsub x (by simp [h])), fun x h => offG x (hsub x (by simp [h]))⟩
  obtain ⟨U'', st3, sub3⟩ := st2.put (i := i) (by simpa using hlt) o2 sp2
  rw [set_self e0, List.set_set] at st3
  have newF : ∀ x ∈ F, x ∈ U ∨ H x = none := n
  have newG : ∀ x ∈ U1, x ∈ U ∨ H x = none := p.step.new
  refine ⟨G2 ++ U'', st3, ow, fun _ => ⟨⟨nd2.2.1, fun x h y => ?_, fun x h => offG x (hsub x (by simp [h]))⟩, fun x h => ?_⟩, ?_, fun h => by cases h⟩
  · rcases List.mem_append.mp y with y | y
    · exact nd2.2.2 x y x h rfl
    · exact djU x (hsub x (by simp [h])) (sub3 x y)
  · rcases hsub x (by simp [h]) with z | z
    · exact newG x (gU x z)
    · exact newF x z
  · refine ⟨hsubB, p.step.bs, fun x hx hn => ?_, fun x h => ?_, p.step.bnew⟩
    · have e1 := p.step.keep x hx hn
      rw [hk x, e1]
      intro z
      rcases newG x (gU x z) with y | y
      · exact hn y
      · exact hx y
    · rcases List.mem_append.mp h with h | h
      · rcases hsub x (by simp [h]) with z | z
        · exact newG x (gU x z)
        · exact newF x z
      · exact newG x ((mem x).mpr (.inr (sub3 x h)))
end

/-! ### statements -/
inductive Out where
  | nx (ρ : Rho)
  | rt (d : D) (ρ : Rho)
  | bk (ρ : Rho)
  | ct (ρ : Rho)
  | exc (e : Exc) (ρ : Rho)
  | stuck
abbrev MS := Rho → Out
structure PostS (mg : Ev) (kp : List Nat) (B H : Hp) (σ : L2.St) (U : List Addr) (σ' : L2.St) (ρ' : Rho) (B' H' : Hp) (U' : List Addr) : Prop where
  st : Sta mg B' H' σ' ρ' U'
  step : Step B H U B' H' U'
  kp : ∀ i ∈ kp, σ'[i]? = σ[i]?
structure PostR (mg : Ev) (kp : List Nat) (B H : Hp) (σ : L2.St) (U : List Addr) (v : V) (d : D) (σ' : L2.St) (ρ' : Rho) (B' H' : Hp) (U' F : List Addr) : Prop where
  st : Sta mg B' H' σ' ρ' U'
  own : Own mg B' H' v d F
  sep : Sep B' F U'
  new : ∀ a ∈ F, a ∈ U ∨ H a = none
  step : Step B H U B' H' U'
  kp : ∀ i ∈ kp, σ'[i]? = σ[i]?
def excS (mg : Ev) (W : WX) (kp : List Nat) (B H : Hp) (σ : L2.St) (U : List Addr) (e : Exc) (ρ' : Rho) : Prop :=
  ∀ σ' B' H' U' cls dx, PostS mg kp B H σ U σ' ρ' B' H' U' → ExcR mg B' H' e cls dx → W cls dx σ' H'
def tS (mg : Ev) (W : WX) (kp : List Nat) (m : MS) : TS := fun D σ H => ∃ B ρ U, Sta mg B H σ ρ U ∧ match m ρ with
  | .nx ρ' => ∀ σ' B' H' U', PostS mg kp B H σ U σ' ρ' B' H' U' → D.nx σ' H'
  | .bk ρ' => ∀ σ' B' H' U', PostS mg kp B H σ U σ' ρ' B' H' U' → D.bk σ' H'
  | .ct ρ' => ∀ σ' B' H' U', PostS mg kp B H σ U σ' ρ' B' H' U' → D.ct σ' H'
  | .rt d ρ' => ∀ v σ' B' H' U' F, PostR mg kp B H σ U v d σ' ρ' B' H' U' F → D.rt v H'
  | .exc e ρ' => excS mg W kp B H σ U e ρ'
  | .stuck => False
def PDS (X : Cx) (W : WX) (kp : List Nat) (st : Stmt) (m : MS) : Prop := PS X st (tS X.ev W kp m)
def PDSs (X : Cx) (W : WX) (kp : List Nat) (st : List Stmt) (m : MS) : Prop := PSs X st (tS X.ev W kp m)

section
variable {mg : Ev} {kp : List Nat} {B B1 B2 B' H H1 H2 H' : Hp} {σ σ1 σ2 σ' : L2.St} {ρ ρ1 ρ2 ρ' : Rho} {U U1 U2 U' F F1 F2 : List Addr} {r : Rel mg} {W : WX} {alt sep : Bool}
theorem PostS.trans (p : PostS mg kp B H σ U σ1 ρ1 B1 H1 U1) (q : PostS mg kp B1 H1 σ1 U1 σ2 ρ2 B2 H2 U2) : PostS mg kp B H σ U σ2 ρ2 B2 H2 U2 :=
  ⟨q.st, p.step.trans q.step, fun i h => (q.kp i h).trans (p.kp i h)⟩
theorem PostS.transR {v : V} {d : D} (p : PostS mg kp B H σ U σ1 ρ1 B1 H1 U1) (q : PostR mg kp B1 H1 σ1 U1 v d σ2 ρ2 B2 H2 U2 F) : PostR mg kp B H σ U v d σ2 ρ2 B2 H2 U2 F :=
  ⟨q.st, q.own, q.sep, fun a x => by
    rcases q.new a x with z | z
    · exact p.step.new a z
    · by_cases y : H a = none
      · exact .inr y
      · by_cases w : a ∈ U
        · exact .inl w
        · rw [p.step.keep a y w] at z; exact absurd z y, p.step.trans q.step, fun i h => (q.kp i h).trans (p.kp i h)⟩
theorem PostS.refl (s : Sta mg B H σ ρ U) : PostS mg kp B H σ U σ ρ B H U := ⟨s, Step.refl s.sub, fun _ _ => rfl⟩
theorem Post.toS (p : Post mg alt sep B H σ ρ U ρ' r B' H' U' F) : PostS mg kp B H σ U σ ρ' B' H' U' := ⟨p.st, p.step, fun _ _ => rfl⟩
theorem excS.back {e : Exc} (k : excS mg W kp B H σ U e ρ') (p : PostS mg kp B H σ U σ1 ρ1 B1 H1 U1) : excS mg W kp B1 H1 σ1 U1 e ρ' :=
  fun σ' B' H' U' cls dx q r => k σ' B' H' U' cls dx (p.trans q) r
theorem excS.toW {e : Exc} (k : excS mg W kp B H σ U e ρ') : excW mg W B H σ U e ρ' := fun B' H' U' cls dx st t r => k σ B' H' U' cls dx ⟨st, t, fun _ _ => rfl⟩ r
/-- an outcome's wish, seen from a later state -/
theorem tS_back {m : MS} {D : Ends} (p : PostS mg kp B H σ U σ1 ρ1 B1 H1 U1)
    (k : match m ρ1 with
      | .nx ρ' => ∀ σ' B' H' U', PostS mg kp B H σ U σ' ρ' B' H' U' → D.nx σ' H'
      | .bk ρ' => ∀ σ' B' H' U', PostS mg kp B H σ U σ' ρ' B' H' U' → D.bk σ' H'
      | .ct ρ' => ∀ σ' B' H' U', PostS mg kp B H σ U σ' ρ' B' H' U' → D.ct σ' H'
      | .rt d ρ' => ∀ v σ' B' H' U' F, PostR mg kp B H σ U v d σ' ρ' B' H' U' F → D.rt v H'
      | .exc e ρ' => excS mg W kp B H σ U e ρ'
      | .stuck => False) : tS mg W kp m D σ1 H1 := by
  refine ⟨B1, ρ1, U1, p.st, ?_⟩
  cases hm : m ρ1 with
  | nx ρ' => rw [hm] at k; exact fun σ' B' H' U' q => k σ' B' H' U' (p.trans q)
  | bk ρ' => rw [hm] at k; exact fun σ' B' H' U' q => k σ' B' H' U' (p.trans q)
  | ct ρ' => rw [hm] at k; exact fun σ' B' H' U' q => k σ' B' H' U' (p.trans q)
  | rt d ρ' => rw [hm] at k; exact fun v σ' B' H' U' F q => k v σ' B' H' U' F (p.transR q)
  | exc e ρ' => rw [hm] at k; exact k.back p
  | stuck => rw [hm] at k; exact k
end

def sSeq (m n : MS) : MS := fun ρ => match m ρ with
  | .nx ρ1 => n ρ1
  | x => x
def sNext : MS := fun ρ => .nx ρ
def ofRes {α : Type} (x : Res α) (f : α → Rho → Out) : Out := match x with
  | .ok a ρ => f a ρ
  | .exc e ρ => .exc e ρ
  | .stuck => .stuck
def sSet (i : Nat) (m : M D) : MS := fun ρ => ofRes (m ρ) fun d ρ1 => .nx (ρ1.set i (some d))
def sEx (m : M D) : MS := fun ρ => ofRes (m ρ) fun _ ρ1 => .nx ρ1
def sRet (m : M D) : MS := fun ρ => ofRes (m ρ) fun d ρ1 => .rt d ρ1
def sRetN : MS := fun ρ => .rt .non ρ
def sIf (c : M Bool) (m n : MS) : MS := fun ρ => ofRes (c ρ) fun b ρ1 => if b then m ρ1 else n ρ1
def sFrz (i : Nat) (m : MS) : MS := fun ρ => match ρ[i]? with
  | some (some d) => m (ρ.set i (some d.freeze))
  | _ => m ρ
def sBrk : MS := fun ρ => .bk ρ
def sCnt : MS := fun ρ => .ct ρ

section
variable {X : Cx} {W : WX} {kp : List Nat} {alt sep a1 a2 a3 s1 s2 s3 : Bool} {e ea eb ec : Expr} {es : List Expr} {m ma mb mc : M D} {ms : M (List D)} {m1 m2 : MS} {c : M Bool} {pos : Pos} {st : Stmt} {rest : List Stmt}
theorem s_nil : PDSs X W kp [] sNext := PSs.weak pss_nil fun D σ H ⟨B, ρ, U, st, k⟩ => k σ B H U (PostS.refl st)
theorem s_one (h : PDS X W kp st m1) : PDSs X W kp [st] m1 := pss_one h
theorem s_cons (h : PDS X W kp st m1) (t : PDSs X W kp rest m2) : PDSs X W kp (st :: rest) (sSeq m1 m2) := PSs.weak (pss_cons h t) fun D σ H ⟨B, ρ, U, st, k⟩ => by
  refine ⟨B, ρ, U, st, ?_⟩
  unfold sSeq at k
  cases hm : m1 ρ with
  | nx ρ1 => rw [hm] at k; exact fun σ1 B1 H1 U1 p => tS_back p k
  | bk ρ' => rw [hm] at k; exact k
  | ct ρ' => rw [hm] at k; exact k
  | rt d ρ' => rw [hm] at k; exact k
  | exc e ρ' => rw [hm] at k; exact k
  | stuck => rw [hm] at k; exact k
theorem s_pass : PDS X W kp (.Pass pos) sNext := PS.weak ps_pass fun D σ H ⟨B, ρ, U, st, k⟩ => k σ B H U (PostS.refl st)
theorem s_brk : PDS X W kp (.Break pos) sBrk := PS.weak ps_break fun D σ H ⟨B, ρ, U, st, k⟩ => k σ B H U (PostS.refl st)
theorem s_cnt : PDS X W kp (.Continue pos) sCnt := PS.weak ps_continue fun D σ H ⟨B, ρ, U, st, k⟩ => k σ B H U (PostS.refl st)
theorem s_expr (h : PD X W alt sep e m) (hs : swapsWith e none pos.line X.env = pure false := by rfl) : PDS X W kp (.Expr e pos) (sEx m) := PS.weak (ps_expr h hs) fun D σ H ⟨B, ρ, U, st, k⟩ => by
  refine ⟨B, ρ, U, st, ?_⟩
  dsimp only [sEx] at k
  cases hm : m ρ with
  | ok d ρ1 => rw [hm] at k; exact fun v B1 H1 U1 F p => k σ B1 H1 U1 p.toS
  | exc x ρ1 => rw [hm] at k; exact excS.toW k
  | stuck => rw [hm] at k; exact k
theorem s_ret (h : PD X W alt true e m) : PDS X W kp (.Return (some e) pos) (sRet m) := PS.weak (ps_ret h) fun D σ H ⟨B, ρ, U, st, k⟩ => by
  refine ⟨B, ρ, U, st, ?_⟩
  dsimp only [sRet] at k
  cases hm : m ρ with
  | ok d ρ1 =>
    rw [hm] at k
    exact fun v B1 H1 U1 F p => k v σ B1 H1 U1 F ⟨p.st, p.own, (p.sep rfl).1, (p.sep rfl).2, p.step, fun _ _ => rfl⟩
  | exc x ρ1 => rw [hm] at k; exact excS.toW k
  | stuck => rw [hm] at k; exact k
theorem s_retN : PDS X W kp (.Return none pos) sRetN := PS.weak ps_retN fun D σ H ⟨B, ρ, U, st, k⟩ =>
  k .non σ B H U [] ⟨st, .atom trivial, Sep.nil, fun _ h => absurd h (by simp), Step.refl st.sub, fun _ _ => rfl⟩
theorem s_if {a b : List Stmt} (h : PDT X W alt ec c) (ha : PDSs X W kp a m1) (hb : PDSs X W kp b m2) : PDS X W kp (.If ec a b pos) (sIf c m1 m2) := PS.weak (ps_if h ha hb) fun D σ H ⟨B, ρ, U, st, k⟩ => by
  refine ⟨B, ρ, U, st, ?_⟩
  dsimp only [sIf] at k
  cases hm : c ρ with
  | ok b ρ1 =>
    rw [hm] at k
    intro B1 H1 U1 p
    dsimp only [ofRes] at k
    cases b with
    | true =>
      simp only [if_true] at k ⊢
      exact tS_back p.toS k
    | false =>
      simp only [Bool.false_eq_true, if_false] at k ⊢
      exact tS_back p.toS k
  | exc x ρ1 => rw [hm] at k; exact excS.toW k
  | stuck => rw [hm] at k; exact k
/-- a slot gets a datum -/
theorem put_slot {mg : Ev} {B H B1 H1 : Hp} {σ : L2.St} {ρ ρ1 : Rho} {U U1 F : List Addr} {v : V} {d : D} {i : Nat} (p : Post mg alt true B H σ ρ U ρ1 (oV mg v d) B1 H1 U1 F) (hk : i ∉ kp) :
    ∃ U2, PostS mg kp B H σ U (σ.set i (some v)) (ρ1.set i (some d)) B1 H1 U2 := by
  obtain ⟨k, n⟩ := p.sep rfl
  have hkp : ∀ j ∈ kp, (σ.set i (some v))[j]? = σ[j]? := fun j hj => List.getElem?_set_ne fun e => hk (by rw [e]; exact hj)
  by_cases hi : i < ρ1.length
  · obtain ⟨U', st, sub⟩ := p.st.put hi p.own k
    refine ⟨F ++ U', st, p.step.weak (fun _ h => h) (fun a h => ?_), hkp⟩
    rcases List.mem_append.mp h with h | h
    · rcases n a h with z | z
      · exact .inr (.inl z)
      · exact .inr (.inr z)
    · exact .inl (sub a h)
  · rw [List.set_eq_of_length_le (by rw [p.st.len]; omega), List.set_eq_of_length_le (by omega)]
    exact ⟨U1, p.st, p.step, fun _ _ => rfl⟩
theorem s_set {i : Nat} {x : Str} {pos' : Pos} (hs : PS X (.Assign [.Name x pos'] e pos) (tAsg (tE X.ev W alt true m) (gName i))) (hk : i ∉ kp := by decide) : PDS X W kp (.Assign [.Name x pos'] e pos) (sSet i m) := PS.weak hs fun D σ H ⟨B, ρ, U, st, k⟩ => by
  refine ⟨B, ρ, U, st, ?_⟩
  dsimp only [sSet] at k
  cases hm : m ρ with
  | ok d ρ1 =>
    rw [hm] at k
    intro v B1 H1 U1 F p
    obtain ⟨U2, q⟩ := put_slot p hk
    exact k _ B1 H1 U2 q
  | exc x ρ1 => rw [hm] at k; exact excS.toW k
  | stuck => rw [hm] at k; exact k
theorem s_frz {i : Nat} {sts : List Stmt} (h : PDSs X W kp sts m1) : PDSs X W kp sts (sFrz i m1) := PSs.weak (pss_lk h) fun D σ H ⟨B, ρ, U, st, k⟩ => by
  unfold sFrz at k
  cases hr : ρ[i]? with
  | none => rw [hr] at k; exact ⟨[], List.nodup_nil, by simp, fun od => by rw [lk_nil]; exact ⟨B, ρ, U, st, k⟩⟩
  | some o =>
    cases o with
    | none => rw [hr] at k; exact ⟨[], List.nodup_nil, by simp, fun od => by rw [lk_nil]; exact ⟨B, ρ, U, st, k⟩⟩
    | some d =>
      rw [hr] at k
      obtain ⟨v, F, U', e, o, sp, st', mem⟩ := st.take hr
      obtain ⟨l, n, mm, ff⟩ := freeze_sep st.sub o sp
      refine ⟨l, n, mm, fun od => ?_⟩
      obtain ⟨B', t, o', _⟩ := ff od
      have st2 := st'.step t fun a x y => sp.dj a y x
      have hlt : i < ρ.length := (List.getElem?_eq_some_iff.mp hr).1
      obtain ⟨U'', st3, sub⟩ := st2.put (i := i) (by simpa using hlt) o' Sep.nil
      rw [set_self e, List.set_set] at st3
      refine tS_back (mg := X.ev) (kp := kp) (W := W) (B := B) (H := H) (σ := σ) (U := U) ⟨st3, ?_, fun _ _ => rfl⟩ k
      refine t.weak (fun a x => (mem a).mpr (.inl x)) fun a x => .inr (.inl ((mem a).mpr (.inr (sub a (by simpa using x)))))
end
end Eng
/-! Eng9: defs: their promises, their calls. -/
namespace Eng
open PySem PySem.Spec PyProof.Rows L2

inductive Fo where
  | ok (d : D) (ps : List (Option D))
  | exc (e : Exc) (ps : List (Option D))
  | stuck
/-- what the slots of the parameters hold at the end, of those that are never stored anew -/
def pick (kp : List Nat) : Nat → Nat → Rho → List (Option D)
  | _, 0, _ => []
  | i, n + 1, [] => none :: pick kp (i + 1) n []
  | i, n + 1, o :: ρ => (if i ∈ kp then o else none) :: pick kp (i + 1) n ρ
def runF (kp : List Nat) (np nl : Nat) (m : MS) : List D → Fo := fun ds => if ds.length = np then match m (ds.map some ++ List.replicate nl none) with
    | .nx ρ => .ok .non (pick kp 0 np ρ)
    | .rt d ρ => .ok d (pick kp 0 np ρ)
    | .exc e ρ => .exc e (pick kp 0 np ρ)
    | _ => .stuck
  else .stuck
def spD (mg : Ev) (np : Nat) (f : List D → Fo) : Sp := fun vs H Q E => vs.length = np ∧ ∃ B ds U, Sta mg B H (vs.map some) (ds.map some) U ∧ match f ds with
  | .ok d ps => ∀ v B' H' U' F, Sta mg B' H' (vs.map some) ps U' → Own mg B' H' v d F → Sep B' F U' → (∀ a ∈ F, a ∈ U ∨ H a = none) → Step B H U B' H' U' → Q v H'
  | .exc e ps => ∀ B' H' U' cls dx, Sta mg B' H' (vs.map some) ps U' → Step B H U B' H' U' → ExcR mg B' H' e cls dx → E cls dx H'
  | .stuck => False

section
variable {mg : Ev} {kp : List Nat} {B B1 B2 B' H H1 H2 H' : Hp} {σ σ1 σ2 σ' : L2.St} {ρ ρ1 ρ2 ρ' : Rho} {U U1 U2 U' F F1 F2 : List Addr} {vs : List V} {ds : List D}
theorem pick_len : ∀ (i n : Nat) (ρ : Rho), (pick kp i n ρ).length = n
  | _, 0, _ => rfl
  | i, n + 1, [] => by simp [pick, pick_len (i + 1) n]
  | i, n + 1, o :: ρ => by simp [pick, pick_len (i + 1) n]
theorem pick_get : ∀ (i n j : Nat) (ρ : Rho) (d : D), (pick kp i n ρ)[j]? = some (some d) → ρ[j]? = some (some d) ∧ (i + j) ∈ kp
  | _, 0, _, _, _, h => by simp [pick] at h
  | i, n + 1, 0, [], d, h => by simp [pick] at h
  | i, n + 1, j + 1, [], d, h => by
    simp only [pick, List.getElem?_cons_succ] at h
    have := pick_get (i + 1) n j [] d h
    simp at this
  | i, n + 1, 0, o :: ρ, d, h => by
    simp only [pick, List.getElem?_cons_zero, Option.some.injEq] at h
    split at h
    · rename_i hi
      exact ⟨by simpa using h, by simpa using hi⟩
    · cases h
  | i, n + 1, j + 1, o :: ρ, d, h => by
    simp only [pick, List.getElem?_cons_succ] at h
    obtain ⟨a, b⟩ := pick_get (i + 1) n j ρ d h
    exact ⟨by simpa using a, by rw [show i + (j + 1) = i + 1 + j by omega]; exact b⟩
theorem flatten_take {α : Type} (n : Nat) : ∀ (Fs : List (List α)), (Fs.take n).flatten.Sublist Fs.flatten := fun Fs => by
  conv => rhs; rw [← List.take_append_drop n Fs, List.flatten_append]
  exact List.sublist_append_left _ _
/-- fewer slots, the same values -/
theorem Sta.fewer (s : Sta mg B H σ ρ U) (hl : σ2.length = ρ2.length) (hn : ρ2.length ≤ ρ.length) (h : ∀ (i : Nat) (d : D), ρ2[i]? = some (some d) → ρ[i]? = some (some d) ∧ σ2[i]? = σ[i]?) : ∃ U2, Sta mg B H σ2 ρ2 U2 ∧ ∀ a ∈ U2, a ∈ U := by
  obtain ⟨l, Fs, lf, pu, k⟩ := s.sl
  have sub := flatten_take ρ2.length Fs
  have m : ∀ a ∈ (Fs.take ρ2.length).flatten, a ∈ U := fun a x => pu.mem_iff.mpr (sub.subset x)
  refine ⟨(Fs.take ρ2.length).flatten, ⟨s.sub, ⟨hl, Fs.take ρ2.length, by rw [List.length_take]; omega, List.Perm.refl _, fun i d hi => ?_⟩, (pu.nodup_iff.mp s.nd).sublist sub, fun a x => s.off a (m a x), fun a x => s.ex a (m a x)⟩, m⟩
  obtain ⟨h1, h2⟩ := h i d hi
  obtain ⟨v, F, a, b, c⟩ := k i d h1
  exact ⟨v, F, h2.trans a, by rw [List.getElem?_take_of_lt (List.getElem?_eq_some_iff.mp hi).1]; exact b, c⟩
theorem Step.less (s : Step B H U B' H' U') (h : ∀ a ∈ U2, a ∈ U') : Step B H U B' H' U2 := s.weak (fun _ h => h) fun a x => .inl (h a x)
theorem start_eq (N : List Str) (vs : List V) : start N vs = vs.map some ++ List.replicate (N.length - vs.length) none := rfl
/-- more slots, empty -/
theorem Sta.grow (s : Sta mg B H σ ρ U) (n : Nat) : Sta mg B H (σ ++ List.replicate n none) (ρ ++ List.replicate n none) U := by
  obtain ⟨l, Fs, lf, pu, k⟩ := s.sl
  refine ⟨s.sub, ⟨by simp [l], Fs ++ List.replicate n [], by simp [lf], ?_, fun i d h => ?_⟩, s.nd, s.off, s.ex⟩
  · rw [List.flatten_append]
    have : (List.replicate n ([] : List Addr)).flatten = [] := by
      induction n with
      | zero => rfl
      | succ n ih => rw [List.replicate_succ, List.flatten_cons, ih]; rfl
    rw [this, List.append_nil]; exact pu
  · by_cases hi : i < ρ.length
    · rw [List.getElem?_append_left hi] at h
      obtain ⟨v, F, a, b, c⟩ := k i d h
      exact ⟨v, F, by rw [List.getElem?_append_left (by omega)]; exact a, by rw [List.getElem?_append_left (by omega)]; exact b, c⟩
    · rw [List.getElem?_append_right (by omega), List.getElem?_replicate] at h
      split at h <;> simp at h
end

theorem ev_eq {X : Cx} (h : X.A.handled = none) : X.ev = ⟨X.mg, X.K, none⟩ := by
  unfold Cx.ev; rw [h]; cases X.calm <;> rfl
/-- a def keeps its promise if its body does -/
theorem def_ok {P : Program} {w : World} {K : PySem.W.Frag} {mg : Str → Option Value} {base : Heap} {x qual : Str} {st : Stmt} {f : Addr} {fd : FuncData} {N ps : List Str} {k np nl : Nat} {kp : List Nat} {m : MS}
    (F : Fun K x qual st f fd) (S : FnScope N ps (defScope st)) (hp : ps.length = np) (hN : N.length = np + nl)
    (hbody : ∀ (cdv : Value) (A : Around) (outer : List Env) (s : Shared) (H : Hp) (E : XK), Room k (A.deeper (envOfC qual (defScope st) s.heap.objs.size f cdv)) →
      PDSs (cxOf (L2.CX P w) P w K mg base N qual (defScope st) f cdv A outer s H E) (fun cls d _ H => E cls d H) kp (defBody st) m) : FnOk P w K mg base (L2.CX P w) (k + 1) f fd ps (spD ⟨mg, K, none⟩ np (runF kp np nl m)) := by
  refine F.okX S (fun vs H Q E h => by rw [hp]; exact h.1) fun cdv A outer s H vs Q E hr h => ?_
  refine ⟨_, hbody cdv A outer s H E hr, ?_⟩
  rw [ev_eq (X := cxOf (L2.CX P w) P w K mg base N qual (defScope st) f cdv A outer s H E) hr.hd]
  show tS ⟨mg, K, none⟩ _ kp m _ _ _
  obtain ⟨hl, B, ds, U, st, h⟩ := h
  have hlen : ds.length = np := by have := st.len; simp at this; omega
  have e1 : start N vs = vs.map some ++ List.replicate nl none := by rw [start_eq, hN, hl]; congr 2; omega
  rw [e1]
  refine ⟨B, ds.map some ++ List.replicate nl none, U, st.grow nl, ?_⟩
  unfold runF at h
  rw [if_pos hlen] at h
  have back : ∀ {σ' : L2.St} {ρ' : Rho} {B' H' : Hp} {U' : List Addr}, PostS ⟨mg, K, none⟩ kp B H (vs.map some ++ List.replicate nl none) U σ' ρ' B' H' U' → ∃ U2, Sta ⟨mg, K, none⟩ B' H' (vs.map some) (pick kp 0 np ρ') U2 ∧ ∀ a ∈ U2, a ∈ U' := fun {σ' ρ' B' H' U'} p => by
    refine (p.st.grow np).fewer (by rw [pick_len]; simp [hl]) (by rw [pick_len]; simp) fun i d hi => ?_
    obtain ⟨a, b⟩ := pick_get 0 np i ρ' d hi
    have hi' : i < np := by have := (List.getElem?_eq_some_iff.mp hi).1; rw [pick_len] at this; exact this
    have hr : i < ρ'.length := (List.getElem?_eq_some_iff.mp a).1
    refine ⟨by rw [List.getElem?_append_left hr]; exact a, ?_⟩
    rw [List.getElem?_append_left (by rw [p.st.len]; exact hr), p.kp i (by simpa using b), List.getElem?_append_left (by simp [hl]; exact hi')]
  dsimp only [] at h ⊢
  cases hm : m (ds.map some ++ List.replicate nl none) with
  | nx ρ' =>
    rw [hm] at h
    intro σ' B' H' U' p
    obtain ⟨U2, s2, sub⟩ := back p
    exact h .non B' H' U2 [] s2 (.atom trivial) Sep.nil (fun _ h => absurd h (by simp)) (p.step.less sub)
  | rt d ρ' =>
    rw [hm] at h
    intro v σ' B' H' U' F p
    obtain ⟨U2, s2, sub⟩ := back ⟨p.st, p.step, p.kp⟩
    exact h v B' H' U2 F s2 p.own (p.sep.mono sub) p.new (p.step.less sub)
  | bk ρ' => rw [hm] at h; exact h.elim
  | ct ρ' => rw [hm] at h; exact h.elim
  | exc e ρ' =>
    rw [hm] at h
    intro σ' B' H' U' cls dx p r
    obtain ⟨U2, s2, sub⟩ := back p
    exact h B' H' U2 cls dx s2 (p.step.less sub) r
  | stuck => rw [hm] at h; exact h.elim
end Eng
/-! Eng10: calls: arguments given or lent. -/
namespace Eng
open PySem PySem.Spec PyProof.Rows L2

inductive ArgV where
  | val (d : D)
  | lend (i : Nat)
def aNil : M (List ArgV) := mPure []
def aVal (m : M D) (ms : M (List ArgV)) : M (List ArgV) := mBind m fun d => mBind ms fun as => mPure (.val d :: as)
def aLend (i : Nat) (ms : M (List ArgV)) : M (List ArgV) := fun ρ => match ρ[i]? with
  | some (some _) => mBind ms (fun as => mPure (.lend i :: as)) ρ
  | _ => .stuck
def takeAll : List ArgV → Rho → Option (List D × Rho)
  | [], ρ => some ([], ρ)
  | .val d :: as, ρ => match takeAll as ρ with
    | some (ds, ρ') => some (d :: ds, ρ')
    | none => none
  | .lend i :: as, ρ => match ρ[i]? with
    | some (some d) => if d.frz then (match takeAll as ρ with
        | some (ds, ρ') => some (d :: ds, ρ')
        | none => none)
      else (match takeAll as (ρ.set i none) with
        | some (ds, ρ') => some (d :: ds, ρ')
        | none => none)
    | _ => none
def putBack : List ArgV → List D → List (Option D) → Rho → Rho
  | .val _ :: as, _ :: ds, _ :: ps, ρ => putBack as ds ps ρ
  | .lend i :: as, d :: ds, p :: ps, ρ => if d.frz then putBack as ds ps ρ else putBack as ds ps (ρ.set i p)
  | _, _, _, ρ => ρ
def eCall (f : List D → Fo) (ms : M (List ArgV)) : M D := mBind ms fun as ρ => match takeAll as ρ with
  | some (ds, ρ1) => match f ds with
    | .ok d ps => .ok d (putBack as ds ps ρ1)
    | .exc e ps => .exc e (putBack as ds ps ρ1)
    | .stuck => .stuck
  | none => .stuck

section
variable {mg : Ev} {kp : List Nat} {alt sep a1 s1 a2 : Bool} {B B1 B2 B' H H1 H2 H' : Hp} {σ σ1 σ2 σ' : L2.St} {ρ ρ1 ρ2 ρ' : Rho} {U U1 U2 U' F F1 F2 : List Addr} {v : V} {d : D} {vs : List V} {ds : List D} {as : List ArgV}

inductive ArgsR (mg : Ev) (B H : Hp) (σ : L2.St) : List V → List ArgV → List Addr → Prop where
  | nil : ArgsR mg B H σ [] [] []
  | val {v d F vs as G} : Own mg B H v d F → ArgsR mg B H σ vs as G → ArgsR mg B H σ (v :: vs) (.val d :: as) (F ++ G)
  | lend {v i vs as G} : σ[i]? = some (some v) → ArgsR mg B H σ vs as G → ArgsR mg B H σ (v :: vs) (.lend i :: as) G
theorem ArgsR.step : ∀ {vs as F}, ArgsR mg B H σ vs as F → Step B H U B' H' U' → (∀ a ∈ F, a ∉ U) → ArgsR mg B' H' σ vs as F
  | _, _, _, .nil, _, _ => .nil
  | _, _, _, .val h t, s, n => .val (h.step s fun a x => n a (by simp [x])) (ArgsR.step t s fun a x => n a (by simp [x]))
  | _, _, _, .lend h t, s, n => .lend h (ArgsR.step t s n)
theorem ArgsR.there : ∀ {vs as F}, ArgsR mg B H σ vs as F → ∀ a ∈ F, H a ≠ none
  | _, _, _, .nil, a, x => absurd x (by simp)
  | _, _, _, .val h t, a, x => by
    rcases List.mem_append.mp x with x | x
    · exact h.there a x
    · exact ArgsR.there t a x
  | _, _, _, .lend _ t, a, x => ArgsR.there t a x
def oA (mg : Ev) (σ : L2.St) (vs : List V) (as : List ArgV) : Rel mg := ⟨fun B H F => ArgsR mg B H σ vs as F, fun h s n => h.step s n, fun h => h.there⟩

def tAr (mg : Ev) (W : WX) (alt : Bool) (m : M (List ArgV)) : TA := fun σ H Q => ∃ B ρ U, Sta mg B H σ ρ U ∧ match m ρ with
  | .ok as ρ' => ∀ vs B' H' U' F, Post mg alt true B H σ ρ U ρ' (oA mg σ vs as) B' H' U' F → Q vs H'
  | .exc e ρ' => excW mg W B H σ U e ρ'
  | .stuck => False
def PDA (X : Cx) (W : WX) (alt : Bool) (es : List Expr) (m : M (List ArgV)) : Prop := PA X es (tAr X.ev W alt m)

/-- slots: one more at the front -/
theorem Sta.push (s : Sta mg B H σ ρ U) (o : Own mg B H v d F) (k : Sep B F U) : Sta mg B H (some v :: σ) (some d :: ρ) (F ++ U) := by
  obtain ⟨l, Fs, lf, pu, kk⟩ := s.sl
  refine ⟨s.sub, ⟨by simp [l], F :: Fs, by simp [lf], by rw [List.flatten_cons]; exact pu.append_left F, fun i d' h => ?_⟩, List.nodup_append.mpr ⟨k.nd, s.nd, fun a x b y e => k.dj a x (by rw [e]; exact y)⟩, fun a x => ?_, fun a x => ?_⟩
  · cases i with
    | zero => simp at h; subst h; exact ⟨v, F, rfl, rfl, o⟩
    | succ i => simp at h; obtain ⟨w, G, a, b, c⟩ := kk i d' h; exact ⟨w, G, by simpa using a, by simpa using b, c⟩
  · rcases List.mem_append.mp x with x | x
    · exact k.off a x
    · exact s.off a x
  · rcases List.mem_append.mp x with x | x
    · exact o.there a x
    · exact s.ex a x
theorem Sta.nil (h : ∀ a o, B a = some o → H a = some o) : Sta mg B H [] [] [] := ⟨h, ⟨rfl, [], rfl, List.Perm.refl _, fun i d e => by simp at e⟩, List.nodup_nil, fun _ h => absurd h (by simp), fun _ h => absurd h (by simp)⟩
theorem Sta.pop {x : Option V} {o : Option D} (s : Sta mg B H (x :: σ) (o :: ρ) U) : ∃ F U', Sta mg B H σ ρ U' ∧ Sep B F U' ∧ (∀ a, a ∈ U ↔ a ∈ F ∨ a ∈ U') ∧ ∀ d, o = some d → ∃ v, x = some v ∧ Own mg B H v d F := by
  obtain ⟨l, Fs, lf, pu, kk⟩ := s.sl
  cases Fs with
  | nil => simp at lf
  | cons F Fs =>
    rw [List.flatten_cons] at pu
    have nd := List.nodup_append.mp (pu.nodup_iff.mp s.nd)
    have m : ∀ a, a ∈ U ↔ a ∈ F ∨ a ∈ Fs.flatten := fun a => by rw [pu.mem_iff, List.mem_append]
    refine ⟨F, Fs.flatten, ⟨s.sub, ⟨by simpa using l, Fs, by simpa using lf, List.Perm.refl _, fun i d h => ?_⟩, nd.2.1, fun a x => s.off a ((m a).mpr (.inr x)), fun a x => s.ex a ((m a).mpr (.inr x))⟩,
      ⟨nd.1, fun a x y => nd.2.2 a x a y rfl, fun a x => s.off a ((m a).mpr (.inl x))⟩, m, fun d e => ?_⟩
    · obtain ⟨w, G, a, b, c⟩ := kk (i + 1) d (by simpa using h)
      exact ⟨w, G, by simpa using a, by simpa using b, c⟩
    · subst e
      obtain ⟨w, G, a, b, c⟩ := kk 0 d rfl
      simp at a b
      subst b
      exact ⟨w, a, c⟩
/-- the arguments are taken together -/
theorem take_all : ∀ {as vs F} {ρ ρ2 : Rho} {U ds}, ArgsR mg B H σ vs as F → Sta mg B H σ ρ U → Sep B F U → takeAll as ρ = some (ds, ρ2) →
    ∃ Ua U2, Sta mg B H (vs.map some) (ds.map some) Ua ∧ Sta mg B H σ ρ2 U2 ∧ (∀ a ∈ Ua, a ∉ U2) ∧ (∀ a ∈ Ua, a ∈ U ∨ a ∈ F) ∧ (∀ a ∈ U2, a ∈ U)
  | _, _, _, ρ, ρ2, U, ds, .nil, s, _, e => by
    simp [takeAll] at e
    obtain ⟨rfl, rfl⟩ := e
    exact ⟨[], U, Sta.nil s.sub, s, fun _ h => absurd h (by simp), fun _ h => absurd h (by simp), fun _ h => h⟩
  | _, _, _, ρ, ρ2, U, ds, .val (F := F1) (G := G) o t, s, k, e => by
    simp only [takeAll] at e
    split at e <;> cases e
    rename_i ds' _ e'
    have ndk := List.nodup_append.mp k.nd
    have k2 : Sep B G U := ⟨ndk.2.1, fun a x => k.dj a (by simp [x]), fun a x => k.off a (by simp [x])⟩
    obtain ⟨Ua, U2, sa, s2, dj, m1, m2⟩ := take_all t s k2 e'
    have k1 : Sep B F1 Ua := ⟨ndk.1, fun a x y => by
      rcases m1 a y with z | z
      · exact k.dj a (by simp [x]) z
      · exact ndk.2.2 a x a z rfl, fun a x => k.off a (by simp [x])⟩
    refine ⟨F1 ++ Ua, U2, sa.push o k1, s2, fun a x y => ?_, fun a x => ?_, m2⟩
    · rcases List.mem_append.mp x with x | x
      · exact k.dj a (by simp [x]) (m2 a y)
      · exact dj a x y
    · rcases List.mem_append.mp x with x | x
      · exact .inr (by simp [x])
      · rcases m1 a x with z | z
        · exact .inl z
        · exact .inr (by simp [z])
  | _, _, _, ρ, ρ2, U, ds, .lend (i := i) hv t, s, k, e => by
    simp only [takeAll] at e
    split at e
    · rename_i d hd
      obtain ⟨v', F1, U', e1, o, sp, st', mem⟩ := s.take hd
      rw [hv] at e1; cases e1
      split at e
      · rename_i hf
        split at e <;> cases e
        rename_i ds' _ e'
        obtain ⟨Ua, U2, sa, s2, dj, m1, m2⟩ := take_all t s k e'
        obtain rfl := o.nil_of hf
        exact ⟨Ua, U2, by simpa using sa.push o Sep.nil, s2, dj, m1, m2⟩
      · split at e <;> cases e
        rename_i ds' _ e'
        obtain ⟨Ua, U2, sa, s2, dj, m1, m2⟩ := take_all t st' (k.mono fun a x => (mem a).mpr (.inr x)) e'
        have k1 : Sep B F1 Ua := ⟨sp.nd, fun a x y => by
          rcases m1 a y with z | z
          · exact sp.dj a x z
          · exact k.dj a z ((mem a).mpr (.inl x)), sp.off⟩
        refine ⟨F1 ++ Ua, U2, sa.push o k1, s2, fun a x y => ?_, fun a x => ?_, fun a x => (mem a).mpr (.inr (m2 a x))⟩
        · rcases List.mem_append.mp x with x | x
          · exact sp.dj a x (m2 a y)
          · exact dj a x y
        · rcases List.mem_append.mp x with x | x
          · exact .inl ((mem a).mpr (.inl x))
          · rcases m1 a x with z | z
            · exact .inl ((mem a).mpr (.inr z))
            · exact .inr z
    · cases e
/-- and given back -/
theorem put_back : ∀ {as vs ds ps} {ρ : Rho} {Ua U2 F}, ArgsR mg B H σ vs as F → Sta mg B' H' (vs.map some) ps Ua → Sta mg B' H' σ ρ U2 → (∀ a ∈ Ua, a ∉ U2) → ds.length = as.length →
    ∃ U3, Sta mg B' H' σ (putBack as ds ps ρ) U3 ∧ (∀ a ∈ U3, a ∈ Ua ∨ a ∈ U2)
  | _, _, _, _, ρ, Ua, U2, _, .nil, sa, s2, dj, hl => ⟨U2, by unfold putBack; exact s2, fun _ h => .inr h⟩
  | _, _, [], _, ρ, Ua, U2, _, .val _ _, sa, s2, dj, hl => by simp at hl
  | _, _, [], _, ρ, Ua, U2, _, .lend _ _, sa, s2, dj, hl => by simp at hl
  | _, _, _, [], ρ, Ua, U2, _, .val _ _, sa, s2, dj, hl => by have := sa.len; simp at this
  | _, _, _, [], ρ, Ua, U2, _, .lend _ _, sa, s2, dj, hl => by have := sa.len; simp at this
  | _, _, d :: ds, p :: ps, ρ, Ua, U2, _, .val o t, sa, s2, dj, hl => by
    obtain ⟨F1, U', s', sp, mem, _⟩ := sa.pop
    obtain ⟨U3, s3, m3⟩ := put_back (ds := ds) t s' s2 (fun a x => dj a ((mem a).mpr (.inr x))) (by simpa using hl)
    refine ⟨U3, by unfold putBack; exact s3, fun a x => ?_⟩
    rcases m3 a x with z | z
    · exact .inl ((mem a).mpr (.inr z))
    · exact .inr z
  | _, _, d :: ds, p :: ps, ρ, Ua, U2, _, .lend (i := i) hv t, sa, s2, dj, hl => by
    obtain ⟨F1, U', s', sp, mem, ho⟩ := sa.pop
    unfold putBack
    by_cases hf : d.frz = true
    · rw [if_pos hf]
      obtain ⟨U3, s3, m3⟩ := put_back (ds := ds) t s' s2 (fun a x => dj a ((mem a).mpr (.inr x))) (by simpa using hl)
      refine ⟨U3, s3, fun a x => ?_⟩
      rcases m3 a x with z | z
      · exact .inl ((mem a).mpr (.inr z))
      · exact .inr z
    · rw [if_neg hf]
      have key : ∃ U4, Sta mg B' H' σ (ρ.set i p) U4 ∧ (∀ a ∈ U4, a ∈ F1 ∨ a ∈ U2) := by
        cases p with
        | none => exact ⟨U2, s2.drop, fun _ h => .inr h⟩
        | some d' =>
          obtain ⟨w, ew, ow⟩ := ho d' rfl
          cases ew
          by_cases hi : i < ρ.length
          · obtain ⟨U'', st, sub⟩ := s2.put hi ow ⟨sp.nd, fun a x y => dj a ((mem a).mpr (.inl x)) y, sp.off⟩
            rw [set_self hv] at st
            refine ⟨F1 ++ U'', st, fun a x => ?_⟩
            rcases List.mem_append.mp x with x | x
            · exact .inl x
            · exact .inr (sub a x)
          · rw [List.set_eq_of_length_le (by omega)]
            exact ⟨U2, s2, fun _ h => .inr h⟩
      obtain ⟨U4, s4, m4⟩ := key
      obtain ⟨U3, s3, m3⟩ := put_back (ds := ds) t s' s4 (fun a x y => by
        rcases m4 a y with z | z
        · exact sp.dj a z x
        · exact dj a ((mem a).mpr (.inr x)) z) (by simpa using hl)
      refine ⟨U3, s3, fun a x => ?_⟩
      rcases m3 a x with z | z
      · exact .inl ((mem a).mpr (.inr z))
      · rcases m4 a z with y | y
        · exact .inl ((mem a).mpr (.inl y))
        · exact .inr y
theorem takeAll_len : ∀ {as : List ArgV} {ρ ρ2 : Rho} {ds}, takeAll as ρ = some (ds, ρ2) → ds.length = as.length
  | [], _, _, _, h => by simp [takeAll] at h; simp [h.1]
  | .val d :: as, _, _, _, h => by
    simp only [takeAll] at h
    split at h <;> cases h
    rename_i e
    simp [takeAll_len e]
  | .lend i :: as, _, _, _, h => by
    simp only [takeAll] at h
    split at h
    · split at h
      · split at h <;> cases h
        rename_i e
        simp [takeAll_len e]
      · split at h <;> cases h
        rename_i e
        simp [takeAll_len e]
    · cases h
end

section
variable {X : Cx} {W : WX} {alt sep a1 a2 s1 : Bool} {e : Expr} {es : List Expr} {m : M D} {ms : M (List ArgV)} {pos : Pos} {mg : Ev}
theorem a_nil : PDA X W false [] aNil := PA.weak pa_nil fun σ H Q ⟨B, ρ, U, st, k⟩ =>
  k [] B H U [] ⟨st, .nil, fun _ => ⟨Sep.nil, fun _ h => absurd h (by simp)⟩, Step.refl st.sub, fun _ => ⟨rfl, rfl, Step.refl st.sub⟩⟩
theorem a_val (h : PD X W a1 true e m) (t : PDA X W a2 es ms) (hs : starEach (e :: es) X.env = (false, eval e X.env) :: starEach es X.env := by rfl) : PDA X W (a1 || a2) (e :: es) (aVal m ms) :=
  PA.weak (pa_cons h t hs) fun σ H Q ⟨B, ρ, U, st, k⟩ => by
    refine ⟨B, ρ, U, st, ?_⟩
    dsimp only [aVal, mBind] at k
    cases hm : m ρ with
    | ok d ρ1 =>
      rw [hm] at k
      intro v B1 H1 U1 F1 p
      refine ⟨B1, ρ1, U1, p.st, ?_⟩
      dsimp only [Res.bind, mBind] at k
      cases hm2 : ms ρ1 with
      | ok d2 ρ2 =>
        rw [hm2] at k
        intro v2 B2 H2 U2 F2 q
        refine k _ B2 H2 U2 _ ((p.comb q (.inr rfl)).rel fun ⟨G1, G2, e, o1, o2⟩ => ?_)
        rw [e]
        exact .val o1 o2
      | exc x ρ2 => rw [hm2] at k; exact k.back p.step
      | stuck => rw [hm2] at k; exact k
    | exc x ρ1 => rw [hm] at k; exact k
    | stuck => rw [hm] at k; exact k
theorem a_lend (i : Nat) {x : Str} (t : PDA X W a2 es ms) (hN : X.N[i]? = some x := by rfl) (hv : Vis X.env.scope x := by first | exact Or.inl rfl | exact Or.inr (Or.inl rfl) | exact Or.inr (Or.inr rfl)) (hd : (x == ("__debug__" : Str)) = false := by decide)
    (hcd : (x == ("__classdict__" : Str)) = false := by decide) (hs : starEach (.Name x pos :: es) X.env = (false, eval (.Name x pos) X.env) :: starEach es X.env := by rfl) : PDA X W a2 (.Name x pos :: es) (aLend i ms) :=
  PA.weak (pa_cons (pe_var (i := i) hN hv hd hcd) t hs) fun σ H Q ⟨B, ρ, U, st, k⟩ => by
    dsimp only [aLend] at k
    cases hr : ρ[i]? with
    | none => rw [hr] at k; exact k.elim
    | some o =>
      cases o with
      | none => rw [hr] at k; exact k.elim
      | some d =>
        rw [hr] at k
        obtain ⟨_, Fs, _, _, kk⟩ := st.sl
        obtain ⟨v, F, e1, e2, o⟩ := kk i d hr
        refine ⟨v, e1, B, ρ, U, st, ?_⟩
        dsimp only [mBind] at k
        cases hm : ms ρ with
        | ok as ρ1 =>
          rw [hm] at k
          exact fun vs B1 H1 U1 F1 p => k _ B1 H1 U1 F1 (p.rel fun h => .lend e1 h)
        | exc x ρ1 => rw [hm] at k; exact k
        | stuck => rw [hm] at k; exact k
/-- f(..) -/
theorem call_core {f : List D → Fo} {np : Nat} {t : TE} (ht : ∀ σ H Q, (tCallS (spD X.ev np f) (WE W) (tAr X.ev W true ms)) σ H Q → t σ H Q) (hnp : ∀ ds : List D, ds.length ≠ np → f ds = .stuck) : ∀ σ H Q, tE X.ev W true true (eCall f ms) σ H Q → t σ H Q := fun σ H Q ⟨B, ρ, U, st, k⟩ => by
  refine ht σ H Q ⟨B, ρ, U, st, ?_⟩
  dsimp only [eCall, mBind] at k
  cases hm : ms ρ with
  | ok as ρ1 =>
    rw [hm] at k
    intro vs B1 H1 U1 F p
    dsimp only [Res.bind, mBind] at k
    cases ht : takeAll as ρ1 with
    | none => rw [ht] at k; exact k.elim
    | some q =>
      obtain ⟨ds, ρ2⟩ := q
      rw [ht] at k
      dsimp only at k
      obtain ⟨sp, nw⟩ := p.sep rfl
      obtain ⟨Ua, U2, sa, s2, dj, m1, m2⟩ := take_all p.own p.st sp ht
      have hl := takeAll_len ht
      by_cases hq : ds.length = np
      case neg => rw [hnp ds hq] at k; exact k.elim
      have hv : vs.length = np := by
        have := sa.len; simp at this
        rw [this]; exact hq
      have anew : ∀ a ∈ Ua, a ∈ U ∨ H a = none := fun a x => by
        rcases m1 a x with z | z
        · exact p.step.new a z
        · exact nw a z
      -- the callee's step, seen from the entry
      have big : ∀ {B' H' : Hp} {U'a U3 : List Addr}, Step B1 H1 Ua B' H' U'a → (∀ a ∈ U3, a ∈ U'a ∨ a ∈ U2) → Step B H U B' H' U3 := fun {B' H' U'a U3} sc m3 => by
        have s1 : Step B H U B1 H1 (Ua ++ U2) := p.step.weak (fun _ h => h) fun a x => by
          rcases List.mem_append.mp x with x | x
          · rcases anew a x with z | z
            · exact .inr (.inl z)
            · exact .inr (.inr z)
          · exact .inl (m2 a x)
        have s3 : Step B1 H1 (Ua ++ U2) B' H' U3 := sc.weak (fun a x => by simp [x]) fun a x => by
          rcases m3 a x with z | z
          · exact .inl z
          · exact .inr (.inl (by simp [z]))
        exact s1.trans s3
      have s2' : ∀ {B' H' : Hp} {U'a : List Addr}, Step B1 H1 Ua B' H' U'a → Sta X.ev B' H' σ ρ2 U2 := fun sc => s2.step sc fun a x y => dj a y x
      have dj' : ∀ {B' H' : Hp} {U'a : List Addr}, Step B1 H1 Ua B' H' U'a → ∀ a ∈ U'a, a ∉ U2 := fun sc a x y => by
        rcases sc.new a x with z | z
        · exact dj a z y
        · exact s2.ex a y z
      refine ⟨hv, B1, ds, Ua, sa, ?_⟩
      cases hf : f ds with
      | ok d ps =>
        rw [hf] at k
        intro v B' H' U'a Fv sv ov spv nwv sc
        obtain ⟨U3, s3, m3⟩ := put_back p.own sv (s2' sc) (dj' sc) hl
        have st3 := big sc m3
        refine k v B' H' U3 Fv ⟨s3, ov, fun _ => ⟨⟨spv.nd, fun a x y => ?_, spv.off⟩, fun a x => ?_⟩, st3, fun h => by cases h⟩
        · rcases m3 a y with z | z
          · exact spv.dj a x z
          · rcases nwv a x with w | w
            · exact dj a w z
            · exact s2.ex a z w
        · rcases nwv a x with w | w
          · exact anew a w
          · by_cases y : H a = none
            · exact .inr y
            · by_cases w' : a ∈ U
              · exact .inl w'
              · rw [p.step.keep a y w'] at w; exact absurd w y
      | exc e ps =>
        rw [hf] at k
        intro B' H' U'a cls dx sv sc er
        obtain ⟨U3, s3, m3⟩ := put_back p.own sv (s2' sc) (dj' sc) hl
        exact k B' H' U3 cls dx s3 (big sc m3) er
      | stuck => rw [hf] at k; exact k.elim
  | exc x ρ1 => rw [hm] at k; exact k
  | stuck => rw [hm] at k; exact k
theorem runF_len {kp : List Nat} {np nl : Nat} {m : MS} (ds : List D) (h : ds.length ≠ np) : runF kp np nl m ds = .stuck := if_neg h
/-- f(e, ..), f a def of the text -/
theorem d_call {k np : Nat} {f : Addr} {fd : FuncData} {ps : List Str} {x : Str} {p : Pos} {g : List D → Fo} {a : Bool} (F : FnOk X.prog X.w X.K X.mg X.base (L2.CX X.prog X.w) k f fd ps (spD ⟨X.mg, X.K, none⟩ np g)) (hnp : ∀ ds : List D, ds.length ≠ np → g ds = .stuck) (hr : Room k X.A) (hm : X.mg x = some (.ref f))
    (hk : PySem.W.keepIn X.K (.ref f) = true) (hb : Binds X.K fd ps []) (tk : Takes X W) (ha : PDA X W a (e :: es) ms) (hg : Gl X x := by rfl) (hdb : (x == ("__debug__" : Str)) = false := by decide)
    (he : starEach (e :: es) X.env = (false, eval e X.env) :: starEach es X.env := by rfl) (hpl : (backTo pos (starEach es X.env)).any (·.1) = false := by rfl) : PD X W true true (.Call (.Name x p) (e :: es) [] pos) (eCall g ms) :=
  PE.weak (pe_callS (by rw [ev_eq hr.hd]; exact F : FnOk X.prog X.w X.K X.mg X.base (L2.CX X.prog X.w) k f fd ps (spD X.ev np g)) hr hg hm hk hb (fun σ => passAt tk σ) ha hdb he hpl) (call_core (fun _ _ _ ⟨B, ρ, U, st, k⟩ => ⟨B, ρ, U, st, by
    cases hm : ms ρ with
    | ok as ρ' => rw [hm] at k; exact fun vs B' H' U' F q => k vs B' H' U' F (q.weak (fun h => by cases h) fun h => h)
    | exc e ρ' => rw [hm] at k; exact k
    | stuck => rw [hm] at k; exact k⟩) hnp)
end
end Eng
/-! Eng11: targets, what is walked, for. -/
namespace Eng
open PySem PySem.Spec PyProof.Rows L2

/-! ### targets -/
def tG (mg : Ev) (kp : List Nat) (f : D → Rho → Option Rho) : TG := fun v σ H Q => ∃ B ρ U d F, Sta mg B H σ ρ U ∧ Own mg B H v d F ∧ Sep B F U ∧ match f d ρ with
  | some ρ' => ∀ σ' U', Sta mg B H σ' ρ' U' → (∀ a ∈ U', a ∈ U ∨ a ∈ F) → (∀ i ∈ kp, σ'[i]? = σ[i]?) → σ'.length = σ.length → Q σ' H
  | none => False
def tGs (mg : Ev) (kp : List Nat) (f : List D → Rho → Option Rho) : List V → L2.St → Hp → (L2.St → Hp → Prop) → Prop := fun vs σ H Q => ∃ B ρ U ds F, Sta mg B H σ ρ U ∧ Owns mg B H vs ds F ∧ Sep B F U ∧ match f ds ρ with
  | some ρ' => ∀ σ' U', Sta mg B H σ' ρ' U' → (∀ a ∈ U', a ∈ U ∨ a ∈ F) → (∀ i ∈ kp, σ'[i]? = σ[i]?) → σ'.length = σ.length → Q σ' H
  | none => False
def PDG (X : Cx) (kp : List Nat) (tg : Expr) (f : D → Rho → Option Rho) : Prop := PG X tg (tG X.ev kp f)
def PDGs (X : Cx) (kp : List Nat) (tgs : List Expr) (f : List D → Rho → Option Rho) : Prop := PGs X tgs (tGs X.ev kp f)
def gN (i : Nat) : D → Rho → Option Rho := fun d ρ => some (ρ.set i (some d))
def gNl : List D → Rho → Option Rho := fun ds ρ => match ds with
  | [] => some ρ
  | _ => none
def gCs (f : D → Rho → Option Rho) (fs : List D → Rho → Option Rho) : List D → Rho → Option Rho := fun ds ρ => match ds with
  | d :: ds => match f d ρ with
    | some ρ1 => fs ds ρ1
    | none => none
  | [] => none
def gT (fs : List D → Rho → Option Rho) : D → Rho → Option Rho := fun d ρ => match d with
  | .tup ds => fs ds ρ
  | _ => none
theorem PG.weak {X : Cx} {e : Expr} {t t' : TG} (h : PG X e t) (w : ∀ v σ H Q, t' v σ H Q → t v σ H Q) : PG X e t' := ⟨fun pins s σ H v u Q I r q => h.run pins s σ H v u Q I r (w _ _ _ _ q)⟩
theorem PGs.weak {X : Cx} {e : List Expr} {t t' : TGs} (h : PGs X e t) (w : ∀ v σ H Q, t' v σ H Q → t v σ H Q) : PGs X e t' := ⟨fun pins s σ H v u Q I r q => h.run pins s σ H v u Q I r (w _ _ _ _ q)⟩
section
variable {X : Cx} {W : WX} {kp : List Nat} {pos : Pos} {tg : Expr} {tgs : List Expr} {f : D → Rho → Option Rho} {fs : List D → Rho → Option Rho} {mg : Ev} {B H : Hp} {σ : L2.St} {ρ : Rho} {U F : List Addr} {v : V} {d : D}
theorem Sta.set {i : Nat} (s : Sta mg B H σ ρ U) (o : Own mg B H v d F) (k : Sep B F U) : ∃ U', Sta mg B H (σ.set i (some v)) (ρ.set i (some d)) U' ∧ (∀ a ∈ U', a ∈ U ∨ a ∈ F) := by
  by_cases hi : i < ρ.length
  · obtain ⟨U', st, sub⟩ := s.put hi o k
    exact ⟨F ++ U', st, fun a h => (List.mem_append.mp h).elim .inr fun h => .inl (sub a h)⟩
  · rw [List.set_eq_of_length_le (by rw [s.len]; omega), List.set_eq_of_length_le (by omega)]
    exact ⟨U, s, fun a h => .inl h⟩
theorem g_name {i : Nat} {x : Str} (hN : X.N.Nodup) (hi : X.N[i]? = some x := by rfl) (hx : Loc X.env.scope x := by first | exact .inl rfl | exact .inr rfl) (hk : i ∉ kp := by decide) (hf : X.fn x = true ∨ X.env.scope.names.lookup x = some .local := by first | exact .inl rfl | exact .inr rfl | assumption) : PDG X kp (.Name x pos) (gN i) :=
  PG.weak (pg_name hN hi hx hf) fun v σ H Q ⟨B, ρ, U, d, F, st, o, k, q⟩ => by
    obtain ⟨U', s', sub⟩ := st.set (i := i) o k
    exact q _ U' s' sub (fun j hj => List.getElem?_set_ne fun e => hk (by rw [e]; exact hj)) (List.length_set ..)
theorem g_nil : PDGs X kp [] gNl := PGs.weak pgs_nil fun v σ H Q ⟨B, ρ, U, ds, F, st, o, k, q⟩ => by
  cases o with
  | nil => exact ⟨rfl, q σ U st (fun _ h => .inl h) (fun _ _ => rfl) rfl⟩
  | cons _ _ => exact q.elim
theorem g_cons (h : PDG X kp tg f) (t : PDGs X kp tgs fs) (hs : (assignEach (tg :: tgs) X.env).map (·.2) = assign tg X.env :: (assignEach tgs X.env).map (·.2) := by rfl) : PDGs X kp (tg :: tgs) (gCs f fs) := PGs.weak (pgs_cons h t hs) fun vs σ H Q ⟨B, ρ, U, ds, F, st, o, k, q⟩ => by
  cases o with
  | nil => exact q.elim
  | @cons w d F1 ws ds G o1 o2 =>
    refine ⟨w, ws, rfl, B, ρ, U, d, F1, st, o1, ?_, ?_⟩
    · have nd := List.nodup_append.mp k.nd
      exact ⟨nd.1, fun a x => k.dj a (by simp [x]), fun a x => k.off a (by simp [x])⟩
    · unfold gCs at q
      cases hf : f d ρ with
      | none => simp only [hf] at q
      | some ρ1 =>
        simp only [hf] at q
        intro σ1 U1 s1 sub1 kp1 len1
        have nd := List.nodup_append.mp k.nd
        refine ⟨B, ρ1, U1, ds, G, s1, o2, ⟨nd.2.1, fun a x y => ?_, fun a x => k.off a (by simp [x])⟩, ?_⟩
        · rcases sub1 a y with z | z
          · exact k.dj a (by simp [x]) z
          · exact nd.2.2 a z a x rfl
        · cases hf2 : fs ds ρ1 with
          | none => simp only [hf2] at q
          | some ρ2 =>
            simp only [hf2] at q
            intro σ2 U2 s2 sub2 kp2 len2
            refine q σ2 U2 s2 (fun a x => ?_) (fun i hi => (kp2 i hi).trans (kp1 i hi)) (len2.trans len1)
            rcases sub2 a x with z | z
            · rcases sub1 a z with y | y
              · exact .inl y
              · exact .inr (by simp [y])
            · exact .inr (by simp [z])
theorem g_tup {tk n : Nat} (hp : PG X (.Tuple tgs tk pos) (gTup X.K n (tGs X.ev kp fs))) (hfl : ∀ ds ρ ρ', fs ds ρ = some ρ' → ds.length = n) : PDG X kp (.Tuple tgs tk pos) (gT fs) :=
  PG.weak hp fun v σ H Q ⟨B, ρ, U, d, F, st, o, k, q⟩ => by
    unfold gT at q
    cases d with
    | tup ds =>
      obtain ⟨a, vs, rfl, h1, t1⟩ := tup_sqt (K := X.K) st.sub o
      cases hf : fs ds ρ with
      | none => simp only [hf] at q
      | some ρ' => exact ⟨a, vs, rfl, h1, by rw [t1.len]; exact hfl _ _ _ hf, B, ρ, U, ds, F, st, t1, k, q⟩
    | _ => exact q.elim
theorem gNl_len : ∀ ds ρ ρ', gNl ds ρ = some ρ' → ds.length = 0 := fun ds ρ ρ' h => by
  cases ds with
  | nil => rfl
  | cons _ _ => simp [gNl] at h
theorem gCs_len {n : Nat} (h : ∀ ds ρ ρ', fs ds ρ = some ρ' → ds.length = n) : ∀ ds ρ ρ', gCs f fs ds ρ = some ρ' → ds.length = n + 1 := fun ds ρ ρ' e => by
  cases ds with
  | nil => simp [gCs] at e
  | cons d ds =>
    simp only [gCs] at e
    split at e
    · simp [h _ _ _ e]
    · cases e
end

/-! ### what is walked -/
structure ItR (mg : Ev) (B : Hp) (J : It) (items : List D) : Prop where
  go : ∀ (i : Nat) H, (∀ a o, B a = some o → H a = some o) → i < items.length → J.go i H
  stop : ∀ H, (∀ a o, B a = some o → H a = some o) → J.stop items.length H
  yld : ∀ (i : Nat) H x H' d B1, (∀ a o, B a = some o → B1 a = some o) → (∀ a o, B1 a = some o → H a = some o) → items[i]? = some d → J.yld i H x H' → ∃ B2, Own mg B2 H' x d [] ∧ Step B1 H [] B2 H' []
/-- a key that is an int or a text -/
def isKeyD : D → Bool
  | .int _ => true
  | .str _ => true
  | _ => false
def itD : D → Option (List D)
  | .lst _ xs => some (freezes xs)
  | .tup xs => some (freezes xs)
  | .str s => some (s.map fun c => .str [c])
  | .dic _ kvs => if (kvs.map (·.1)).all isKeyD = true then some (kvs.map (·.1)) else none
  | _ => none
def tI (mg : Ev) (W : WX) (m : M (List D)) : TI := fun σ H R => ∃ B ρ U, Sta mg B H σ ρ U ∧ match m ρ with
  | .ok items ρ' => ∀ J B' H' U', PostS mg [] B H σ U σ ρ' B' H' U' → ItR mg B' J items → R J H'
  | .exc e ρ' => excW mg W B H σ U e ρ'
  | .stuck => False
def PDI (X : Cx) (W : WX) (tg iter : Expr) (m : M (List D)) : Prop := PI X tg iter (tI X.ev W m)
def iVal (m : M D) : M (List D) := mBind m fun d => mOpt (itD d)
def iRg1 (m : M D) : M (List D) := mBind m fun d => mOpt (match d with
  | .int j => if -(2 ^ 62) ≤ j ∧ j < 2 ^ 62 then some ((List.range j.toNat).map fun (i : Nat) => .int (i : Int)) else none
  | _ => none)
def iRg2 (m n : M D) : M (List D) := mBind m fun d => mBind n fun e => mOpt (match d, e with
  | .int i, .int j => if -(2 ^ 62) ≤ i ∧ i < 2 ^ 62 ∧ -(2 ^ 62) ≤ j ∧ j < 2 ^ 62 then some ((List.range (j - i).toNat).map fun (k : Nat) => .int (i + (k : Int))) else none
  | _, _ => none)
theorem PI.weak {X : Cx} {tg e : Expr} {t t' : TI} (h : PI X tg e t) (w : ∀ σ H R, t' σ H R → t σ H R) : PI X tg e t' := ⟨fun pins s σ H R I q => h.run pins s σ H R I (w _ _ _ q)⟩
section
variable {X : Cx} {W : WX} {kp : List Nat} {alt sep a1 a2 s1 s2 : Bool} {pos pos' : Pos} {tg e ea eb : Expr} {m ma mb : M D} {mg : Ev} {B H : Hp}
theorem itr_list {K : PySem.W.Frag} {a : Addr} {vs : List V} {ds : List D} (h : B a = some (.lst vs)) (o : ∀ H, Owns mg B H vs ds []) : ItR mg B (Itl K a) ds where
  go := fun i H hb hi => by
    have hi' : i < vs.length := by rw [(o H).len]; exact hi
    exact ⟨vs, vs[i], .inl (.inl (hb _ _ h)), List.getElem?_eq_getElem hi'⟩
  stop := fun H hb => ⟨vs, .inl (.inl (hb _ _ h)), by rw [(o H).len]; exact Nat.le_refl _⟩
  yld := fun i H x H' d B1 hb hb1 hd ⟨e, hx⟩ => by
    subst e
    have e2 := hx vs (.inl (.inl (hb1 _ _ (hb _ _ h))))
    obtain ⟨w, F1, F', F2, e3, o3, e4⟩ := (o H').get i hd
    rw [e2] at e3; cases e3
    obtain ⟨_, e5⟩ := List.append_eq_nil_iff.mp e4.symm
    obtain ⟨rfl, _⟩ := List.append_eq_nil_iff.mp e5
    exact ⟨B1, o3.mono hb fun _ z => absurd z (by simp), Step.refl hb1⟩
theorem itr_tup {K : PySem.W.Frag} {a : Addr} {vs : List V} {ds : List D} (h : B a = some (.tup vs)) (o : ∀ H, Owns mg B H vs ds []) : ItR mg B (Itt K a) ds where
  go := fun i H hb hi => by
    have hi' : i < vs.length := by rw [(o H).len]; exact hi
    exact ⟨vs, vs[i], .inl (.inl (hb _ _ h)), List.getElem?_eq_getElem hi'⟩
  stop := fun H hb => ⟨vs, .inl (.inl (hb _ _ h)), by rw [(o H).len]; exact Nat.le_refl _⟩
  yld := fun i H x H' d B1 hb hb1 hd ⟨e, hx⟩ => by
    subst e
    have e2 := hx vs (.inl (.inl (hb1 _ _ (hb _ _ h))))
    obtain ⟨w, F1, F', F2, e3, o3, e4⟩ := (o H').get i hd
    rw [e2] at e3; cases e3
    obtain ⟨_, e5⟩ := List.append_eq_nil_iff.mp e4.symm
    obtain ⟨rfl, _⟩ := List.append_eq_nil_iff.mp e5
    exact ⟨B1, o3.mono hb fun _ z => absurd z (by simp), Step.refl hb1⟩
theorem itr_dic {a : Addr} {ob : Obj} {kvs : List (Key × V)} (h : B a = some (.frz ob (.dK kvs))) : ItR mg B (Itk a ob kvs) (kvs.map fun p => keyD p.1) where
  go := fun i H hb hi => ⟨hb _ _ h, by simpa using hi⟩
  stop := fun H hb => ⟨hb _ _ h, by simp⟩
  yld := fun i H x H' d B1 hb hb1 hd ⟨e, k, v, hk, ex⟩ => by
    subst e ex
    rw [List.getElem?_map, hk] at hd
    cases hd
    refine ⟨B1, .atom ?_, Step.refl hb1⟩
    cases k <;> rfl
theorem itr_str {s : List Nat} : ItR mg B (Its (S s)) (s.map fun c => .str [c]) where
  go := fun i H _ hi => by
    show i < (S s).cps.size
    simp [S] at hi ⊢; exact hi
  stop := fun H _ => by
    show (S s).cps.size ≤ _
    simp [S]
  yld := fun i H x H' d B1 hb hb1 hd ⟨e, c, hc, ex⟩ => by
    subst e ex
    have : s[i]? = some c := by
      have := hc
      simp [S] at this; exact this
    rw [List.getElem?_map, this] at hd
    cases hd
    exact ⟨B1, .atom rfl, Step.refl hb1⟩
theorem itr_rng {lo : Int} {n : Nat} : ItR mg B (Itr lo n) ((List.range n).map fun (k : Nat) => .int (lo + (k : Int))) where
  go := fun i H _ hi => by
    have : i < n := by simpa using hi
    exact this
  stop := fun H _ => by show n ≤ _; simp
  yld := fun i H x H' d B1 hb hb1 hd ⟨e, ex⟩ => by
    subst e ex
    rw [List.getElem?_map] at hd
    cases h : (List.range n)[i]? with
    | none => rw [h] at hd; cases hd
    | some k =>
      rw [h] at hd; cases hd
      have := List.getElem?_eq_some_iff.mp h
      obtain ⟨_, e⟩ := this
      simp at e; subst e
      exact ⟨B1, .atom rfl, Step.refl hb1⟩
/-- an iterator over a value: by what it is -/
theorem it_any {pins : List (Addr × Obj)} {σ : L2.St} {s : Shared} {v : V} {u : Value} {R : It → Hp → Prop} (I : Inv X pins σ H s) (r : RelV v u)
    (h : (∃ a xs, v = .ref a ∧ SqL X.K H a xs ∧ R (Itl X.K a) H) ∨ (∃ a xs, v = .ref a ∧ SqT X.K H a xs ∧ R (Itt X.K a) H) ∨ (∃ x, v = .str x ∧ R (Its x) H) ∨ (∃ a ob kvs, v = .ref a ∧ H a = some (.frz ob (.dK kvs)) ∧ R (Itk a ob kvs) H)) :
    wpAny (model X.prog X.w) X.A (pyIter u) (PIE X pins σ tg R) X.xe s := by
  have fp : ∀ b ∈ [s.heap.objs.size], FpOk X pins H b := fun b hb => by
    obtain rfl : b = s.heap.objs.size := by simpa using hb
    exact I.fpOk (Nat.le_refl _) (I.hok.fresh (Nat.le_refl _))
  rcases h with ⟨a, xs, rfl, hq, q⟩ | ⟨a, xs, rfl, hq, q⟩ | ⟨x, rfl, q⟩ | ⟨a, ob, kvs, rfl, hd, q⟩
  · obtain rfl := r
    obtain ⟨its, rv, p, hz⟩ := I.list hq
    exact wpAny_pyIter_list p.isList ⟨_, [s.heap.objs.size], _, Itl X.K a, H, rfl, I.kept (t' := s.toks) (fun b o e => Heap.get?_push_of_some _ e), turn_list a _, ⟨_, Heap.get?_push_size _ rfl, rfl, rfl⟩, fp, q⟩
  · obtain rfl := r
    obtain ⟨its, rv, p, hz⟩ := I.tuple hq
    exact wpAny_pyIter_tuple (show s.heap.IsTuple a its.toArray from p) ⟨_, [s.heap.objs.size], _, Itt X.K a, H, rfl, I.kept (t' := s.toks) (fun b o e => Heap.get?_push_of_some _ e), turn_tuple a _, ⟨_, Heap.get?_push_size _ rfl, rfl, rfl⟩, fp, q⟩
  · obtain ⟨t, rfl⟩ := r
    by_cases ha : x.cps.all (· < 128) = true
    · exact wpAny_pyIter_ascii ha (pi_one (tk := s.toks) I _ (turn_str _ x t "str_ascii_iterator" (.inl rfl)) ⟨_, Heap.get?_push_size _ rfl, rfl, rfl⟩ q)
    · exact wpAny_pyIter_wide (by simpa using ha) (pi_one (tk := s.toks) I _ (turn_str _ x t "str_iterator" (.inr rfl)) ⟨_, Heap.get?_push_size _ rfl, rfl, rfl⟩ q)
  · obtain rfl := r
    obtain ⟨hs, hgd, hx, es, ep, vs, hdt, hsz, kv, hm⟩ := I.frzK hd
    refine iter_keys hs hgd hx hdt (pi_one (tk := s.toks) I _ (turn_keys _ hdt) ⟨_, Heap.get?_push_size _ rfl, rfl, ?_⟩ q)
    rw [hsz] <;> rfl
theorem i_val (h : PD X W alt true e m) : PDI X W tg e (iVal m) := by
  refine ⟨fun pins s σ H R I ⟨B, ρ, U, st, k⟩ => ?_⟩
  refine thn ((pe_lk h).run pins s σ H (fun v H' => (∃ a xs, v = .ref a ∧ SqL X.K H' a xs ∧ R (Itl X.K a) H') ∨ (∃ a xs, v = .ref a ∧ SqT X.K H' a xs ∧ R (Itt X.K a) H') ∨ (∃ x, v = .str x ∧ R (Its x) H') ∨ (∃ a ob kvs, v = .ref a ∧ H' a = some (.frz ob (.dK kvs)) ∧ R (Itk a ob kvs) H')) I ?_) fun u s1 ⟨v, H1, I1, r1, q1⟩ => it_any I1 r1 q1
  refine ⟨B, ρ, U, st, ?_⟩
  dsimp only [iVal, mBind] at k
  cases hm : m ρ with
  | ok d ρ1 =>
    rw [hm] at k
    intro v B1 H1 U1 F p
    dsimp only [Res.bind, mOpt] at k
    obtain ⟨sp, nw⟩ := p.sep rfl
    obtain ⟨ll, nn, mm, ff⟩ := freeze_sep p.st.sub p.own sp
    refine ⟨ll, nn, mm, fun od => ?_⟩
    obtain ⟨B2, t2, o2, _⟩ := ff od
    have st2 := p.st.step t2 fun a x y => sp.dj a y x
    have stp : Step B H U B2 (lk H1 ll od) U1 := by
      have z : Step B H U B1 H1 (F ++ U1) := p.step.weak (fun _ h => h) fun a x => by
        rcases List.mem_append.mp x with x | x
        · rcases nw a x with z | z
          · exact .inr (.inl z)
          · exact .inr (.inr z)
        · exact .inl x
      exact z.trans (t2.weak (fun a x => by simp [x]) fun a x => .inr (.inl (by simp [x])))
    have ps : PostS X.ev [] B H σ U σ ρ1 B2 (lk H1 ll od) U1 := ⟨st2, stp, fun _ h => absurd h (by simp)⟩
    cases d with
    | lst o xs =>
      simp only [itD] at k
      generalize hF0 : ([] : List Addr) = F0 at o2
      cases o2 with
      | atom h => cases v <;> simp [Atom, D.freeze] at h
      | own h _ _ => rw [own_freeze] at h; cases h
      | @fro _ _ vs A _ ho hs ht he =>
        subst hF0
        cases v <;> simp only [D.freeze, Shape] at hs
        rename_i a
        exact .inl ⟨a, vs, rfl, .inl (.inl (t2.sub _ _ hs.1)), k _ B2 (lk H1 ll od) U1 ps (itr_list hs.1 fun H => ht.mono (fun _ _ h => h) fun _ h => absurd h (by simp))⟩
    | tup xs =>
      simp only [itD] at k
      generalize hF0 : ([] : List Addr) = F0 at o2
      cases o2 with
      | atom h => cases v <;> simp [Atom, D.freeze] at h
      | own h _ _ => rw [own_freeze] at h; cases h
      | @fro _ _ vs A _ ho hs ht he =>
        subst hF0
        cases v <;> simp only [D.freeze, Shape] at hs
        rename_i a
        exact .inr (.inl ⟨a, vs, rfl, .inl (.inl (t2.sub _ _ hs.1)), k _ B2 (lk H1 ll od) U1 ps (itr_tup hs.1 fun H => ht.mono (fun _ _ h => h) fun _ h => absurd h (by simp))⟩)
    | str s =>
      simp only [itD] at k
      obtain ⟨rfl, rfl⟩ := own_str p.own
      exact .inr (.inr (.inl ⟨_, rfl, k _ B2 (lk H1 ll od) U1 ps itr_str⟩))
    | dic oo kvs =>
      simp only [itD] at k
      by_cases hk : (kvs.map (·.1)).all isKeyD = true
      case neg => rw [if_neg hk] at k; exact k.elim
      rw [if_pos hk] at k
      generalize hF0 : ([] : List Addr) = F0 at o2
      cases o2 with
      | atom h => cases v <;> simp [Atom, D.freeze] at h
      | own h _ _ => rw [own_freeze] at h; cases h
      | @fro _ _ vs A _ ho hs ht he =>
        subst hF0
        cases v <;> simp only [D.freeze, Shape] at hs
        rename_i a
        obtain ⟨_, hl, hs⟩ := hs
        rw [freezeK_keys] at hs
        rcases hs with ⟨ks, e, ob, hs⟩ | ⟨ks, ⟨e, hne⟩, hs⟩
        · have e2 : (ks.zip vs).map (fun p => keyD p.1) = kvs.map (·.1) := by
            rw [e]
            have hlen : ks.length = vs.length := by
              have := congrArg List.length e
              rw [freezeK_len] at hl
              simp at this
              omega
            have e3 : (ks.zip vs).map (fun p => keyD p.1) = ((ks.zip vs).map Prod.fst).map keyD := by rw [List.map_map]; rfl
            rw [e3, List.map_fst_zip (by omega)]
          have it := itr_dic (mg := X.ev) hs
          rw [e2] at it
          exact .inr (.inr (.inr ⟨a, ob, _, rfl, t2.sub _ _ hs, k _ B2 (lk H1 ll od) U1 ps it⟩))
        · rw [e] at hk
          cases ks with
          | nil => exact absurd rfl hne
          | cons z r => simp [isKeyD] at hk
    | _ => exact k.elim
  | exc x ρ1 => rw [hm] at k; exact k
  | stuck => rw [hm] at k; exact k
theorem i_rg1 {p : Pos} (h : PD X W alt sep e m) (hm : X.mg "range" = none) (hg : Gl X "range" := by rfl) (hs : starEach [e] X.env = [(false, eval e X.env)] := by rfl) : PDI X W tg (.Call (.Name "range" p) [e] [] pos) (iRg1 m) :=
  PI.weak (pi_range1 hg hm (pa_cons h pa_nil hs) hs) fun σ H R ⟨B, ρ, U, st, k⟩ => by
    refine ⟨B, ρ, U, st, ?_⟩
    dsimp only [iRg1, mBind] at k
    cases hm : m ρ with
    | ok d ρ1 =>
      rw [hm] at k
      intro v B1 H1 U1 F p
      dsimp only [Res.bind, mOpt] at k
      cases d with
      | int j =>
        obtain ⟨rfl, rfl⟩ := own_int p.own
        dsimp only at k
        by_cases hj : -(2 ^ 62) ≤ j ∧ j < 2 ^ 62
        · rw [if_pos hj] at k
          refine ⟨j, rfl, hj.1, hj.2, k _ B1 H1 U1 p.toS ?_⟩
          have := itr_rng (mg := X.ev) (B := B1) (lo := 0) (n := j.toNat)
          simpa using this
        · rw [if_neg hj] at k; exact k.elim
      | _ => exact k.elim
    | exc x ρ1 => rw [hm] at k; exact k
    | stuck => rw [hm] at k; exact k
theorem i_rg2 {p : Pos} (ha : PD X W a1 s1 ea ma) (hb : PD X W a2 s2 eb mb) (hm : X.mg "range" = none) (hg : Gl X "range" := by rfl) (hs : starEach [ea, eb] X.env = [(false, eval ea X.env), (false, eval eb X.env)] := by rfl) (hs2 : starEach [eb] X.env = [(false, eval eb X.env)] := by rfl) : PDI X W tg (.Call (.Name "range" p) [ea, eb] [] pos) (iRg2 ma mb) :=
  PI.weak (pi_range2 hg hm (pa_cons ha (pa_cons hb pa_nil hs2) (by rw [hs, hs2])) hs hs2) fun σ H R ⟨B, ρ, U, st, k⟩ => by
    refine ⟨B, ρ, U, st, ?_⟩
    dsimp only [iRg2, mBind] at k
    cases hm : ma ρ with
    | ok d ρ1 =>
      rw [hm] at k
      intro v B1 H1 U1 F p
      refine ⟨B1, ρ1, U1, p.st, ?_⟩
      dsimp only [Res.bind, mBind] at k
      cases hm2 : mb ρ1 with
      | ok d2 ρ2 =>
        rw [hm2] at k
        intro v2 B2 H2 U2 F2 q
        dsimp only [Res.bind, mBind, mOpt] at k
        cases d with
        | int i =>
          cases d2 with
          | int j =>
            obtain ⟨rfl, rfl⟩ := own_int p.own
            obtain ⟨rfl, rfl⟩ := own_int q.own
            dsimp only at k
            by_cases hj : -(2 ^ 62) ≤ i ∧ i < 2 ^ 62 ∧ -(2 ^ 62) ≤ j ∧ j < 2 ^ 62
            · rw [if_pos hj] at k
              exact ⟨i, j, rfl, hj, k _ B2 H2 U2 (p.toS.trans q.toS) itr_rng⟩
            · rw [if_neg hj] at k; exact k.elim
          | _ => exact k.elim
        | _ => exact k.elim
      | exc x ρ2 => rw [hm2] at k; exact k.back p.step
      | stuck => rw [hm2] at k; exact k
    | exc x ρ1 => rw [hm] at k; exact k
    | stuck => rw [hm] at k; exact k
end

/-! ### for -/
def forL (g : D → Rho → Option Rho) (body : MS) : List D → Rho → Out
  | [], ρ => .nx ρ
  | x :: xs, ρ => match g x ρ with
    | some ρ1 => match body ρ1 with
      | .nx ρ2 => forL g body xs ρ2
      | .ct ρ2 => forL g body xs ρ2
      | .bk ρ2 => .nx ρ2
      | o => o
    | none => .stuck
def sFor (g : D → Rho → Option Rho) (mi : M (List D)) (body : MS) : MS := fun ρ => ofRes (mi ρ) fun items ρ1 => forL g body items ρ1
section
variable {X : Cx} {W : WX} {kp : List Nat} {pos : Pos} {tg iter : Expr} {g : D → Rho → Option Rho} {mi : M (List D)} {body : List Stmt} {mb : MS}
theorem Step.nil_ground {B H B' H' : Hp} (s : Step B H [] B' H' []) (hx : ∀ a o, B a = some o → H a = some o) : ∀ a o, B a = some o → H' a = some o := fun a o h => s.sub a o (s.bs a o h)
theorem s_for (hp : PassesOwn (model X.prog X.w) X.A X.env X.xe) (hc : X.calm = true) (hi : PDI X W tg iter mi) (hg : PDG X kp tg g) (hb : PDSs X W kp body mb) (hs : ∀ x, foldedSetIterable iter X.env x = pure x := by intro _; rfl) : PDS X W kp (.For tg iter body [] pos) (sFor g mi mb) :=
  PS.weak (ps_for hp hc hi hg hb hs) fun D σ H ⟨B, ρ, U, st, k⟩ => by
    refine ⟨B, ρ, U, st, ?_⟩
    dsimp only [sFor] at k
    cases hm : mi ρ with
    | ok items ρ1 =>
      rw [hm] at k
      intro J B1 H1 U1 p it
      dsimp only [ofRes] at k
      have p' : PostS X.ev kp B H σ U σ ρ1 B1 H1 U1 := ⟨p.st, p.step, fun _ _ => rfl⟩
      -- the wish of an outcome
      let Wish : Out → L2.St → Hp → Hp → List Addr → Prop := fun o σ1 B1 H1 U1 => match o with
        | .nx ρ' => ∀ σ' B' H' U', PostS X.ev kp B1 H1 σ1 U1 σ' ρ' B' H' U' → D.nx σ' H'
        | .bk ρ' => ∀ σ' B' H' U', PostS X.ev kp B1 H1 σ1 U1 σ' ρ' B' H' U' → D.bk σ' H'
        | .ct ρ' => ∀ σ' B' H' U', PostS X.ev kp B1 H1 σ1 U1 σ' ρ' B' H' U' → D.ct σ' H'
        | .rt d ρ' => ∀ v σ' B' H' U' F, PostR X.ev kp B1 H1 σ1 U1 v d σ' ρ' B' H' U' F → D.rt v H'
        | .exc e ρ' => excS X.ev W kp B1 H1 σ1 U1 e ρ'
        | .stuck => False
      have back : ∀ {o : Out} {σa σb : L2.St} {Ba Ha Bb Hb : Hp} {Ua Ub : List Addr} {ρb : Rho}, Wish o σa Ba Ha Ua → PostS X.ev kp Ba Ha σa Ua σb ρb Bb Hb Ub → Wish o σb Bb Hb Ub := fun {o σa σb Ba Ha Bb Hb Ua Ub ρb} w q => by
        cases o with
        | nx ρ' => exact fun σ' B' H' U' z => w σ' B' H' U' (q.trans z)
        | bk ρ' => exact fun σ' B' H' U' z => w σ' B' H' U' (q.trans z)
        | ct ρ' => exact fun σ' B' H' U' z => w σ' B' H' U' (q.trans z)
        | rt d ρ' => exact fun v σ' B' H' U' F z => w v σ' B' H' U' F (q.transR z)
        | exc e ρ' => exact excS.back w q
        | stuck => exact w
      have k1 : Wish (forL g mb items ρ1) σ B1 H1 U1 := by
        have k0 : Wish (forL g mb items ρ1) σ B H U := k
        exact back k0 p'
      refine ⟨fun i n σ2 H2 => ∃ B2 ρ2 U2, n = items.length - i ∧ i ≤ items.length ∧ Sta X.ev B2 H2 σ2 ρ2 U2 ∧ (∀ a o, B1 a = some o → B2 a = some o) ∧ Wish (forL g mb (items.drop i) ρ2) σ2 B2 H2 U2, ⟨_, B1, ρ1, U1, rfl, Nat.zero_le _, p.st, fun _ _ h => h, k1⟩, fun i n σ2 H2 ⟨B2, ρ2, U2, en, hile, s2, hb12, w2⟩ => ?_⟩
      have ground : ∀ a o, B1 a = some o → H2 a = some o := fun a o h => s2.sub a o (hb12 a o h)
      by_cases hil : i < items.length
      · refine .inr ⟨it.go i H2 ground hil, fun σ3 H3 => ∃ B3 ρ3 U3, Sta X.ev B3 H3 σ3 ρ3 U3 ∧ (∀ a o, B1 a = some o → B3 a = some o) ∧ Wish (forL g mb (items.drop (i + 1)) ρ3) σ3 B3 H3 U3, fun σ3 H3 ⟨B3, ρ3, U3, s3, hb3, w3⟩ => ⟨_, ?_, B3, ρ3, U3, rfl, by omega, s3, hb3, w3⟩, fun x H3 hy => ?_⟩
        · rw [en]; omega
        · obtain ⟨B3, ox, stp⟩ := it.yld i H2 x H3 items[i] B2 hb12 s2.sub (List.getElem?_eq_getElem hil) hy
          have s3 := s2.stepN stp
          rw [List.drop_eq_getElem_cons hil] at w2
          unfold forL at w2
          refine ⟨B3, ρ2, U2, items[i], [], s3, ox, Sep.nil, ?_⟩
          have p3 : PostS X.ev kp B2 H2 σ2 U2 σ2 ρ2 B3 H3 U2 := ⟨s3, stp.none_of, fun _ _ => rfl⟩
          cases hgx : g items[i] ρ2 with
          | none => simp only [hgx] at w2; exact w2.elim
          | some ρ3 =>
            simp only [hgx] at w2
            intro σ4 U4 s4 sub4 kp4 _
            have p4 : PostS X.ev kp B2 H2 σ2 U2 σ4 ρ3 B3 H3 U4 := p3.trans ⟨s4, (Step.refl (U := U2) s3.sub).weak (fun _ h => h) (fun a h => by
              rcases sub4 a h with z | z
              · exact .inl z
              · simp at z), kp4⟩
            have hb3 : ∀ a o, B1 a = some o → B3 a = some o := fun a o h => stp.bs a o (hb12 a o h)
            refine ⟨B3, ρ3, U4, s4, ?_⟩
            cases hbd : mb ρ3 with
            | nx ρ5 =>
              simp only [hbd] at w2
              exact fun σ5 B5 H5 U5 p5 => ⟨B5, ρ5, U5, p5.st, fun a o h => p5.step.bs a o (hb3 a o h), back w2 (p4.trans p5)⟩
            | ct ρ5 =>
              simp only [hbd] at w2
              exact fun σ5 B5 H5 U5 p5 => ⟨B5, ρ5, U5, p5.st, fun a o h => p5.step.bs a o (hb3 a o h), back w2 (p4.trans p5)⟩
            | bk ρ5 =>
              simp only [hbd] at w2
              exact fun σ5 B5 H5 U5 p5 => w2 σ5 B5 H5 U5 (p4.trans p5)
            | rt d ρ5 =>
              simp only [hbd] at w2
              exact fun v σ5 B5 H5 U5 F p5 => w2 v σ5 B5 H5 U5 F (p4.transR p5)
            | exc x ρ5 =>
              simp only [hbd] at w2
              exact excS.back w2 p4
            | stuck => simp only [hbd] at w2; exact w2.elim
      · obtain rfl : i = items.length := by omega
        rw [List.drop_length] at w2
        exact .inl ⟨it.stop H2 ground, w2 σ2 B2 H2 U2 (PostS.refl s2)⟩
    | exc x ρ1 => rw [hm] at k; exact excS.toW k
    | stuck => rw [hm] at k; exact k
end
end Eng
/-! Eng12: while, comprehensions, raise, try. -/
namespace Eng
open PySem PySem.Spec PyProof.Rows L2

/-! ### while -/
/-- so many turns at most -/
def whileN (c : M Bool) (body : MS) : Nat → Rho → Out
  | 0, _ => .stuck
  | n + 1, ρ => match c ρ with
    | .ok true ρ1 => (match body ρ1 with
      | .nx ρ2 => whileN c body n ρ2
      | .ct ρ2 => whileN c body n ρ2
      | .bk ρ2 => .nx ρ2
      | o => o)
    | .ok false ρ1 => .nx ρ1
    | .exc e ρ1 => .exc e ρ1
    | .stuck => .stuck
section
variable {X : Cx} {W : WX} {kp : List Nat} {pos : Pos} {tg iter : Expr} {g : D → Rho → Option Rho} {mi : M (List D)} {body : List Stmt} {mb : MS} {c : Expr} {mc : M Bool} {alt : Bool}
/-- the wish of an outcome -/
def Wish (mg : Ev) (W : WX) (kp : List Nat) (D : Ends) (o : Out) (σ1 : L2.St) (B1 H1 : Hp) (U1 : List Addr) : Prop := match o with
  | .nx ρ' => ∀ σ' B' H' U', PostS mg kp B1 H1 σ1 U1 σ' ρ' B' H' U' → D.nx σ' H'
  | .bk ρ' => ∀ σ' B' H' U', PostS mg kp B1 H1 σ1 U1 σ' ρ' B' H' U' → D.bk σ' H'
  | .ct ρ' => ∀ σ' B' H' U', PostS mg kp B1 H1 σ1 U1 σ' ρ' B' H' U' → D.ct σ' H'
  | .rt d ρ' => ∀ v σ' B' H' U' F, PostR mg kp B1 H1 σ1 U1 v d σ' ρ' B' H' U' F → D.rt v H'
  | .exc e ρ' => excS mg W kp B1 H1 σ1 U1 e ρ'
  | .stuck => False
theorem Wish.back {mg : Ev} {W : WX} {kp : List Nat} {D : Ends} {o : Out} {σa σb : L2.St} {Ba Ha Bb Hb : Hp} {Ua Ub : List Addr} {ρb : Rho} (w : Wish mg W kp D o σa Ba Ha Ua) (q : PostS mg kp Ba Ha σa Ua σb ρb Bb Hb Ub) : Wish mg W kp D o σb Bb Hb Ub := by
  cases o with
  | nx ρ' => exact fun σ' B' H' U' z => w σ' B' H' U' (q.trans z)
  | bk ρ' => exact fun σ' B' H' U' z => w σ' B' H' U' (q.trans z)
  | ct ρ' => exact fun σ' B' H' U' z => w σ' B' H' U' (q.trans z)
  | rt d ρ' => exact fun v σ' B' H' U' F z => w v σ' B' H' U' F (q.transR z)
  | exc e ρ' => exact excS.back w q
  | stuck => exact w
theorem s_while (n : Nat) (hp : PassesOwn (model X.prog X.w) X.A X.env X.xe) (hc : PDT X W alt c mc) (hb : PDSs X W kp body mb) : PDS X W kp (.While c body [] pos) (whileN mc mb n) :=
  PS.weak (ps_while hp hc hb) fun D σ H ⟨B, ρ, U, st, k⟩ => by
    have k : Wish X.ev W kp D (whileN mc mb n ρ) σ B H U := k
    refine ⟨fun n σ2 H2 => ∃ B2 ρ2 U2, Sta X.ev B2 H2 σ2 ρ2 U2 ∧ Wish X.ev W kp D (whileN mc mb n ρ2) σ2 B2 H2 U2, ⟨n, B, ρ, U, st, k⟩, fun n σ2 H2 ⟨B2, ρ2, U2, s2, w2⟩ => ?_⟩
    cases n with
    | zero => exact w2.elim
    | succ n =>
      unfold whileN at w2
      refine ⟨B2, ρ2, U2, s2, ?_⟩
      cases hm : mc ρ2 with
      | ok b ρ3 =>
        simp only [hm] at w2
        intro B3 H3 U3 p
        cases b with
        | true =>
          simp only [if_true] at w2 ⊢
          refine ⟨fun σ4 H4 => ∃ B4 ρ4 U4, Sta X.ev B4 H4 σ4 ρ4 U4 ∧ Wish X.ev W kp D (whileN mc mb n ρ4) σ4 B4 H4 U4, fun σ4 H4 h => ⟨n, Nat.lt_succ_self n, h⟩, B3, ρ3, U3, p.st, ?_⟩
          have pS : PostS X.ev kp B2 H2 σ2 U2 σ2 ρ3 B3 H3 U3 := p.toS
          cases hbd : mb ρ3 with
          | nx ρ5 =>
            simp only [hbd] at w2
            exact fun σ5 B5 H5 U5 p5 => ⟨B5, ρ5, U5, p5.st, w2.back (pS.trans p5)⟩
          | ct ρ5 =>
            simp only [hbd] at w2
            exact fun σ5 B5 H5 U5 p5 => ⟨B5, ρ5, U5, p5.st, w2.back (pS.trans p5)⟩
          | bk ρ5 =>
            simp only [hbd] at w2
            exact fun σ5 B5 H5 U5 p5 => w2 σ5 B5 H5 U5 (pS.trans p5)
          | rt d ρ5 =>
            simp only [hbd] at w2
            exact fun v σ5 B5 H5 U5 F p5 => w2 v σ5 B5 H5 U5 F (pS.transR p5)
          | exc x ρ5 =>
            simp only [hbd] at w2
            exact excS.back w2 pS
          | stuck => simp only [hbd] at w2; exact w2.elim
        | false =>
          simp only [Bool.false_eq_true, if_false] at w2 ⊢
          exact w2 σ2 B3 H3 U3 p.toS
      | exc x ρ3 => simp only [hm] at w2; exact excS.toW w2
      | stuck => simp only [hm] at w2; exact w2.elim
end

/-! ### raise -/
def sRaise (c : Str) : MS := fun ρ => .exc ⟨c, []⟩ ρ
section
variable {X : Cx} {W : WX} {kp : List Nat} {pos : Pos} {e : Expr}
/-- raise X(), X without __init__ of its own -/
theorem s_raise {c : Str} {C : Addr} (hm : X.mg c = some (.ref C)) (hr : PS X (.Raise (some e) none pos) (fun _ σ H => W (.ref C) none σ H)) : PDS X W kp (.Raise (some e) none pos) (sRaise c) :=
  PS.weak hr fun D σ H ⟨B, ρ, U, st, k⟩ => k σ B H U (.ref C) none (PostS.refl st) ⟨C, hm, rfl, .inl ⟨rfl, rfl⟩⟩
end

/-! ### list comprehensions -/
def wipeR : Rho → List Nat → Rho
  | ρ, [] => ρ
  | ρ, i :: is => wipeR (ρ.set i none) is
/-- the block's own names hold outside what they held -/
def restR (ρ0 : Rho) : Rho → List Nat → Rho
  | ρ, [] => ρ
  | ρ, i :: is => restR ρ0 (match ρ0[i]? with
    | some (some d) => if d.frz then ρ.set i (some d) else ρ
    | _ => ρ) is
/-- one turn after another; the test; the element -/
def lcL (g : D → Rho → Option Rho) (c : M Bool) (m : M D) (vs : List Nat) : List D → List D → Rho → Res (List D)
  | [], acc, ρ => .ok acc ρ
  | x :: xs, acc, ρ => match g x ρ with
    | some ρ1 => (match c ρ1 with
      | .ok true ρ2 => (match m ρ2 with
        | .ok d ρ3 => if acc.length < 16777216 then lcL g c m vs xs (acc ++ [d]) (wipeR ρ3 vs) else .stuck
        | _ => .stuck)
      | .ok false ρ2 => lcL g c m vs xs acc (wipeR ρ2 vs)
      | _ => .stuck)
    | none => .stuck
def mYes : M Bool := mPure true
def eLc (g : D → Rho → Option Rho) (mi : M (List D)) (c : M Bool) (m : M D) (vs : List Nat) : M D := fun ρ => match mi ρ with
  | .ok items ρ1 => (match lcL g c m vs items [] (wipeR ρ1 vs) with
    | .ok ds ρ2 => .ok (.lst true ds) (restR ρ1 ρ2 vs)
    | .exc e ρ2 => .exc e ρ2
    | .stuck => .stuck)
  | .exc e ρ1 => .exc e ρ1
  | .stuck => .stuck
def W0 : WX := fun _ _ _ _ => False
def PDTs (X : Cx) (W : WX) (ifs : List Expr) (m : M Bool) : Prop := PTs X ifs (tT X.ev W true m)
theorem PTs.weak {X : Cx} {e : List Expr} {t t' : TT} (h : PTs X e t) (w : ∀ σ H Q, t' σ H Q → t σ H Q) : PTs X e t' := ⟨fun pins s σ H Q I q => h.run pins s σ H Q I (w _ _ _ q)⟩
section
variable {X : Cx} {W : WX} {kp : List Nat} {alt : Bool} {pos : Pos} {tg iter elt : Expr} {ifs : List Expr} {g : D → Rho → Option Rho} {mi : M (List D)} {c : Expr} {mc : M Bool} {m : M D}
theorem ts_nil : PDTs X W [] mYes := PTs.weak pts_nil fun σ H Q ⟨B, ρ, U, st, k⟩ =>
  k B H U ⟨st, rfl, fun _ => ⟨Sep.nil, fun _ h => absurd h (by simp)⟩, Step.refl st.sub, fun _ => ⟨rfl, rfl, Step.refl st.sub⟩⟩
theorem ts_one (h : PDT X W alt c mc) : PDTs X W [c] mc := pts_one (h.to (fun h => by cases h))
theorem wipeR_len : ∀ (vs : List Nat) (ρ : Rho), (wipeR ρ vs).length = ρ.length
  | [], _ => rfl
  | v :: vs, ρ => by unfold wipeR; rw [wipeR_len vs]; simp
theorem wipeR_get : ∀ (vs : List Nat) (ρ : Rho) (i : Nat) (d : D), (wipeR ρ vs)[i]? = some (some d) → ρ[i]? = some (some d) ∧ i ∉ vs
  | [], ρ, i, d, h => ⟨h, by simp⟩
  | v :: vs, ρ, i, d, h => by
    unfold wipeR at h
    obtain ⟨a, b⟩ := wipeR_get vs _ i d h
    by_cases e : v = i
    · subst e
      by_cases hl : v < ρ.length
      · rw [List.getElem?_set_self hl] at a; simp at a
      · rw [List.getElem?_eq_none (by simp; omega)] at a; simp at a
    · rw [List.getElem?_set_ne e] at a
      exact ⟨a, by simp [b]; exact fun z => e z.symm⟩
theorem wipe_get {σ : L2.St} {i : Nat} : ∀ {vs : List Nat}, i ∉ vs → (wipe σ vs)[i]? = σ[i]?
  | [], _ => rfl
  | v :: vs, h => by
    simp at h
    unfold wipe
    rw [List.getElem?_set_ne (fun z => h.1 z.symm), wipe_get h.2]
theorem wipe_in {σ : L2.St} {i : Nat} : ∀ {vs : List Nat}, i ∈ vs → i < σ.length → (wipe σ vs)[i]? = some none
  | v :: vs, h, hl => by
    unfold wipe
    by_cases e : v = i
    · subst e
      rw [List.getElem?_set_self (by rw [wipe_length]; exact hl)]
    · rw [List.getElem?_set_ne e]
      rcases List.mem_cons.mp h with z | z
      · exact absurd z.symm e
      · exact wipe_in z hl
theorem wipe_eq {σ σ' : L2.St} {vs : List Nat} (hl : σ'.length = σ.length) (h : ∀ i, i ∉ vs → σ'[i]? = σ[i]?) : wipe σ' vs = wipe σ vs := by
  apply List.ext_getElem?
  intro i
  by_cases hi : i ∈ vs
  · by_cases hj : i < σ.length
    · rw [wipe_in hi hj, wipe_in hi (by omega)]
    · rw [List.getElem?_eq_none (by rw [wipe_length]; omega), List.getElem?_eq_none (by rw [wipe_length]; omega)]
  · rw [wipe_get hi, wipe_get hi, h i hi]
theorem Sta.wiped {mg : Ev} {B H : Hp} {σ : L2.St} {ρ : Rho} {U : List Addr} (vs : List Nat) (s : Sta mg B H σ ρ U) : ∃ U2, Sta mg B H (wipe σ vs) (wipeR ρ vs) U2 ∧ ∀ a ∈ U2, a ∈ U :=
  s.fewer (by rw [wipe_length, wipeR_len]; exact s.len) (by rw [wipeR_len]; exact Nat.le_refl _) fun i d h => by
    obtain ⟨a, b⟩ := wipeR_get vs ρ i d h
    exact ⟨a, wipe_get b⟩
theorem Sta.unwiped {mg : Ev} {B H : Hp} {σ σ0 : L2.St} {ρ : Rho} {U : List Addr} (vs : List Nat) (hl : σ0.length = σ.length) (e : wipe σ vs = wipe σ0 vs) (s : Sta mg B H σ ρ U) : ∃ U2, Sta mg B H (wipe σ0 vs) (wipeR ρ vs) U2 ∧ ∀ a ∈ U2, a ∈ U := by
  rw [← e]; exact s.wiped vs
theorem Sta.toOuter {mg : Ev} {B H : Hp} {σ : L2.St} {ρ : Rho} {U : List Addr} (vs : List Nat) (s : Sta mg B H (wipe σ vs) ρ U) : Sta mg B H σ ρ U := by
  obtain ⟨l, Fs, lf, pu, k⟩ := s.sl
  refine ⟨s.sub, ⟨by rw [← l, wipe_length], Fs, lf, pu, fun i d h => ?_⟩, s.nd, s.off, s.ex⟩
  obtain ⟨v, F, a, b, c⟩ := k i d h
  exact ⟨v, F, (wipe_some a).1, b, c⟩
/-- the names of the block hold what they held, where that is frozen -/
theorem Sta.restored {mg : Ev} {B H B0 H0 : Hp} {σ : L2.St} {ρ0 : Rho} {U0 : List Addr} (s0 : Sta mg B0 H0 σ ρ0 U0) (hB : ∀ a o, B0 a = some o → B a = some o) : ∀ (vs : List Nat) {ρ : Rho} {U : List Addr}, Sta mg B H σ ρ U → ∃ U2, Sta mg B H σ (restR ρ0 ρ vs) U2 ∧ ∀ a ∈ U2, a ∈ U
  | [], ρ, U, s => ⟨U, s, fun _ h => h⟩
  | i :: is, ρ, U, s => by
    unfold restR
    cases h : ρ0[i]? with
    | none => exact s0.restored hB is s
    | some o =>
      cases o with
      | none => exact s0.restored hB is s
      | some d =>
        dsimp only
        by_cases hf : d.frz = true
        · rw [if_pos hf]
          obtain ⟨v, F, U', e, o, _, _, _⟩ := s0.take h
          obtain rfl := o.nil_of hf
          obtain ⟨U2, s2, sub2⟩ := s.set (i := i) (o.mono hB fun _ z => absurd z (by simp)) Sep.nil
          rw [set_self e] at s2
          obtain ⟨U3, s3, sub3⟩ := s0.restored hB is s2
          refine ⟨U3, s3, fun a x => ?_⟩
          rcases sub2 a (sub3 a x) with z | z
          · exact z
          · simp at z
        · rw [if_neg hf]
          exact s0.restored hB is s
end
end Eng
/-! Eng13: list comprehensions. -/
namespace Eng
open PySem PySem.Spec PyProof.Rows L2
section
variable {X : Cx} {W : WX} {kp : List Nat} {alt : Bool} {pos : Pos} {tg iter elt : Expr} {ifs : List Expr} {g : D → Rho → Option Rho} {mi : M (List D)} {c : Expr} {mc : M Bool} {m : M D}
theorem upd_step {B H : Hp} {a : Addr} {o : HO} {U U' : List Addr} (hs : ∀ a o, B a = some o → H a = some o) (hb : B a = none) (ha : a ∈ U) (hn : ∀ x ∈ U', x ∈ U) : Step B H U B (upd H a o) U' where
  sub := fun x u h => by rw [upd_ne (fun z => by rw [z, hb] at h; cases h)]; exact hs x u h
  bs := fun _ _ h => h
  keep := fun x _ n => by rw [upd_ne (fun z => n (by rw [z]; exact ha))]
  new := fun x h => .inl (hn x h)
  bnew := fun _ h => .inl h
theorem upd_new {B H : Hp} {a : Addr} {o : HO} (hs : ∀ a o, B a = some o → H a = some o) (ha : H a = none) : Step B H [] B (upd H a o) [] where
  sub := fun x u h => by rw [upd_ne (ne_of_none (hs x u h) ha)]; exact hs x u h
  bs := fun _ _ h => h
  keep := fun x h _ => by rw [upd_ne (fun z => h (by rw [z]; exact ha))]
  new := fun x h => absurd h (by simp)
  bnew := fun _ h => .inl h
theorem lc_read {vs : List Nat} {N : List Str} {σ : L2.St} {H : Hp} {Q : VK} (hlen : σ.length = N.length) (hkp : ∀ i, i < N.length → i ∉ vs → i ∈ kp) (hq : tE X.ev W true true (eLc g mi mc m vs) σ H Q) :
    tLc (tI X.ev W mi) (tG X.ev kp g) (tT X.ev W0 true mc) (tE X.ev W0 true true m) vs σ H Q := by
  obtain ⟨B, ρ, U, st, k⟩ := hq
  refine ⟨B, ρ, U, st, ?_⟩
  dsimp only [eLc] at k
  cases hm : mi ρ with
  | exc x ρ1 => rw [hm] at k; exact k
  | stuck => rw [hm] at k; exact k
  | ok items ρ1 =>
  rw [hm] at k
  intro J B1 H1 U1 p it Dd hD
  dsimp only at k
  have stD := upd_new (o := .lst []) p.st.sub hD
  obtain ⟨Uw, sw, subw⟩ := (p.st.stepN stD).wiped vs
  have hBD : B1 Dd = none := by
    cases e : B1 Dd with
    | none => rfl
    | some o => rw [p.st.sub _ _ e] at hD; cases hD
  have hDU : Dd ∉ U1 := fun z => p.st.ex Dd z hD
  have key : ∀ (ds : List D) (ρ2 : Rho), (∀ v B' H' U' F, Post X.ev true true B H σ ρ U (restR ρ1 ρ2 vs) (oV X.ev v (.lst true ds)) B' H' U' F → Q v H') → ∀ (B2 H2 : Hp) (U2 Fa : List Addr) (ws : List V), Sta X.ev B2 H2 (wipe σ vs) ρ2 U2 → (∀ a o, B1 a = some o → B2 a = some o) → H2 Dd = some (.lst ws) → Owns X.ev B2 H2 ws ds Fa → Sep B2 (Dd :: Fa) U2 → Step B H U B2 H2 (U2 ++ (Dd :: Fa)) → Q (.ref Dd) H2 := by
    intro ds ρ2 kk B2 H2 U2 Fa ws s2 hb e2 o2 sp2 t2
    obtain ⟨U3, s3, sub3⟩ := p.st.restored hb vs s2.toOuter
    exact kk _ B2 H2 U3 (Dd :: Fa) ⟨s3, .own (A := [Dd]) rfl ⟨e2, rfl⟩ o2, fun _ => ⟨sp2.mono sub3, fun a x => t2.new a (by simp at x ⊢; exact .inr x)⟩, t2.less fun a x => by simp [sub3 a x], fun h => by cases h⟩
  cases hr : lcL g mc m vs items [] (wipeR ρ1 vs) with
  | stuck => rw [hr] at k; exact k.elim
  | exc x ρ2 =>
    -- no exception comes out of the turns
    exfalso
    have : ∀ (xs acc : List D) (ρ : Rho) x ρ2, lcL g mc m vs xs acc ρ ≠ .exc x ρ2 := by
      intro xs
      induction xs with
      | nil => intro acc ρ x ρ2 h; simp [lcL] at h
      | cons y ys ih =>
        intro acc ρ x ρ2 h
        unfold lcL at h
        split at h
        · split at h
          · split at h
            · split at h
              · exact ih _ _ _ _ h
              · cases h
            · cases h
          · exact ih _ _ _ _ h
          · cases h
        · cases h
    exact this _ _ _ _ _ hr
  | ok dsF ρF =>
  rw [hr] at k
  dsimp only at k
  have t0 : Step B H U B1 (upd H1 Dd (.lst [])) (Uw ++ [Dd]) := by
    have z := p.step.trans (stD.none_of (U := U1))
    refine z.weak (fun _ h => h) fun a x => ?_
    rcases List.mem_append.mp x with x | x
    · exact .inl (subw a x)
    · simp at x; subst x
      by_cases w : a ∈ U
      · exact .inr (.inl w)
      · refine .inr (.inr ?_)
        cases e : H a with
        | none => rfl
        | some o => rw [p.step.keep a (by rw [e]; simp) w, e] at hD; cases hD
  refine ⟨fun i n H2 => ∃ B2 ρ2 U2 acc ws Fa, n = items.length - i ∧ i ≤ items.length ∧ Sta X.ev B2 H2 (wipe σ vs) ρ2 U2 ∧ (∀ a o, B1 a = some o → B2 a = some o) ∧ H2 Dd = some (.lst ws) ∧ Owns X.ev B2 H2 ws acc Fa ∧ Sep B2 (Dd :: Fa) U2 ∧ Step B H U B2 H2 (U2 ++ (Dd :: Fa)) ∧ lcL g mc m vs (items.drop i) acc ρ2 = .ok dsF ρF,
    ⟨_, B1, wipeR ρ1 vs, Uw, [], [], [], rfl, Nat.zero_le _, sw, fun _ _ h => h, upd_same, .nil, ⟨by simp, fun a x y => ?_, fun a x => by simp at x; rw [x]; exact hBD⟩, t0, hr⟩, fun i n H2 ⟨B2, ρ2, U2, acc, ws, Fa, en, hile, s2, hb12, e2, o2, sp2, t2, l2⟩ => ?_⟩
  · simp at x; subst x; exact hDU (subw a y)
  have ground : ∀ a o, B1 a = some o → H2 a = some o := fun a o h => s2.sub a o (hb12 a o h)
  by_cases hil : i < items.length
  case neg =>
    obtain rfl : i = items.length := by omega
    rw [List.drop_length] at l2
    simp only [lcL, Res.ok.injEq] at l2
    obtain ⟨rfl, rfl⟩ := l2
    exact .inl ⟨it.stop H2 ground, key _ _ k B2 H2 U2 Fa ws s2 hb12 e2 o2 sp2 t2⟩
  refine .inr ⟨it.go i H2 ground hil, fun H3 => ∃ B3 ρ3 U3 acc ws Fa, Sta X.ev B3 H3 (wipe σ vs) ρ3 U3 ∧ (∀ a o, B1 a = some o → B3 a = some o) ∧ H3 Dd = some (.lst ws) ∧ Owns X.ev B3 H3 ws acc Fa ∧ Sep B3 (Dd :: Fa) U3 ∧ Step B H U B3 H3 (U3 ++ (Dd :: Fa)) ∧ lcL g mc m vs (items.drop (i + 1)) acc ρ3 = .ok dsF ρF,
    fun H3 ⟨B3, ρ3, U3, acc3, ws3, Fa3, h1, h2, h3, h4, h5, h6, h7⟩ => ⟨_, ?_, B3, ρ3, U3, acc3, ws3, Fa3, rfl, by omega, h1, h2, h3, h4, h5, h6, h7⟩, fun x H3 hy => ?_⟩
  · rw [en]; omega
  obtain ⟨B3, ox, stp⟩ := it.yld i H2 x H3 items[i] B2 hb12 s2.sub (List.getElem?_eq_getElem hil) hy
  have s3 := s2.stepN stp
  have thL : ∀ a ∈ Dd :: Fa, H2 a ≠ none := fun a z => by
    rcases List.mem_cons.mp z with rfl | z
    · rw [e2]; simp
    · exact o2.there a z
  have sp3 : Sep B3 (Dd :: Fa) U2 := sp2.step thL (stp.none_of (U := U2))
  have o3 := o2.step stp fun _ _ h => absurd h (by simp)
  have e3 : H3 Dd = some (.lst ws) := by rw [stp.keep Dd (by rw [e2]; simp) (by simp)]; exact e2
  rw [List.drop_eq_getElem_cons hil] at l2
  unfold lcL at l2
  refine ⟨B3, ρ2, U2, items[i], [], s3, ox, Sep.nil, ?_⟩
  cases hgx : g items[i] ρ2 with
  | none => simp only [hgx] at l2; cases l2
  | some ρ3 =>
  simp only [hgx] at l2
  intro σ4 U4 s4 sub4 kp4 len4
  have hw : wipe σ4 vs = wipe σ vs := by
    have a1 : wipe σ4 vs = wipe (wipe σ vs) vs := wipe_eq len4 fun j hj => by
      by_cases hjn : j < N.length
      · exact kp4 j (hkp j hjn hj)
      · rw [List.getElem?_eq_none (by rw [len4, wipe_length, hlen]; omega), List.getElem?_eq_none (by rw [wipe_length, hlen]; omega)]
    rw [a1]
    exact wipe_eq (wipe_length σ vs) fun j hj => wipe_get hj
  have u42 : ∀ a ∈ U4, a ∈ U2 := fun a z => by
    rcases sub4 a z with y | y
    · exact y
    · simp at y
  refine ⟨hw, B3, ρ3, U4, s4, ?_⟩
  have back : ∀ {ρ5 : Rho} {B6 H6 : Hp} {U6 F6 : List Addr} {ws' : List V} {acc' : List D}, Sta X.ev B6 H6 σ4 ρ5 U6 → Step B3 H3 U4 B6 H6 U6 → Sep B6 F6 U6 → (∀ a ∈ F6, a ∈ U4 ∨ H3 a = none) → (∀ a ∈ F6, H6 a ≠ none) → Owns X.ev B6 H6 ws' acc' (Fa ++ F6) → ∀ (H7 : Hp), H7 = upd H6 Dd (.lst ws') → lcL g mc m vs (items.drop (i + 1)) acc' (wipeR ρ5 vs) = .ok dsF ρF →
      ∃ B3 ρ3 U3 acc ws Fa, Sta X.ev B3 H7 (wipe σ vs) ρ3 U3 ∧ (∀ a o, B1 a = some o → B3 a = some o) ∧ H7 Dd = some (.lst ws) ∧ Owns X.ev B3 H7 ws acc Fa ∧ Sep B3 (Dd :: Fa) U3 ∧ Step B H U B3 H7 (U3 ++ (Dd :: Fa)) ∧ lcL g mc m vs (items.drop (i + 1)) acc ρ3 = .ok dsF ρF := by
    intro ρ5 B6 H6 U6 F6 ws' acc' s6 t36 sp6 new6 th6 o6 H7 e7 l7
    have spL : Sep B6 (Dd :: Fa) U6 := (sp3.mono u42).step (fun a z => by rw [stp.keep a (thL a z) (by simp)]; exact thL a z) t36
    have dF6 : ∀ a ∈ Dd :: Fa, a ∉ F6 := fun a z y => by
      rcases new6 a y with w | w
      · exact (sp3.mono u42).dj a z w
      · rw [stp.keep a (thL a z) (by simp)] at w; exact thL a z w
    have spA : Sep B6 (Dd :: (Fa ++ F6)) U6 := by
      have nd1 := spL.nd
      refine ⟨?_, fun a z => ?_, fun a z => ?_⟩
      · rw [← List.cons_append]
        exact List.nodup_append.mpr ⟨nd1, sp6.nd, fun a x b y e => by subst e; exact dF6 a x y⟩
      · rw [← List.cons_append] at z
        rcases List.mem_append.mp z with z | z
        · exact spL.dj a z
        · exact sp6.dj a z
      · rw [← List.cons_append] at z
        rcases List.mem_append.mp z with z | z
        · exact spL.off a z
        · exact sp6.off a z
    have hDn : Dd ∉ Fa ++ F6 := (List.nodup_cons.mp spA.nd).1
    have t6 : Step B H U B6 H6 (U6 ++ (Dd :: (Fa ++ F6))) := by
      have a3 : Step B2 H2 (U2 ++ (Dd :: Fa)) B3 H3 (U2 ++ (Dd :: Fa)) := stp.none_of
      have a4 : Step B3 H3 (U2 ++ (Dd :: Fa)) B6 H6 (U6 ++ (Dd :: (Fa ++ F6))) := t36.weak (fun a z => by simp [u42 a z]) fun a z => by
        rcases List.mem_append.mp z with z | z
        · exact .inl z
        · rw [← List.cons_append] at z
          rcases List.mem_append.mp z with z | z
          · exact .inr (.inl (List.mem_append.mpr (.inr z)))
          · rcases new6 a z with w | w
            · exact .inr (.inl (by simp [u42 a w]))
            · exact .inr (.inr w)
      exact (t2.trans a3).trans a4
    obtain ⟨U7, s7, sub7⟩ := (s6.step (upd_step (o := .lst ws') (U := [Dd]) (U' := []) s6.sub (spA.off Dd (by simp)) (by simp) (by simp)) fun a z y => by
      simp at y; subst y; exact spA.dj a (by simp) z).unwiped (σ0 := σ) vs (by rw [len4, wipe_length]) hw
    subst e7
    refine ⟨B6, wipeR ρ5 vs, U7, acc', ws', Fa ++ F6, s7, fun a o h => t36.bs a o (stp.bs a o (hb12 a o h)), upd_same, o6.mono (fun _ _ h => h) fun a z => by rw [upd_ne (fun y => hDn (by rw [← y]; exact z))], spA.mono sub7, ?_, l7⟩
    exact (t6.trans (upd_step (U := U6 ++ (Dd :: (Fa ++ F6))) (U' := U7 ++ (Dd :: (Fa ++ F6))) s6.sub (spA.off Dd (by simp)) (by simp) fun a z => by
      rcases List.mem_append.mp z with z | z
      · exact List.mem_append.mpr (.inl (sub7 a z))
      · exact List.mem_append.mpr (.inr z)))
  cases hmc : mc ρ3 with
  | exc x ρ4 => simp only [hmc] at l2; cases l2
  | stuck => simp only [hmc] at l2; cases l2
  | ok b ρ4 =>
  simp only [hmc] at l2
  intro B5 H5 U5 q
  cases b with
  | false =>
    simp only [Bool.false_eq_true, if_false] at l2 ⊢
    have dD5 : H5 Dd = some (.lst ws) := by rw [q.step.keep Dd (by rw [e3]; simp) fun z => sp3.dj Dd (by simp) (u42 _ z)]; exact e3
    refine back q.st q.step Sep.nil (fun _ h => absurd h (by simp)) (fun _ h => absurd h (by simp)) (by
      rw [List.append_nil]; exact o3.step q.step fun a z y => sp3.dj a (by simp [z]) (u42 a y)) H5 ?_ l2
    funext a
    by_cases h : a = Dd
    · subst h; rw [upd_same]; exact dD5
    · rw [upd_ne h]
  | true =>
  simp only [if_true] at l2 ⊢
  refine ⟨B5, ρ4, U5, q.st, ?_⟩
  cases hme : m ρ4 with
  | exc x ρ5 => simp only [hme] at l2; cases l2
  | stuck => simp only [hme] at l2; cases l2
  | ok d ρ5 =>
  simp only [hme] at l2
  intro y B6 H6 U6 F6 q6
  have qq := q.comb2 q6
  obtain ⟨sp6, new6⟩ := qq.sep rfl
  have nU4 : ∀ a ∈ Dd :: Fa, a ∉ U4 := fun a z w => sp3.dj a z (u42 a w)
  have thL3 : ∀ a ∈ Dd :: Fa, H3 a ≠ none := fun a z => by rw [stp.keep a (thL a z) (by simp)]; exact thL a z
  have e6 : H6 Dd = some (.lst ws) := by rw [qq.step.keep Dd (thL3 Dd (by simp)) (nU4 Dd (by simp))]; exact e3
  have o6 := o3.step qq.step fun a z => nU4 a (by simp [z])
  by_cases hlen : acc.length < 16777216
  case neg => rw [if_neg hlen] at l2; cases l2
  rw [if_pos hlen] at l2
  refine ⟨ws, e6, by rw [o6.len]; exact Nat.lt_of_lt_of_le hlen (by decide), ?_⟩
  have oy : Owns X.ev B6 H6 (ws ++ [y]) (acc ++ [d]) (Fa ++ F6) := by
    have := o6.append (.cons q6.own .nil)
    simpa using this
  exact back qq.st qq.step sp6 new6 (fun a z => Own.there q6.own a z) oy _ rfl l2
theorem blk_ev {s : Shared} {H : Hp} {scope : Scope} {cenv : Env} {fp : List Addr} (hc : X.calm = true) : (X.blk s H scope cenv fp).ev = X.ev := by
  show (⟨X.mg, X.K, cond X.calm none _⟩ : Ev) = ⟨X.mg, X.K, cond X.calm none _⟩
  rw [hc]; rfl
theorem blk_g {s : Shared} {H : Hp} {scope : Scope} {cenv : Env} {fp : List Addr} (hc : X.calm = true) (h : PDG (X.blk s H scope cenv fp) kp tg g) : PG (X.blk s H scope cenv fp) tg (tG X.ev kp g) := by
  rw [← blk_ev (s := s) (H := H) (scope := scope) (cenv := cenv) (fp := fp) hc]; exact h
theorem blk_t {s : Shared} {H : Hp} {scope : Scope} {cenv : Env} {fp : List Addr} (hc : X.calm = true) (h : PDTs (X.blk s H scope cenv fp) W0 ifs mc) : PTs (X.blk s H scope cenv fp) ifs (tT X.ev W0 true mc) := by
  rw [← blk_ev (s := s) (H := H) (scope := scope) (cenv := cenv) (fp := fp) hc]; exact h
theorem blk_e {s : Shared} {H : Hp} {scope : Scope} {cenv : Env} {fp : List Addr} (hc : X.calm = true) (h : PD (X.blk s H scope cenv fp) W0 true true elt m) : PE (X.blk s H scope cenv fp) elt (tE X.ev W0 true true m) := by
  rw [← blk_ev (s := s) (H := H) (scope := scope) (cenv := cenv) (fp := fp) hc]; exact h
theorem d_lc {scope : Scope} {own : List (Str × Nat)} {vs : List Nat} (hc : X.calm = true) (hN : X.N.Nodup) (hi : PDI X W tg iter mi) (ok : BlkOk X.N X.env.scope scope own) (hv : own.map (·.2) = vs) (hkp : ∀ i, i < X.N.length → i ∉ vs → i ∈ kp)
    (hg : ∀ (s : Shared) (H : Hp) (C : Addr) (cl : List (Str × Addr)) (fp : List Addr), PDG (X.blk s H scope (compEnvC scope cl C X.env) fp) kp tg g)
    (ht : ∀ (s : Shared) (H : Hp) (C : Addr) (cl : List (Str × Addr)) (fp : List Addr), PDTs (X.blk s H scope (compEnvC scope cl C X.env) fp) W0 ifs mc)
    (he : ∀ (s : Shared) (H : Hp) (C : Addr) (cl : List (Str × Addr)) (fp : List Addr), PD (X.blk s H scope (compEnvC scope cl C X.env) fp) W0 true true elt m)
    (hs : ∀ x, foldedSetIterable iter X.env x = pure x := by intro _; rfl) : PD X W true true (.ListComp elt [⟨tg, iter, ifs, 0⟩] scope pos) (eLc g mi mc m vs) := by
  have hpe := pe_lc (pos := pos) (g := tG X.ev kp g) (tt := tT X.ev W0 true mc) (te := tE X.ev W0 true true m) hc hN hi ok (fun s H C cl fp => blk_g hc (hg s H C cl fp)) (fun s H C cl fp => blk_t hc (ht s H C cl fp)) (fun s H C cl fp => blk_e hc (he s H C cl fp)) hs
  rw [hv] at hpe
  exact ⟨fun pins s σ H Q I h => hpe.run pins s σ H Q I (lc_read I.len hkp h)⟩
/-- name = [..], on one row -/
theorem s_setLc {i : Nat} {y : Str} {py spos : Pos} {kq : List Nat} {scope : Scope} {own : List (Str × Nat)} {vs : List Nat} (hc : X.calm = true) (hN : X.N.Nodup) (hi : PDI X W tg iter mi) (ok : BlkOk X.N X.env.scope scope own) (hv : own.map (·.2) = vs) (hkp : ∀ i, i < X.N.length → i ∉ vs → i ∈ kp)
    (hg : ∀ (s : Shared) (H : Hp) (C : Addr) (cl : List (Str × Addr)) (fp : List Addr), PDG (X.blk s H scope (compEnvC scope cl C X.env) fp) kp tg g)
    (ht : ∀ (s : Shared) (H : Hp) (C : Addr) (cl : List (Str × Addr)) (fp : List Addr), PDTs (X.blk s H scope (compEnvC scope cl C X.env) fp) W0 ifs mc)
    (he : ∀ (s : Shared) (H : Hp) (C : Addr) (cl : List (Str × Addr)) (fp : List Addr), PD (X.blk s H scope (compEnvC scope cl C X.env) fp) W0 true true elt m)
    (hy : X.N[i]? = some y := by rfl) (hyl : X.env.scope.names.lookup y = some .local := by rfl) (hsw : swapsWith (.ListComp elt [⟨tg, iter, ifs, 0⟩] scope pos) (some (.Name y py)) spos.line X.env = pure true := by first | exact sw_true rfl rfl rfl (by decide +kernel) | rfl)
    (hk : i ∉ kq := by decide) (hs : ∀ x, foldedSetIterable iter X.env x = pure x := by intro _; rfl) : PDS X W kq (.Assign [.Name y py] (.ListComp elt [⟨tg, iter, ifs, 0⟩] scope pos) spos) (sSet i (eLc g mi mc m vs)) := by
  have hps := ps_setLc (i := i) (g := tG X.ev kp g) (tt := tT X.ev W0 true mc) (te := tE X.ev W0 true true m) hc hN hy hyl hsw hi ok (fun s H C cl fp => blk_g hc (hg s H C cl fp)) (fun s H C cl fp => blk_t hc (ht s H C cl fp)) (fun s H C cl fp => blk_e hc (he s H C cl fp)) hs
  rw [hv] at hps
  refine ⟨fun pins s σ H D I ⟨B, ρ, U, st, k⟩ => hps.run pins s σ H D I (lc_read I.len hkp ⟨B, ρ, U, st, ?_⟩)⟩
  dsimp only [sSet] at k
  cases hm : eLc g mi mc m vs ρ with
  | ok d ρ1 =>
    rw [hm] at k
    intro v B1 H1 U1 F p
    obtain ⟨U2, q⟩ := put_slot p hk
    exact k _ B1 H1 U2 q
  | exc x ρ1 => rw [hm] at k; exact excS.toW k
  | stuck => rw [hm] at k; exact k
end
end Eng
/-! Eng14: lists changed; built-ins; methods of texts. -/
namespace Eng
open PySem PySem.Spec PyProof.Rows L2

/-! ### what a slot's list does -/
def lstAt (i : Nat) (ρ : Rho) : Option (List D) := match ρ[i]? with
  | some (some (.lst true xs)) => some xs
  | _ => none
def eApp (i : Nat) (m : M D) : M D := fun ρ0 => match lstAt i ρ0 with
  | some _ => mBind m (fun d ρ => match lstAt i ρ with
    | some xs => if xs.length < 16777216 then .ok .non (ρ.set i (some (.lst true (xs ++ [d])))) else .stuck
    | none => .stuck) ρ0
  | none => .stuck
def ePop (i : Nat) : M D := fun ρ => match lstAt i ρ with
  | some xs => (match xs[xs.length - 1]? with
    | some y => .ok y (ρ.set i (some (.lst true xs.dropLast)))
    | none => .stuck)
  | none => .stuck
def setIx (i : Nat) (d k : D) (ρ : Rho) : Out := match k, lstAt i ρ with
  | .int k, some xs => (match ixN xs.length k with
    | some j => .nx (ρ.set i (some (.lst true (xs.set j d))))
    | none => .stuck)
  | _, _ => .stuck
def sSetIx (i : Nat) (mi mv : M D) : MS := fun ρ => match lstAt i ρ with
  | some _ => ofRes (mv ρ) fun d ρ1 => ofRes (mi ρ1) fun k ρ2 => setIx i d k ρ2
  | none => .stuck
section
variable {mg : Ev} {B H : Hp} {vs : List V} {ds : List D} {F : List Addr}
theorem lstAt_some {i : Nat} {ρ : Rho} {xs : List D} (h : lstAt i ρ = some xs) : ρ[i]? = some (some (.lst true xs)) := by
  unfold lstAt at h
  split at h
  · rename_i e; cases h; exact e
  · cases h
theorem own_lstO {v : V} {xs : List D} (hs : ∀ a u, B a = some u → H a = some u) (h : Own mg B H v (.lst true xs) F) : ∃ a vs G, v = .ref a ∧ H a = some (.lst vs) ∧ Owns mg B H vs xs G ∧ F = a :: G := by
  obtain ⟨a, vs, G, e, h1, h2, _, h3⟩ := own_lst hs h
  exact ⟨a, vs, G, e, h1, h2, h3 rfl⟩
theorem Owns.dropLast (o : Owns mg B H vs ds F) : ∃ F1 F2, Owns mg B H vs.dropLast ds.dropLast F1 ∧ F = F1 ++ F2 ∧ ∀ v d, vs[vs.length - 1]? = some v → ds[ds.length - 1]? = some d → Own mg B H v d F2 := by
  obtain ⟨F1, F2, o1, o2, e⟩ := o.take (ds.length - 1)
  refine ⟨F1, F2, ?_, e, fun v d hv hd => ?_⟩
  · rw [List.dropLast_eq_take, List.dropLast_eq_take, o.len]; exact o1
  · have hd' : ds.length - 1 < ds.length := (List.getElem?_eq_some_iff.mp hd).1
    rw [List.drop_eq_getElem_cons (by rw [o.len]; exact hd'), List.drop_eq_getElem_cons hd'] at o2
    rw [o.len] at hv
    have e1 : vs[ds.length - 1]'(by rw [o.len]; exact hd') = v := by
      have := List.getElem?_eq_some_iff.mp hv; exact this.2
    have e2 : ds[ds.length - 1] = d := (List.getElem?_eq_some_iff.mp hd).2
    have nv : vs.drop (ds.length - 1 + 1) = [] := List.drop_eq_nil_of_le (by rw [o.len]; omega)
    have nd : ds.drop (ds.length - 1 + 1) = [] := List.drop_eq_nil_of_le (by omega)
    rw [e1, e2, nv, nd] at o2
    cases o2 with
    | cons a b => cases b; simpa using a
theorem Owns.set {v : V} {d : D} {G : List Addr} (h : Own mg B H v d G) : ∀ {vs ds F} (j : Nat), Owns mg B H vs ds F → j < ds.length → ∃ F1 F2 F3, F = F1 ++ (F2 ++ F3) ∧ Owns mg B H (vs.set j v) (ds.set j d) (F1 ++ (G ++ F3))
  | _, _, _, _, .nil, hj => by simp at hj
  | _, _, _, 0, .cons (F := F) (G := G') a b, hj => ⟨[], F, G', rfl, by rw [List.nil_append]; exact .cons h b⟩
  | _, _, _, j + 1, .cons (F := F) (G := G') a b, hj => by
    obtain ⟨F1, F2, F3, e, o⟩ := Owns.set h j b (by simpa using hj)
    exact ⟨F ++ F1, F2, F3, by rw [e]; simp, by rw [List.append_assoc]; exact .cons a o⟩
end
section
variable {X : Cx} {W : WX} {kp : List Nat} {alt sep a1 a2 s1 s2 : Bool} {pos apos cpos ap2 : Pos} {e ea eb : Expr} {m ma mb : M D} {x : Str}
theorem Post.unitL {mg : Ev} {alt sep : Bool} {B H B' H' : Hp} {σ : L2.St} {ρ ρ' : Rho} {U U' F : List Addr} {r : Rel mg} (p : Post mg alt sep B H σ ρ U ρ' r B' H' U' F) : Post mg alt true B H σ ρ U ρ' (oN mg) B' H' U' [] :=
  ⟨p.st, rfl, fun _ => ⟨Sep.nil, fun _ h => absurd h (by simp)⟩, p.step, p.alt⟩
theorem Post.start {mg : Ev} {B H : Hp} {σ : L2.St} {ρ : Rho} {U : List Addr} (s : Sta mg B H σ ρ U) : Post mg false true B H σ ρ U ρ (oN mg) B H U [] :=
  ⟨s, rfl, fun _ => ⟨Sep.nil, fun _ h => absurd h (by simp)⟩, Step.refl s.sub, fun _ => ⟨rfl, rfl, Step.refl s.sub⟩⟩
theorem slot_list {mg : Ev} {B H : Hp} {σ : L2.St} {ρ : Rho} {U : List Addr} {i : Nat} {xs : List D} {K : PySem.W.Frag} (st : Sta mg B H σ ρ U) (h : lstAt i ρ = some xs) : ∃ a vs G, σ[i]? = some (some (.ref a)) ∧ H a = some (.lst vs) ∧ tyV K "list" (.ref a) H ∧ Owns mg B H vs xs G := by
  obtain ⟨v, F, U', e, o, _⟩ := st.take (lstAt_some h)
  obtain ⟨a, vs, G, rfl, h1, t, _⟩ := own_lstO st.sub o
  exact ⟨a, vs, G, e, h1, .inl ⟨rfl, vs, .inl (.inl h1)⟩, t⟩
/-- x.append(e) -/
theorem d_app (i : Nat) (hp : PE X (.Call (.Attribute (.Name x pos) "append" apos) [e] [] cpos) (tBM X.K "list" rAppend (tVar i) (tCons (tE X.ev W alt true m) tNil))) : PD X W true true (.Call (.Attribute (.Name x pos) "append" apos) [e] [] cpos) (eApp i m) :=
  PE.weak hp fun σ H Q ⟨B, ρ, U, st, k⟩ => by
    dsimp only [eApp] at k
    cases hl0 : lstAt i ρ with
    | none => rw [hl0] at k; exact k.elim
    | some xs0 =>
    rw [hl0] at k
    obtain ⟨a, vs0, _, e0, h0, ty, _⟩ := slot_list (K := X.K) st hl0
    refine ⟨_, e0, ty, B, ρ, U, st, ?_⟩
    dsimp only [mBind] at k
    cases hm : m ρ with
    | exc x ρ1 => rw [hm] at k; exact k
    | stuck => rw [hm] at k; exact k
    | ok d ρ1 =>
    rw [hm] at k
    intro v B1 H1 U1 F p
    dsimp only [Res.bind] at k
    cases hl : lstAt i ρ1 with
    | none => rw [hl] at k; exact k.elim
    | some xs =>
    rw [hl] at k
    dsimp only at k
    by_cases hz : xs.length < 16777216
    case neg => rw [if_neg hz] at k; exact k.elim
    rw [if_pos hz] at k
    obtain ⟨v0, G, e1, o1, ndG, gF, fG, offG, mu⟩ := mut_slot p (lstAt_some hl)
    rw [e0] at e1; cases e1
    obtain ⟨a', vs, G', ea, h1, t1, rfl⟩ := own_lstO p.st.sub o1
    cases ea
    have hn := List.nodup_cons.mp ndG
    have nF : (G' ++ F).Nodup := List.nodup_append.mpr ⟨hn.2, (p.sep rfl).1.nd, fun x hx y hy e => gF x (by simp [hx]) (by rw [e]; exact hy)⟩
    have nA : a ∉ G' ++ F := fun z => by
      rcases List.mem_append.mp z with z | z
      · exact hn.1 z
      · exact gF a (by simp) z
    obtain ⟨U2, q⟩ := mu (upd H1 a (.lst (vs ++ [v]))) (.lst true (xs ++ [d])) (a :: (G' ++ F)) .non .non [] (fun x hx => upd_ne fun z => hx (by simp [z]))
      (.own (A := [a]) rfl ⟨upd_same, rfl⟩ (by
        have t2 := t1.append (.cons p.own .nil)
        rw [List.append_nil] at t2
        exact t2.mono (fun _ _ h => h) fun x hx => upd_ne fun z => nA (by rw [← z]; exact hx)))
      (.atom trivial) (fun x hx => by
        rw [List.append_nil] at hx
        rcases List.mem_cons.mp hx with rfl | hx
        · exact .inl (by simp)
        · rcases List.mem_append.mp hx with z | z
          · exact .inl (by simp [z])
          · exact .inr z) (by rw [List.append_nil]; exact List.nodup_cons.mpr ⟨nA, nF⟩)
    exact ⟨a, vs, v, rfl, rfl, h1, by rw [t1.len]; exact Nat.lt_of_lt_of_le hz (by decide), k _ B1 _ U2 [] q⟩
/-- x.pop() -/
theorem d_pop (i : Nat) (hp : PE X (.Call (.Attribute (.Name x pos) "pop" apos) [] [] cpos) (tBM0 X.K "list" rPop (tVar i))) : PD X W true true (.Call (.Attribute (.Name x pos) "pop" apos) [] [] cpos) (ePop i) :=
  PE.weak hp fun σ H Q ⟨B, ρ, U, st, k⟩ => by
    dsimp only [ePop] at k
    cases hl : lstAt i ρ with
    | none => rw [hl] at k; exact k.elim
    | some xs =>
    rw [hl] at k
    dsimp only at k
    cases hy : xs[xs.length - 1]? with
    | none => rw [hy] at k; exact k.elim
    | some y =>
    rw [hy] at k
    obtain ⟨v0, G, e1, o1, ndG, gF, fG, offG, mu⟩ := mut_slot (Post.start st) (lstAt_some hl)
    obtain ⟨a, vs, G', rfl, h1, t1, rfl⟩ := own_lstO st.sub o1
    obtain ⟨F1, F2, o2, e2, o3⟩ := t1.dropLast
    have hlt : xs.length - 1 < xs.length := (List.getElem?_eq_some_iff.mp hy).1
    obtain ⟨w, hw⟩ : ∃ w, vs[vs.length - 1]? = some w := ⟨_, List.getElem?_eq_getElem (by rw [t1.len]; exact hlt)⟩
    have ow := o3 w y hw hy
    have hn := List.nodup_cons.mp ndG
    rw [e2] at hn
    have n2 := List.nodup_append.mp hn.2
    obtain ⟨U2, q⟩ := mu (upd H a (.lst vs.dropLast)) (.lst true xs.dropLast) (a :: F1) w y F2 (fun x hx => upd_ne fun z => hx (by simp [z]))
      (.own (A := [a]) rfl ⟨upd_same, rfl⟩ (o2.mono (fun _ _ h => h) fun x hx => upd_ne fun z => hn.1 (by rw [← z]; simp [hx])))
      (ow.mono (fun _ _ h => h) fun x hx => upd_ne fun z => hn.1 (by rw [← z]; simp [hx]))
      (fun x hx => .inl (by rw [e2]; simp at hx ⊢; rcases hx with h | h | h <;> simp [h])) (by
        rw [List.cons_append]; exact List.nodup_cons.mpr ⟨hn.1, hn.2⟩)
    exact ⟨_, e1, .inl ⟨rfl, vs, .inl (.inl h1)⟩, a, vs, w, rfl, rfl, h1, hw, k _ B _ U2 F2 q⟩
/-- x[e] = v -/
theorem s_setIx (i : Nat) (hp : PS X (.Assign [.Subscript (.Name x pos) eb apos] ea cpos) (tAsg (tE X.ev W a1 true ma) (gSub (tVar i) (tE X.ev W a2 s2 mb) rSetL))) : PDS X W kp (.Assign [.Subscript (.Name x pos) eb apos] ea cpos) (sSetIx i mb ma) :=
  PS.weak hp fun D σ H ⟨B, ρ, U, st, k⟩ => by
    refine ⟨B, ρ, U, st, ?_⟩
    dsimp only [sSetIx] at k
    cases hl0 : lstAt i ρ with
    | none => rw [hl0] at k; exact k.elim
    | some xs0 =>
    rw [hl0] at k
    obtain ⟨a, vs0, _, e0, h0, ty, _⟩ := slot_list (K := X.K) st hl0
    dsimp only at k
    cases hm : ma ρ with
    | exc x ρ1 => rw [hm] at k; exact excS.toW k
    | stuck => rw [hm] at k; exact k
    | ok d ρ1 =>
    rw [hm] at k
    intro v B1 H1 U1 F p
    dsimp only [ofRes] at k
    refine ⟨_, e0, B1, ρ1, U1, p.st, ?_⟩
    cases hm2 : mb ρ1 with
    | exc x ρ2 => rw [hm2] at k; exact (excS.toW k).back p.step
    | stuck => rw [hm2] at k; exact k
    | ok kd ρ2 =>
    rw [hm2] at k
    intro vk B2 H2 U2 F2 q
    dsimp only [setIx] at k
    have pq := p.comb1 q (.inr rfl)
    cases kd with
    | int j0 =>
      obtain ⟨rfl, rfl⟩ := own_int q.own
      cases hl : lstAt i ρ2 with
      | none => rw [hl] at k; exact k.elim
      | some xs =>
      rw [hl] at k
      dsimp only at k
      cases hj : ixN xs.length j0 with
      | none => rw [hj] at k; exact k.elim
      | some j =>
      rw [hj] at k
      obtain ⟨v0, G, e1, o1, ndG, gF, fG, offG, mu⟩ := mut_slot pq (lstAt_some hl)
      rw [e0] at e1; cases e1
      obtain ⟨a', vs, G', ea, h1, t1, rfl⟩ := own_lstO pq.st.sub o1
      cases ea
      have hjl : j < xs.length := (ixN_seq hj).2.1
      obtain ⟨F1, Fo, F3, eG, o2⟩ := Owns.set pq.own j t1 hjl
      have hn := List.nodup_cons.mp ndG
      have sub : ∀ x, x ∈ F1 ++ (F ++ F3) → x ∈ G' ∨ x ∈ F := fun x hx => by
        rw [eG]; simp at hx ⊢; rcases hx with h | h | h <;> simp [h]
      have nA : a ∉ F1 ++ (F ++ F3) := fun z => by
        rcases sub a z with z | z
        · exact hn.1 z
        · exact gF a (by simp) z
      have nF : (F1 ++ (F ++ F3)).Nodup := by
        rw [eG] at hn
        have n1 := List.nodup_append.mp hn.2
        have n2 := List.nodup_append.mp n1.2.1
        have inG : ∀ x, x ∈ F1 ∨ x ∈ F3 → x ∈ a :: G' := fun x h => by rw [eG]; rcases h with h | h <;> simp [h]
        refine List.nodup_append.mpr ⟨n1.1, List.nodup_append.mpr ⟨(pq.sep rfl).1.nd, n2.2.1, fun x hx y hy e => gF x (inG x (.inr (by rw [e]; exact hy))) hx⟩, fun x hx y hy e => ?_⟩
        subst e
        rcases List.mem_append.mp hy with z | z
        · exact gF x (inG x (.inl hx)) z
        · exact n1.2.2 x hx x (by simp [z]) rfl
      obtain ⟨U3, q3⟩ := mu (upd H2 a (.lst (vs.set j v))) (.lst true (xs.set j d)) (a :: (F1 ++ (F ++ F3))) .non .non [] (fun x hx => upd_ne fun z => hx (by simp [z]))
        (.own (A := [a]) rfl ⟨upd_same, rfl⟩ (o2.mono (fun _ _ h => h) fun x hx => upd_ne fun z => nA (by rw [← z]; exact hx)))
        (.atom trivial) (fun x hx => by
          rw [List.append_nil] at hx
          rcases List.mem_cons.mp hx with rfl | hx
          · exact .inl (by simp)
          · rcases sub x hx with z | z
            · exact .inl (by simp [z])
            · exact .inr z) (by rw [List.append_nil]; exact List.nodup_cons.mpr ⟨nA, nF⟩)
      refine ⟨a, vs, j0, j, rfl, rfl, h1, by rw [t1.len]; exact hj, k σ B2 _ U3 ⟨q3.st, q3.step, fun _ _ => rfl⟩⟩
    | _ => cases hl : lstAt i ρ2 <;> rw [hl] at k <;> exact k.elim
end
end Eng
/-! Eng15: built-ins and methods of texts. -/
namespace Eng
open PySem PySem.Spec PyProof.Rows L2

/-! ### texts -/
def sw1 (c : Nat) : Nat := if 65 ≤ c ∧ c ≤ 90 then c + 32 else if 97 ≤ c ∧ c ≤ 122 then c - 32 else c
theorem sw_ascii : ∀ c, c < 128 → (if Unicode.isUpper c then Unicode.lowerOf c else if Unicode.isLower c then Unicode.upperOf c else [c]) = [sw1 c] := by decide +kernel
theorem S_map (f : Nat → Nat) (s : List Nat) : (⟨(S s).cps.map f⟩ : Str) = S (s.map f) := by simp [S]
theorem swap_S {s : List Nat} (h : s.all (· < 128) = true) : Txt.swapcase (S s) = S (s.map sw1) := by
  rw [← S_map]
  unfold Txt.swapcase
  rw [placed_single (S s) _ sw1 fun i c hc => ?_]
  rw [S_list] at hc
  have hlt : c < 128 := of_decide_eq_true (List.all_eq_true.mp h c (List.mem_of_getElem? hc))
  have e : Unicode.lowerAt (S s).cps i = Unicode.lowerOf c := by
    unfold Unicode.lowerAt
    have : (S s).cps[i]? = some c := by simp [S]; exact hc
    rw [this]
    have n : (c == 0x3A3) = false := beq_eq_false_iff_ne.mpr (by omega)
    simp only [n, Bool.false_and, Bool.false_eq_true, if_false]
  rw [e]
  exact sw_ascii c hlt
theorem upper_S {s : List Nat} (h : s.all (· < 128) = true) : Txt.upper (S s) = S (s.map up1) := by
  rw [upper_ascii (fun c hc => by rw [S_list] at hc; exact of_decide_eq_true (List.all_eq_true.mp h c hc)), S_map]
theorem lower_S {s : List Nat} (h : s.all (· < 128) = true) : Txt.lower (S s) = S (s.map lo1) := by
  rw [lower_ascii (fun c hc => by rw [S_list] at hc; exact of_decide_eq_true (List.all_eq_true.mp h c hc)), S_map]
def isUp (c : Nat) : Bool := decide (65 ≤ c ∧ c ≤ 90)
def isLo (c : Nat) : Bool := decide (97 ≤ c ∧ c ≤ 122)
theorem isUp_ascii : ∀ c, c < 128 → Unicode.isUpper c = isUp c ∧ Unicode.isLower c = isLo c ∧ Unicode.isTitle c = false := by decide +kernel
theorem any_congr {α : Type} {p q : α → Bool} : ∀ {l : List α}, (∀ x ∈ l, p x = q x) → l.any p = l.any q
  | [], _ => rfl
  | x :: l, h => by rw [List.any_cons, List.any_cons, h x (by simp), any_congr fun y hy => h y (by simp [hy])]
def isLowS (s : List Nat) : Bool := s.any isLo && !s.any isUp
theorem islower_S {s : List Nat} (h : s.all (· < 128) = true) : Txt.islower (S s) = isLowS s := by
  have hh : ∀ c ∈ s, c < 128 := fun c hc => of_decide_eq_true (List.all_eq_true.mp h c hc)
  unfold Txt.islower isLowS
  have e1 : s.any Unicode.isLower = s.any isLo := any_congr fun c hc => (isUp_ascii c (hh c hc)).2.1
  have e2 : (s.any fun c => Unicode.isUpper c || Unicode.isTitle c) = s.any isUp := any_congr fun c hc => by
    obtain ⟨a, _, b⟩ := isUp_ascii c (hh c hc)
    rw [a, b, Bool.or_false]
  rw [← Array.any_toList, ← Array.any_toList, S_list, e1, e2]
def strM (f : List Nat → List D → Option D) : D → List D → Option D := fun d ds => match d with
  | .str s => f s ds
  | _ => none
def swapM : List Nat → List D → Option D := fun s ds => match ds with
  | [] => if s.all (· < 128) && decide (s.length ≤ 5592405) then some (.str (s.map sw1)) else none
  | _ => none
def upM : List Nat → List D → Option D := fun s ds => match ds with
  | [] => if s.all (· < 128) && decide (s.length ≤ 5592405) then some (.str (s.map up1)) else none
  | _ => none
def loM : List Nat → List D → Option D := fun s ds => match ds with
  | [] => if s.all (· < 128) && decide (s.length ≤ 5592405) then some (.str (s.map lo1)) else none
  | _ => none
def islowM : List Nat → List D → Option D := fun s ds => match ds with
  | [] => if s.all (· < 128) then some (.bl (isLowS s)) else none
  | _ => none
def findS (s t : List Nat) : Int := Txt.find (S s) (S t)
def findM : List Nat → List D → Option D := fun s ds => match ds with
  | [.str t] => some (.int (findS s t))
  | _ => none
def find3S (s t : List Nat) (i : Int) : Int := Txt.find3 (S s) (S t) i
def find2M : List Nat → List D → Option D := fun s ds => match ds with
  | [.str t, .int i] => some (.int (find3S s t i))
  | _ => none
/-- the texts of a list, if it holds nothing else -/
def strsOf : List D → Option (List (List Nat))
  | [] => some []
  | .str s :: ds => (strsOf ds).map (s :: ·)
  | _ :: _ => none
def joinL (sep : List Nat) : List (List Nat) → List Nat
  | [] => []
  | x :: xs => x ++ (xs.map fun y => sep ++ y).flatten
def joinM : List Nat → List D → Option D := fun s ds => match ds with
  | [.lst _ xs] => (match strsOf xs with
    | some ys => if (ys.map List.length).sum + ys.length * s.length ≤ 16777216 then some (.str (joinL s ys)) else none
    | none => none)
  | [.tup xs] => (match strsOf xs with
    | some ys => if (ys.map List.length).sum + ys.length * s.length ≤ 16777216 then some (.str (joinL s ys)) else none
    | none => none)
  | _ => none
theorem join_S (sep : List Nat) (ys : List (List Nat)) : Txt.join (S sep) (ys.map S) = S (joinL sep ys) := by
  show Builtin.Str.glued (S sep) (ys.map S) = _
  unfold Builtin.Str.glued
  have key : ∀ (zs : List (List Nat)) (a : List Nat), (zs.map S).foldl (fun acc p => acc ++ (S sep).cps ++ p.cps) (S a).cps = (S (a ++ (zs.map fun y => sep ++ y).flatten)).cps := by
    intro zs
    induction zs with
    | nil => intro a; simp [S]
    | cons z zs ih =>
      intro a
      rw [List.map_cons, List.foldl_cons]
      have : (S a).cps ++ (S sep).cps ++ (S z).cps = (S (a ++ (sep ++ z))).cps := by simp [S]
      rw [this, ih]
      simp [S]
  cases ys with
  | nil => simp [S, joinL, Str.empty]
  | cons x xs =>
    simp only [List.map_cons, List.drop_succ_cons, List.drop_zero, List.headD_cons]
    rw [key]
    rfl
def MtD (X : Cx) (id : String) (f : List Nat → List D → Option D) : Prop := MtR X id fun x xs H Q => ∃ B s ds G z, (∀ a o, B a = some o → H a = some o) ∧ x = .str (S s) ∧ Owns X.ev B H xs ds G ∧ f s ds = some z ∧ ∀ w B' H' K, New X.ev B H w z B' H' K → Q w H'
def eMt (f : List Nat → List D → Option D) (m : M D) (ms : M (List D)) : M D := mBind m fun d => match d with
  | .str s => mBind ms fun ds => mOpt (f s ds)
  | _ => mStuck
section
variable {X : Cx} {W : WX} {alt sep a1 a2 s1 s2 : Bool} {pos apos cpos : Pos} {e ea : Expr} {es : List Expr} {m : M D} {ms : M (List D)} {id : String} {name : Str}
theorem owns_nil {mg : Ev} {B H : Hp} {xs : List V} {G : List Addr} (h : Owns mg B H xs [] G) : xs = [] := by cases h; rfl
theorem owns_one {mg : Ev} {B H : Hp} {xs : List V} {d : D} {G : List Addr} (h : Owns mg B H xs [d] G) : ∃ v F, xs = [v] ∧ Own mg B H v d F := by
  cases h with
  | cons a b => cases b; exact ⟨_, _, rfl, a⟩
theorem owns_two {mg : Ev} {B H : Hp} {xs : List V} {d d' : D} {G : List Addr} (h : Owns mg B H xs [d, d'] G) : ∃ v v' F F', xs = [v, v'] ∧ Own mg B H v d F ∧ Own mg B H v' d' F' := by
  cases h with
  | cons a b =>
    obtain ⟨v', F', rfl, o⟩ := owns_one b
    exact ⟨_, _, _, _, rfl, a, o⟩
theorem md_swap : MtD X "str.swapcase" swapM := by
  intro pins s σ H x xs v us Q I rx rs ⟨B, t, ds, G, z, hs, ex, o, hf, q⟩
  subst ex
  unfold swapM at hf
  split at hf
  · obtain rfl := owns_nil o
    split at hf <;> cases hf
    rename_i hc
    simp only [Bool.and_eq_true, decide_eq_true_eq] at hc
    obtain ⟨tk, rfl⟩ := rx
    cases rs
    refine PySem.SC.swapcase (fit_swapcase (by rw [S_len]; exact hc.2)) ⟨.str _, H, I.tok _, ⟨_, rfl⟩, ?_⟩
    rw [swap_S hc.1]
    exact q _ B H [] (New.flat hs (.atom (S_list _)))
  · cases hf
theorem md_up : MtD X "str.upper" upM := by
  intro pins s σ H x xs v us Q I rx rs ⟨B, t, ds, G, z, hs, ex, o, hf, q⟩
  subst ex
  unfold upM at hf
  split at hf
  · obtain rfl := owns_nil o
    split at hf <;> cases hf
    rename_i hc
    simp only [Bool.and_eq_true, decide_eq_true_eq] at hc
    exact mt_upper pins s σ H _ _ v us Q I rx rs ⟨_, rfl, rfl, by rw [S_len]; exact hc.2, by rw [upper_S hc.1]; exact q _ B H [] (New.flat hs (.atom (S_list _)))⟩
  · cases hf
theorem md_lo : MtD X "str.lower" loM := by
  intro pins s σ H x xs v us Q I rx rs ⟨B, t, ds, G, z, hs, ex, o, hf, q⟩
  subst ex
  unfold loM at hf
  split at hf
  · obtain rfl := owns_nil o
    split at hf <;> cases hf
    rename_i hc
    simp only [Bool.and_eq_true, decide_eq_true_eq] at hc
    exact mt_lower pins s σ H _ _ v us Q I rx rs ⟨_, rfl, rfl, by rw [S_len]; exact hc.2, by rw [lower_S hc.1]; exact q _ B H [] (New.flat hs (.atom (S_list _)))⟩
  · cases hf
theorem md_islow : MtD X "str.islower" islowM := by
  intro pins s σ H x xs v us Q I rx rs ⟨B, t, ds, G, z, hs, ex, o, hf, q⟩
  subst ex
  unfold islowM at hf
  split at hf
  · obtain rfl := owns_nil o
    split at hf <;> cases hf
    rename_i hc
    exact mt_islower pins s σ H _ _ v us Q I rx rs ⟨_, rfl, rfl, trivial, by rw [islower_S hc]; exact q _ B H [] (New.flat hs (.atom rfl))⟩
  · cases hf
theorem md_find : MtD X "str.find" findM := by
  intro pins s σ H x xs v us Q I rx rs ⟨B, t, ds, G, z, hs, ex, o, hf, q⟩
  subst ex
  unfold findM at hf
  split at hf <;> cases hf
  obtain ⟨w, F, rfl, o1⟩ := owns_one o
  obtain ⟨rfl, _⟩ := own_str o1
  exact mt_find pins s σ H _ _ v us Q I rx rs ⟨_, _, rfl, rfl, q _ B H [] (New.flat hs (.atom rfl))⟩
theorem md_find2 : MtD X "str.find" find2M := by
  intro pins s σ H x xs v us Q I rx rs ⟨B, t, ds, G, z, hs, ex, o, hf, q⟩
  subst ex
  unfold find2M at hf
  split at hf <;> cases hf
  obtain ⟨w, w', F, F', rfl, o1, o2⟩ := owns_two o
  obtain ⟨rfl, _⟩ := own_str o1
  obtain ⟨rfl, _⟩ := own_int o2
  exact mt_find3 pins s σ H _ _ v us Q I rx rs ⟨_, _, _, rfl, rfl, q _ B H [] (New.flat hs (.atom rfl))⟩
theorem owns_strs {mg : Ev} {B H : Hp} : ∀ {vs : List V} {ds : List D} {F : List Addr} {ys : List (List Nat)}, Owns mg B H vs ds F → strsOf ds = some ys → vs = (ys.map S).map V.str
  | _, _, _, ys, .nil, h => by simp [strsOf] at h; subst h; rfl
  | _, _, _, ys, .cons (d := d) a b, h => by
    cases d with
    | str s =>
      simp only [strsOf] at h
      cases e : strsOf _ with
      | none => rw [e] at h; cases h
      | some zs =>
        rw [e] at h; cases h
        obtain ⟨rfl, _⟩ := own_str a
        rw [owns_strs b e]
        rfl
    | _ => simp [strsOf] at h
theorem md_join : MtD X "str.join" joinM := by
  intro pins s σ H x xs v us Q I rx rs ⟨B, t, ds, G, z, hs, ex, o, hf, q⟩
  subst ex
  have len : ∀ ys : List (List Nat), ((ys.map S).map (·.length)).sum = (ys.map List.length).sum := fun ys => by
    rw [List.map_map]; congr 1
  unfold joinM at hf
  split at hf
  · split at hf
    · rename_i ys hys
      split at hf <;> cases hf
      rename_i hz
      obtain ⟨w, F, rfl, o1⟩ := owns_one o
      obtain ⟨a, vs, K1, rfl, h1, h2, t1⟩ := lst_sql (K := X.K) hs o1
      have e := owns_strs t1 hys
      exact mt_join pins s σ H _ _ v us Q I rx rs ⟨_, a, ys.map S, rfl, rfl, .inl (by rw [← e]; exact h2), by rw [len, S_len, List.length_map]; exact hz, by rw [join_S]; exact q _ B H [] (New.flat hs (.atom (S_list _)))⟩
    · cases hf
  · split at hf
    · rename_i ys hys
      split at hf <;> cases hf
      rename_i hz
      obtain ⟨w, F, rfl, o1⟩ := owns_one o
      obtain ⟨a, vs, rfl, h2, t1⟩ := tup_sqt (K := X.K) hs o1
      have e := owns_strs t1 hys
      exact mt_join pins s σ H _ _ v us Q I rx rs ⟨_, a, ys.map S, rfl, rfl, .inr (by rw [← e]; exact h2), by rw [len, S_len, List.length_map]; exact hz, by rw [join_S]; exact q _ B H [] (New.flat hs (.atom (S_list _)))⟩
    · cases hf
  · cases hf
/-- s.m(..), s a text -/
theorem mt_core0 {f : List Nat → List D → Option D} {t : TE} (ht : ∀ σ H Q, tBM0 X.K "str" (fun x xs H Q => ∃ B s ds G z, (∀ a o, B a = some o → H a = some o) ∧ x = .str (S s) ∧ Owns X.ev B H xs ds G ∧ f s ds = some z ∧ ∀ w B' H' K, New X.ev B H w z B' H' K → Q w H') (tE X.ev W alt sep m) σ H Q → t σ H Q) : ∀ σ H Q, tE X.ev W alt true (eMt f m lNil) σ H Q → t σ H Q :=
  fun σ H Q ⟨B, ρ, U, st, k⟩ => by
    refine ht σ H Q ⟨B, ρ, U, st, ?_⟩
    dsimp only [eMt, mBind] at k
    cases hm : m ρ with
    | ok d ρ1 =>
      rw [hm] at k
      intro v B1 H1 U1 F p
      dsimp only [Res.bind] at k
      cases d with
      | str s =>
        obtain ⟨rfl, rfl⟩ := own_str p.own
        dsimp only [mBind, lNil, mPure, Res.bind, mOpt] at k
        refine ⟨rfl, ?_⟩
        cases hf : f s [] with
        | none => rw [hf] at k; exact k.elim
        | some z =>
          rw [hf] at k
          exact ⟨B1, s, [], [], z, p.st.sub, rfl, .nil, hf, fun w B' H' K nw => k w B' H' U1 K (p.fin nw)⟩
      | _ => exact k.elim
    | exc x ρ1 => rw [hm] at k; exact k
    | stuck => rw [hm] at k; exact k
theorem d_mt0 {f : List Nat → List D → Option D} (pa : PlainAttrs "str") (slot : Slot "str" name id) (hty : typeOf (.builtin id) = pure (.type "method_descriptor")) (hm : MtD X id f) (h : PD X W alt sep e m)
    (hbase : attributeBase e name X.env (eval e X.env) = eval e X.env := by rfl) (hline : (apos.endLine == cpos.line) = true := by rfl) : PD X W alt true (.Call (.Attribute e name apos) [] [] cpos) (eMt f m lNil) :=
  PE.weak (pe_bm0 pa slot hty hm h hbase hline) (mt_core0 fun _ _ _ h => h)
theorem d_mt {f : List Nat → List D → Option D} (hp : PE X (.Call (.Attribute e name apos) (ea :: es) [] cpos) (tBM X.K "str" (fun x xs H Q => ∃ B s ds G z, (∀ a o, B a = some o → H a = some o) ∧ x = .str (S s) ∧ Owns X.ev B H xs ds G ∧ f s ds = some z ∧ ∀ w B' H' K, New X.ev B H w z B' H' K → Q w H') (tE X.ev W a1 s1 m) (tL X.ev W a2 s2 ms))) :
    PD X W (a1 || a2) true (.Call (.Attribute e name apos) (ea :: es) [] cpos) (eMt f m ms) :=
  PE.weak hp fun σ H Q ⟨B, ρ, U, st, k⟩ => by
    refine ⟨B, ρ, U, st, ?_⟩
    dsimp only [eMt, mBind] at k
    cases hm : m ρ with
    | exc x ρ1 => rw [hm] at k; exact k
    | stuck => rw [hm] at k; exact k
    | ok d ρ1 =>
    rw [hm] at k
    intro v B1 H1 U1 F p
    dsimp only [Res.bind] at k
    cases d with
    | str s =>
      obtain ⟨rfl, rfl⟩ := own_str p.own
      dsimp only [mBind] at k
      refine ⟨rfl, B1, ρ1, U1, p.st, ?_⟩
      cases hms : ms ρ1 with
      | exc x ρ2 => rw [hms] at k; exact k.back p.step
      | stuck => rw [hms] at k; exact k
      | ok ds ρ2 =>
      rw [hms] at k
      intro vs B2 H2 U2 F2 q
      dsimp only [Res.bind, mOpt] at k
      cases hf : f s ds with
      | none => rw [hf] at k; exact k.elim
      | some z =>
        rw [hf] at k
        exact ⟨B2, s, ds, F2, z, q.st.sub, rfl, q.own, hf, fun w B' H' K nw => k w B' H' U2 K ((p.comb2 q).fin nw)⟩
    | _ => exact k.elim
end

/-! ### built-ins -/
def lenD : List D → Option D
  | [.lst _ xs] => some (.int xs.length)
  | [.tup xs] => some (.int xs.length)
  | [.str s] => if s.length ≤ 16777216 then some (.int s.length) else none
  | [.dic _ kvs] => if (kvs.map (·.1)).all isKeyD = true then some (.int kvs.length) else none
  | _ => none
def intD : List D → Option D
  | [.int i] => some (.int i)
  | [.bl b] => some (.int (if b then 1 else 0))
  | _ => none
def absD : List D → Option D
  | [.int i] => some (.int (if i < 0 then -i else i))
  | _ => none
def listD : List D → Option D
  | [.lst _ xs] => if frzs xs then some (.lst true xs) else none
  | [.tup xs] => if frzs xs then some (.lst true xs) else none
  | [.str s] => if s.length ≤ 16777216 then some (.lst true (s.map fun c => .str [c])) else none
  | _ => none
def tupleD : List D → Option D
  | [.lst _ xs] => if frzs xs then some (.tup xs) else none
  | [.tup xs] => if frzs xs then some (.tup xs) else none
  | _ => none
def tyName : D → Option String
  | .non => some "NoneType"
  | .bl _ => some "bool"
  | .int _ => some "int"
  | .str _ => some "str"
  | .lst _ _ => some "list"
  | .tup _ => some "tuple"
  | .dic _ _ => some "dict"
  | _ => none
def isiB (d : D) (n : String) : Option Bool := match tyName d with
  | some t => kitB t n
  | none => none
def isiD : List D → Option D
  | [d, .ty n] => (isiB d n).map D.bl
  | _ => none
section
variable {X : Cx}
theorem own_dic {mg : Ev} {B H : Hp} {v : V} {o : Bool} {kvs : List (D × D)} {F : List Addr} (hs : ∀ a u, B a = some u → H a = some u) (h : Own mg B H v (.dic o kvs) F) (hk : (kvs.map (·.1)).all isKeyD = true) :
    ∃ (a : Addr) (ks : List Key) (vs : List V) (G : List Addr), v = .ref a ∧ Rd H a (.dK (ks.zip vs)) ∧ kvs.map (·.1) = ks.map keyD ∧ ks.length = vs.length ∧ vs.length = kvs.length ∧ Owns mg B H vs (kvs.map (·.2)) G ∧
      (o = false → F = [] ∧ G = [] ∧ ∃ od, B a = some (.frz od (.dK (ks.zip vs)))) ∧ (o = true → F = a :: G ∧ H a = some (.dK (ks.zip vs))) := by
  have no : ∀ {ks : List (List Key)}, (kvs.map (·.1) = ks.map (fun k => D.tup (k.map keyD)) ∧ ks ≠ []) → False := fun {ks} z => by
    rw [z.1] at hk
    cases ks with
    | nil => exact z.2 rfl
    | cons x r => simp [isKeyD] at hk
  have ln : ∀ {ks : List Key} {vs : List V}, vs.length = kvs.length → kvs.map (·.1) = ks.map keyD → ks.length = vs.length := fun l e => by
    have := congrArg List.length e
    simp at this; omega
  cases h with
  | atom h => cases v <;> simp [Atom] at h
  | @fro _ _ vs A F ho hq ht he =>
    cases v <;> simp only [Shape] at hq
    rename_i a
    obtain ⟨_, hl, hq⟩ := hq
    simp only [D.own] at ho
    subst ho
    have ef : F = [] := he rfl
    subst ef
    rcases hq with ⟨ks, e, od, hq⟩ | ⟨ks, e, _⟩
    · exact ⟨a, ks, vs, [], rfl, .inr ⟨od, hs _ _ hq⟩, e, ln hl e, hl, ht, fun _ => ⟨rfl, rfl, od, hq⟩, fun z => (by cases z)⟩
    · exact (no e).elim
  | @own _ _ vs A F ho hq ht =>
    cases v <;> simp only [Shape] at hq
    rename_i a
    obtain ⟨rfl, hl, hq⟩ := hq
    simp only [D.own] at ho
    subst ho
    rcases hq with ⟨ks, e, hq⟩ | ⟨ks, e, _⟩
    · exact ⟨a, ks, vs, F, rfl, .inl hq, e, ln hl e, hl, ht, fun z => (by cases z), fun _ => ⟨rfl, hq⟩⟩
    · exact (no e).elim
theorem fd_len : FnD X (.builtin "len") lenD := by
  intro pins s σ H xs us Q I r ⟨B, ds, F, z, hs, o, hf, q⟩
  unfold lenD at hf
  split at hf
  · cases hf
    obtain ⟨w, F', rfl, o1⟩ := owns_one o
    obtain ⟨a, vs, K1, rfl, h1, h2, t1⟩ := lst_sql (K := X.K) hs o1
    exact call_len_seq pins s σ H _ us Q I r ⟨a, vs, rfl, .inl h2, by rw [t1.len]; exact q _ B H [] (New.flat hs (.atom rfl))⟩
  · cases hf
    obtain ⟨w, F', rfl, o1⟩ := owns_one o
    obtain ⟨a, vs, rfl, h2, t1⟩ := tup_sqt (K := X.K) hs o1
    exact call_len_seq pins s σ H _ us Q I r ⟨a, vs, rfl, .inr h2, by rw [t1.len]; exact q _ B H [] (New.flat hs (.atom rfl))⟩
  · split at hf <;> cases hf
    rename_i hz
    obtain ⟨w, F', rfl, o1⟩ := owns_one o
    obtain ⟨rfl, _⟩ := own_str o1
    exact call_len_str pins s σ H _ us Q I r ⟨_, rfl, by rw [S_len]; exact hz, by rw [S_len]; exact q _ B H [] (New.flat hs (.atom rfl))⟩
  · rename_i oo kvs
    by_cases hk : (kvs.map (·.1)).all isKeyD = true
    case neg => rw [if_neg hk] at hf; cases hf
    rw [if_pos hk] at hf
    cases hf
    obtain ⟨w, F', rfl, o1⟩ := owns_one o
    obtain ⟨a, ks, vs, G, rfl, rd, e, l1, l2, _⟩ := own_dic hs o1 hk
    obtain ⟨u, eu, ru⟩ := vals1 r
    subst eu
    cases (show u = Value.ref a from ru)
    refine d_len I rd fun t s' I' => ⟨.int (ks.zip vs).length, H, I', ⟨t, rfl⟩, ?_⟩
    have lz : (ks.zip vs).length = kvs.length := by rw [List.length_zip, l1, Nat.min_self, l2]
    rw [lz]
    exact q _ B H [] (New.flat hs (.atom rfl))
  · cases hf
theorem fd_int : FnD X (.type "int") intD := by
  intro pins s σ H xs us Q I r ⟨B, ds, F, z, hs, o, hf, q⟩
  unfold intD at hf
  split at hf <;> cases hf
  · obtain ⟨w, F', rfl, o1⟩ := owns_one o
    obtain ⟨rfl, _⟩ := own_int o1
    exact call_int1 pins s σ H _ us Q I r (.inl ⟨_, rfl, q _ B H [] (New.flat hs (.atom rfl))⟩)
  · obtain ⟨w, F', rfl, o1⟩ := owns_one o
    obtain ⟨rfl, _⟩ := own_bl o1
    exact call_int1 pins s σ H _ us Q I r (.inr ⟨_, rfl, q _ B H [] (New.flat hs (.atom rfl))⟩)
theorem fd_abs : FnD X (.builtin "abs") absD := by
  intro pins s σ H xs us Q I r ⟨B, ds, F, z, hs, o, hf, q⟩
  unfold absD at hf
  split at hf <;> cases hf
  obtain ⟨w, F', rfl, o1⟩ := owns_one o
  obtain ⟨rfl, _⟩ := own_int o1
  exact call_abs pins s σ H _ us Q I r ⟨_, rfl, q _ B H [] (New.flat hs (.atom rfl))⟩
theorem call_listS (hc : X.calm = true) : CallR X (.type "list") (fun xs H Q => ∃ z : Str, xs = [.str z] ∧ z.length ≤ sizeLine ∧ ∀ l, H l = none → Q (.ref l) (upd H l (.lst (z.cps.toList.map fun c => V.str ⟨#[c]⟩)))) := by
  intro pins s σ H xs us Q I r ⟨z, e, hz, q⟩
  subst e
  obtain ⟨u, rfl, rx⟩ := vals1 r
  obtain ⟨t, rfl⟩ := rx
  refine PySem.call_list_str (I.ok.hd hc) z t (hn := hz) fun h' tk acc c hk hS hacc => ?_
  refine ⟨.ref s.heap.objs.size, _, I.laid (t' := tk) hk (Nat.le_refl _) (o := .lst (z.cps.toList.map fun c => V.str ⟨#[c]⟩)) ⟨by rw [List.length_map, Array.length_toList]; exact hz, acc.toList, c, vals_of_at (by rw [List.length_map, Array.length_toList, Array.length_toList, hacc.1]) (fun j x u hx hu => ?_), by simpa using hS⟩, rfl, q _ (I.hok.fresh (Nat.le_refl _))⟩
  obtain ⟨cc, u', hc', rfl⟩ := hacc.2 j u (by simpa using hu)
  rw [List.getElem?_map] at hx
  have : z.cps.toList[j]? = some cc := by simpa using hc'
  rw [this] at hx
  cases hx
  exact ⟨_, rfl⟩
theorem fd_list (hc : X.calm = true) : FnD X (.type "list") listD := by
  intro pins s σ H xs us Q I r ⟨B, ds, F, z, hs, o, hf, q⟩
  unfold listD at hf
  split at hf
  · split at hf <;> cases hf
    rename_i hz
    obtain ⟨w, F', rfl, o1⟩ := owns_one o
    obtain ⟨a, vs, K1, rfl, h1, h2, t1⟩ := lst_sql (K := X.K) hs o1
    obtain rfl := t1.nil_of hz
    exact call_list_of pins s σ H _ us Q I r ⟨a, vs, rfl, .inl h2, fun l hl => q _ _ _ _ (New.lst hs t1 hl)⟩
  · split at hf <;> cases hf
    rename_i hz
    obtain ⟨w, F', rfl, o1⟩ := owns_one o
    obtain ⟨a, vs, rfl, h2, t1⟩ := tup_sqt (K := X.K) hs o1
    obtain rfl := t1.nil_of hz
    exact call_list_of pins s σ H _ us Q I r ⟨a, vs, rfl, .inr h2, fun l hl => q _ _ _ _ (New.lst hs t1 hl)⟩
  · split at hf <;> cases hf
    rename_i s' hz
    obtain ⟨w, F', rfl, o1⟩ := owns_one o
    obtain ⟨rfl, _⟩ := own_str o1
    refine call_listS hc pins s σ H _ us Q I r ⟨_, rfl, by rw [S_len]; exact hz, fun l hl => q _ _ _ _ (New.lst hs ?_ hl)⟩
    rw [S_list]
    clear hz o o1 q r
    induction s' with
    | nil => exact .nil
    | cons c t ih => exact .cons (F := []) (.atom rfl) ih
  · cases hf
theorem fd_tuple : FnD X (.type "tuple") tupleD := by
  intro pins s σ H xs us Q I r ⟨B, ds, F, z, hs, o, hf, q⟩
  unfold tupleD at hf
  split at hf
  · split at hf <;> cases hf
    rename_i hz
    obtain ⟨w, F', rfl, o1⟩ := owns_one o
    obtain ⟨a, vs, K1, rfl, h1, h2, t1⟩ := lst_sql (K := X.K) hs o1
    obtain rfl := t1.nil_of hz
    exact call_tuple_of pins s σ H _ us Q I r ⟨a, vs, rfl, .inl ⟨h2, fun l hl => q _ _ _ _ (New.tup hs t1 hl)⟩⟩
  · split at hf <;> cases hf
    rename_i hz
    obtain ⟨w, F', rfl, o1⟩ := owns_one o
    obtain rfl := o1.nil_of (by simp [D.frz, hz])
    obtain ⟨a, vs, e, h2, t1⟩ := tup_sqt (K := X.K) hs o1
    subst e
    exact call_tuple_of pins s σ H _ us Q I r ⟨a, vs, rfl, .inr ⟨h2, q _ B H [] (New.flat hs o1)⟩⟩
  · cases hf
theorem own_ty_of {B H : Hp} {v : V} {d : D} {F : List Addr} {t : String} (hs : ∀ a o, B a = some o → H a = some o) (o : Own X.ev B H v d F) (h : tyName d = some t) : TyX X.K H v (.type t) := by
  cases d <;> simp only [tyName, Option.some.injEq] at h <;> (try cases h)
  · obtain ⟨rfl, _⟩ := own_non o; exact .base .non
  · obtain ⟨rfl, _⟩ := own_bl o; exact .base (.bl _)
  · obtain ⟨rfl, _⟩ := own_int o; exact .base (.int _)
  · obtain ⟨rfl, _⟩ := own_str o; exact .base (.str _)
  · obtain ⟨a, vs, G, rfl, h1, _⟩ := own_lst hs o; exact .base (.lst h1)
  · obtain ⟨a, vs, rfl, _, h1, _⟩ := own_tup hs o; exact .base (.tup h1)
  · rename_i o' kvs
    have key : ∀ {Y : Hp} {vs : List V} {A : List Addr}, (∀ a u, Y a = some u → H a = some u) → Shape X.ev Y v (.dic o' kvs) vs A → TyX X.K H v (.type "dict") := fun hy s => by
      cases v <;> simp only [Shape] at s
      obtain ⟨_, _, s⟩ := s
      rcases s with ⟨ks, _, s⟩ | ⟨ks, _, s⟩
      · cases o'
        · obtain ⟨od, s⟩ := s
          exact .fDict (hy _ _ s)
        · exact .base (.dK (hy _ _ s))
      · exact .base (.dT (hy _ _ s))
    cases o with
    | atom h => cases v <;> simp [Atom] at h
    | fro _ s _ _ => exact key hs s
    | own _ s _ => exact key (fun _ _ h => h) s
theorem fd_isi : FnD X (.builtin "isinstance") isiD := by
  intro pins s σ H xs us Q I r ⟨B, ds, F, z, hs, o, hf, q⟩
  unfold isiD at hf
  split at hf
  · rename_i d n
    obtain ⟨w, w', F1, F2, rfl, o1, o2⟩ := owns_two o
    obtain ⟨rfl, _⟩ := own_ty o2
    unfold isiB at hf
    cases ht : tyName d with
    | none => rw [ht] at hf; cases hf
    | some t =>
      rw [ht] at hf
      cases hk : kitB t n with
      | none => simp only [hk, Option.map_none] at hf; cases hf
      | some b =>
        simp only [hk, Option.map_some, Option.some.injEq] at hf
        subst hf
        exact call_isi pins s σ H _ us Q I r ⟨w, _, _, _, b, rfl, .ty n, own_ty_of hs o1 ht, hk, q _ B H [] (New.flat hs (.atom rfl))⟩
  · cases hf
end
end Eng
/-! Eng16: short words for what a program prints. -/
namespace Eng
open PySem PySem.Spec PyProof.Rows L2

structure FunAt (K : PySem.W.Frag) (mg : Str → Option Value) (x : Str) (st : Stmt) : Prop where
  ex : ∃ f fd, mg x = some (.ref f) ∧ Fun K x x st f fd
structure DefOk (P : Program) (w : World) (K : PySem.W.Frag) (mg : Str → Option Value) (base : Heap) (k np : Nat) (x : Str) (ps : List Str) (g : List D → Fo) : Prop where
  ex : ∃ f fd, mg x = some (.ref f) ∧ PySem.W.keepIn K (.ref f) = true ∧ Binds K fd ps [] ∧ FnOk P w K mg base (L2.CX P w) k f fd ps (spD ⟨mg, K, none⟩ np g)
  len : ∀ ds : List D, ds.length ≠ np → g ds = .stuck
section
variable {P : Program} {w : World} {K : PySem.W.Frag} {mg : Str → Option Value} {base : Heap}
theorem funAt_mk {x : Str} {st : Stmt} {h : Heap} {f : Addr} {oc : Value} {od an : Option Addr} {osl : Array (Option Value)} {kV doc pm cdv ct : Value} (X : K.In h) (G : h.Ns mainGlobals mg)
    (a : PySem.W.nsIn K mainGlobals x = some (some (.ref f))) (l : K.lookup f = some ⟨oc, od, .func (PySem.W.fnOf x x (defArgs st) (defBody st) (defScope st) .none kV doc pm an cdv ct), osl⟩)
    (c : PySem.W.codeIn K cdv x = true) (k : PySem.W.keepIn K (.ref f) = true) : FunAt K mg x st := ⟨f, _, PySem.W.mg_of X G a, fun_mk l c k⟩
theorem def_okD {x : Str} {st : Stmt} {N ps : List Str} {k np nl : Nat} {kp : List Nat} {m : MS} (FA : FunAt K mg x st) (S : FnScope N ps (defScope st)) (hp : ps.length = np) (hN : N.length = np + nl)
    (hb : ∀ (kV doc pm : Value) (an : Option Addr) (cdv ct : Value) (us : List Value), us.length = ps.length → bindArgs (PySem.W.fnOf x x (defArgs st) (defBody st) (defScope st) .none kV doc pm an cdv ct) ⟨us, []⟩ = pure (ps.zip us))
    (hbody : ∀ (f : Addr) (cdv : Value) (A : Around) (outer : List Env) (s : Shared) (H : Hp) (E : XK), Room k (A.deeper (envOfC x (defScope st) s.heap.objs.size f cdv)) →
      PDSs (cxOf (L2.CX P w) P w K mg base N x (defScope st) f cdv A outer s H E) (fun cls d _ H => E cls d H) kp (defBody st) m) : DefOk P w K mg base (k + 1) np x ps (runF kp np nl m) := by
  obtain ⟨f, fd, e, F⟩ := FA.ex
  exact ⟨⟨f, fd, e, F.kp, F.binds hb, def_ok F S hp hN fun cdv A outer s H E hr => hbody f cdv A outer s H E hr⟩, fun ds h => runF_len ds h⟩
end
section
variable {X : Cx} {W : WX} {kp : List Nat} {alt sep a1 a2 s1 s2 : Bool} {pos p : Pos} {e ea eb : Expr} {es : List Expr} {m ma mb : M D} {ms : M (List ArgV)} {x : Str}
theorem d_callD {k np : Nat} {ps : List Str} {g : List D → Fo} (Dd : DefOk X.prog X.w X.K X.mg X.base k np x ps g) (hr : Room k X.A) (tk : Takes X W) (ha : PDA X W alt (e :: es) ms) (hg : Gl X x := by rfl) (hdb : (x == ("__debug__" : Str)) = false := by decide)
    (he : starEach (e :: es) X.env = (false, eval e X.env) :: starEach es X.env := by rfl) (hpl : (backTo pos (starEach es X.env)).any (·.1) = false := by rfl) : PD X W true true (.Call (.Name x p) (e :: es) [] pos) (eCall g ms) := by
  obtain ⟨f, fd, hm, hk, hb, F⟩ := Dd.ex
  exact d_call F Dd.len hr hm hk hb tk ha hg hdb he hpl
/-- a statement that is never come to -/
def sNo : MS := fun _ => .stuck
theorem s_no {st : Stmt} : PDS X W kp st sNo := PS.weak ps_never fun D σ H ⟨B, ρ, U, st, k⟩ => k.elim
theorem d_ty {n : String} (hg : Gl X x) (hm : X.mg x = none) (hv : bootBuiltins x = some (.type n)) (hn : x ≠ "__name__" := by decide) (hd : (x == ("__debug__" : Str)) = false := by decide) : PD X W false true (.Name x pos) (eK (.ty n)) :=
  d_atom (v := .ty n) (pe_bltn (v := .ty n) hg hm hv rfl hn hd) fun _ => rfl
/-- a module's text -/
theorem d_gstr {z : Str} {s : List Nat} (hm : ∃ t, X.mg x = some (.str z t)) (hz : z.cps.toList = s := by rfl) (hg : Gl X x := by rfl) (hd : (x == ("__debug__" : Str)) = false := by decide) : PD X W false true (.Name x pos) (eK (.str s)) := by
  obtain ⟨t, hm⟩ := hm
  exact d_glob hg hm (v := .str z) ⟨t, rfl⟩ (fun _ => hz) hd
theorem d_gint {i : Int} (hm : ∃ t, X.mg x = some (.int i t)) (hg : Gl X x := by rfl) (hd : (x == ("__debug__" : Str)) = false := by decide) : PD X W false true (.Name x pos) (eK (.int i)) := by
  obtain ⟨t, hm⟩ := hm
  exact d_glob hg hm (v := .int i) ⟨t, rfl⟩ (fun _ => rfl) hd
/-! x op= e -/
def iaddD : D → D → Option D
  | .int i, .int j => some (.int (i + j))
  | .str s, .str t => if s.length + t.length ≤ 16777216 then some (.str (s ++ t)) else none
  | _, _ => none
theorem od_iadd : OpD X (inplaceOp .Add) iaddD := by
  intro pins s σ H x y v u Q I r1 r2 ⟨B, d, e, F, G, z, hs, o1, o2, hf, q⟩
  unfold iaddD at hf
  split at hf
  · cases hf
    obtain ⟨rfl, rfl⟩ := own_int o1
    obtain ⟨rfl, rfl⟩ := own_int o2
    exact iop_add pins s σ H _ _ v u Q I r1 r2 ⟨_, _, rfl, rfl, q _ B H [] (New.flat hs (.atom rfl))⟩
  · split at hf <;> cases hf
    obtain ⟨rfl, rfl⟩ := own_str o1
    obtain ⟨rfl, rfl⟩ := own_str o2
    exact iop_add_str pins s σ H _ _ v u Q I r1 r2 ⟨_, _, rfl, rfl, by rw [S_len, S_len]; assumption, by rw [S_app]; exact q _ B H [] (New.flat hs (.atom (S_list _)))⟩
  · cases hf
theorem od_isub : OpD X (inplaceOp .Sub) subD := by
  intro pins s σ H x y v u Q I r1 r2 ⟨B, d, e, F, G, z, hs, o1, o2, hf, q⟩
  unfold subD at hf
  split at hf <;> cases hf
  obtain ⟨rfl, rfl⟩ := own_int o1
  obtain ⟨rfl, rfl⟩ := own_int o2
  exact iop_sub pins s σ H _ _ v u Q I r1 r2 ⟨_, _, rfl, rfl, q _ B H [] (New.flat hs (.atom rfl))⟩
def sAug (i : Nat) (f : D → D → Option D) (m : M D) : MS := fun ρ => match ρ[i]? with
  | some (some d0) => if d0.frz then ofRes (m ρ) (fun d ρ1 => match f d0 d with
      | some z => .nx (ρ1.set i (some z))
      | none => .stuck) else .stuck
  | _ => .stuck
theorem s_aug {i : Nat} {op : Operator} {f : D → D → Option D} {pos' : Pos} (ho : OpD X (inplaceOp op) f) (h : PD X W alt sep e m)
    (hp : PS X (.AugAssign (.Name x pos') op e pos) (tAug i (tE X.ev W alt sep m) (fun x y H Q => ∃ B d e F G z, (∀ a o, B a = some o → H a = some o) ∧ Own X.ev B H x d F ∧ Own X.ev B H y e G ∧ f d e = some z ∧ ∀ w B' H' K, New X.ev B H w z B' H' K → Q w H'))) (hk : i ∉ kp := by decide) : PDS X W kp (.AugAssign (.Name x pos') op e pos) (sAug i f m) :=
  PS.weak hp fun D σ H ⟨B, ρ, U, st, k⟩ => by
    dsimp only [sAug] at k
    cases hr : ρ[i]? with
    | none => rw [hr] at k; exact k.elim
    | some o =>
    cases o with
    | none => rw [hr] at k; exact k.elim
    | some d0 =>
    rw [hr] at k
    dsimp only at k
    by_cases hf : d0.frz = true
    case neg => rw [if_neg hf] at k; exact k.elim
    rw [if_pos hf] at k
    obtain ⟨v0, F0, U0, e0, o0, _, _, _⟩ := st.take hr
    obtain rfl := o0.nil_of hf
    refine ⟨v0, e0, B, ρ, U, st, ?_⟩
    cases hm : m ρ with
    | exc x ρ1 => rw [hm] at k; exact excS.toW k
    | stuck => rw [hm] at k; exact k
    | ok d ρ1 =>
    rw [hm] at k
    intro v B1 H1 U1 F p
    dsimp only [ofRes] at k
    cases hz : f d0 d with
    | none => rw [hz] at k; exact k.elim
    | some z =>
    rw [hz] at k
    refine ⟨B1, d0, d, [], F, z, p.st.sub, o0.mono p.step.bs fun _ z => absurd z (by simp), p.own, hz, fun w B' H' K nw => ?_⟩
    obtain ⟨U2, q⟩ := put_slot (p.fin nw) hk
    exact k _ B' H' U2 q
/-! comparisons in a chain -/
def eCh (f f' : D → D → Option D) (ma mb mc : M D) : M D := mBind ma fun d => mBind mb fun e => mBind (mOpt (f d e)) fun b => match b with
  | .bl true => mBind mc fun g => mOpt (f' e g)
  | .bl false => mPure (.bl false)
  | _ => mStuck
theorem ch_core {f f' : D → D → Option D} {a3 s3 : Bool} {mc : M D} (hc : (!a2 || s1) = true) (h3 : (!a3 || s2) = true) : ∀ σ H Q, tE X.ev W (a1 || (a2 || a3)) true (eCh f f' ma mb mc) σ H Q →
    tChain (fun x y H Q => ∃ B d e F G z, (∀ a o, B a = some o → H a = some o) ∧ Own X.ev B H x d F ∧ Own X.ev B H y e G ∧ f d e = some z ∧ ∀ w B' H' K, New X.ev B H w z B' H' K → Q w H')
      (fun x y H Q => ∃ B d e F G z, (∀ a o, B a = some o → H a = some o) ∧ Own X.ev B H x d F ∧ Own X.ev B H y e G ∧ f' d e = some z ∧ ∀ w B' H' K, New X.ev B H w z B' H' K → Q w H')
      (tE X.ev W a1 s1 ma) (tE X.ev W a2 s2 mb) (tE X.ev W a3 s3 mc) σ H Q := fun σ H Q ⟨B, ρ, U, st, k⟩ => by
  have hc' : a2 = false ∨ s1 = true := by cases a2 <;> simp_all
  have h3' : a3 = false ∨ s2 = true := by cases a3 <;> simp_all
  refine ⟨B, ρ, U, st, ?_⟩
  dsimp only [eCh, mBind] at k
  cases hm : ma ρ with
  | exc x ρ1 => rw [hm] at k; exact k
  | stuck => rw [hm] at k; exact k
  | ok d ρ1 =>
  rw [hm] at k
  intro v B1 H1 U1 F1 p
  refine ⟨B1, ρ1, U1, p.st, ?_⟩
  dsimp only [Res.bind, mBind] at k
  cases hm2 : mb ρ1 with
  | exc x ρ2 => rw [hm2] at k; exact k.back p.step
  | stuck => rw [hm2] at k; exact k
  | ok d2 ρ2 =>
  rw [hm2] at k
  intro v2 B2 H2 U2 F2 q
  have pq := p.comb q hc'
  obtain ⟨G1, G2, _, o1, o2⟩ := pq.own
  dsimp only [Res.bind, mBind, mOpt] at k
  cases hf : f d d2 with
  | none => rw [hf] at k; exact k.elim
  | some z =>
  rw [hf] at k
  refine ⟨B2, d, d2, G1, G2, z, pq.st.sub, o1, o2, hf, fun w B' H' K nw => ?_⟩
  dsimp only [Res.bind] at k
  cases z with
  | bl b =>
    obtain ⟨rfl, rfl⟩ := own_bl nw.own
    refine ⟨b, rfl, ?_⟩
    have qn : Post X.ev a2 s2 B1 H1 σ ρ1 U1 ρ2 (oV X.ev v2 d2) B' H' U2 F2 := by
      refine ⟨q.st.stepN nw.step, Own.step q.own nw.step fun _ _ h => absurd h (by simp), fun e => ?_, q.step.trans nw.step.none_of, fun e => ?_⟩
      · obtain ⟨sp, n⟩ := q.sep e
        exact ⟨sp.step (Own.there q.own) (nw.step.none_of (U := U2)), n⟩
      · obtain ⟨x, y, z⟩ := q.alt e
        exact ⟨x, y, z.trans nw.step⟩
    cases b with
    | false =>
      have pqn := p.comb2 qn
      exact k _ B' H' U2 [] ⟨pqn.st, .atom rfl, fun _ => ⟨Sep.nil, fun _ h => absurd h (by simp)⟩, pqn.step, fun e => pqn.alt (by
        simp only [Bool.or_eq_false_iff] at e ⊢; exact ⟨e.1, e.2.1⟩)⟩
    | true =>
      dsimp only [mBind] at k
      rw [if_pos rfl]
      refine ⟨B', ρ2, U2, qn.st, ?_⟩
      cases hm3 : mc ρ2 with
      | exc x ρ3 => rw [hm3] at k; exact (k.back p.step).back qn.step
      | stuck => rw [hm3] at k; exact k
      | ok d3 ρ3 =>
      rw [hm3] at k
      intro v3 B3 H3 U3 F3 q3
      dsimp only [Res.bind, mOpt] at k
      have q23 := qn.comb q3 h3'
      obtain ⟨K1, K2, _, o3, o4⟩ := q23.own
      cases hf2 : f' d2 d3 with
      | none => rw [hf2] at k; exact k.elim
      | some z2 =>
        rw [hf2] at k
        exact ⟨B3, d2, d3, K1, K2, z2, q23.st.sub, o3, o4, hf2, fun w B' H' K nw => k w B' H' U3 K ((p.comb2 q23).fin nw)⟩
  | _ => exact k.elim
theorem d_ch {op op' : CmpOp} {f f' : D → D → Option D} {a3 s3 : Bool} {mc : M D} {ec : Expr} (ho : OpD X (compareOp op) f) (ho' : OpD X (compareOp op') f') (ha : PD X W a1 s1 ea ma) (hb : PD X W a2 s2 eb mb) (h : PD X W a3 s3 ec mc)
    (hm : lastMarks [op, op'] [eb, ec] = false := by with_unfolding_all rfl) (hc : (!a2 || s1) = true := by decide) (h3 : (!a3 || s2) = true := by decide) : PD X W (a1 || (a2 || a3)) true (.Compare ea [op, op'] [eb, ec] pos) (eCh f f' ma mb mc) :=
  PE.weak (pe_chain ho ho' ha hb h hm) (ch_core hc h3)
theorem t_ch {op op' : CmpOp} {f f' : D → D → Option D} {a3 s3 : Bool} {mc : M D} {ec : Expr} (ho : OpD X (compareOp op) f) (ho' : OpD X (compareOp op') f') (ha : PD X W a1 s1 ea ma) (hb : PD X W a2 s2 eb mb) (h : PD X W a3 s3 ec mc)
    (hm : lastMarks [op, op'] [eb, ec] = false := by with_unfolding_all rfl) (hc : (!a2 || s1) = true := by decide) (h3 : (!a3 || s2) = true := by decide) : PDT X W (a1 || (a2 || a3)) (.Compare ea [op, op'] [eb, ec] pos) (mB (eCh f f' ma mb mc)) :=
  PT.weak (pt_chain ho ho' ha hb h hm) (bool_core (sep := true) fun σ H Q q => ch_core hc h3 σ H _ q)
/-! s[::-1] of a text -/
def revD : D → Option D
  | .str s => if s.length ≤ 16777216 then some (.str s.reverse) else none
  | _ => none
end
end Eng
/-! Eng17: s[::-1]; isinstance with several types; all, any. -/
namespace Eng
open PySem PySem.Spec PyProof.Rows L2
section
variable {X : Cx} {W : WX} {kp : List Nat} {alt sep a1 a2 s1 s2 : Bool} {pos p : Pos} {e ea eb : Expr} {es : List Expr} {m ma mb : M D} {ms : M (List D)} {x : Str}
def tRevS (te : TE) : TE := fun σ H Q => te σ H fun x H1 => ∃ z : Str, x = .str z ∧ z.length ≤ sizeLine ∧ ∀ y : Str, y.cps.toList = z.cps.toList.reverse → Q (.str y) H1
theorem rev_list (z : Str) (u : Tok) : (Txt.sliceBy z none none (-1, u)).cps.toList = z.cps.toList.reverse := by
  rw [step_rev_list]
  apply List.ext_getElem
  · simp [Str.length]
  · intro i h1 h2
    simp only [List.length_map, List.length_range] at h1
    simp only [List.getElem_map, List.getElem_range, List.getElem_reverse]
    rw [Array.getD_eq_getD_getElem?, Array.getElem?_eq_getElem (by simp only [Str.length] at h1 ⊢; omega)]
    simp [Str.length]
theorem pe_revS {k : Nat} {p1 p2 p3 : Pos} {te : TE} (he : PE X e te) : PE X (.Subscript e (.Slice none none (some (.UnaryOp .USub (.Constant (.int 1) k p1) p2)) p3) pos) (tRevS te) := by
  refine ⟨fun pins s σ H Q I h => Subscript_ (thn (he.run pins s σ H _ I h) fun v s1 ⟨x, H1, I1, r1, z, ex, hz, q⟩ => ?_)⟩
  subst ex
  obtain ⟨t, rfl⟩ := r1
  have hst : PO X (some (.UnaryOp .USub (.Constant (.int 1) k p1) p2)) (tPart (tUn (rU fun i => .int (-i)) (tC (.int 1)))) := po_some (pe_un un_neg pe_int)
  refine wpAny_Slice (thn (po_none.run pins s1 σ H1 (fun o G => o = none ∧ G = H1) I1 ⟨rfl, rfl⟩) fun vl s2 ⟨l, G, I2, pl, el, eG⟩ => ?_)
  subst el eG
  refine thn (po_none.run pins s2 σ G (fun o G' => o = none ∧ G' = G) I2 ⟨rfl, rfl⟩) fun vu s3 ⟨u, G', I3, pu, eu, eG'⟩ => ?_
  subst eu eG'
  refine thn (hst.run pins s3 σ G' (fun o G2 => o = some (-1) ∧ G2 = G') I3 ⟨1, rfl, -1, rfl, rfl, rfl⟩) fun vs s4 ⟨o, G2, I4, ps, eo, eG2⟩ => ?_
  subst eo eG2
  obtain ⟨ol, rfl, hol⟩ := IsPart.raw pl
  obtain ⟨ou, rfl, hou⟩ := IsPart.raw pu
  obtain ⟨os, rfl, hos⟩ := IsPart.raw ps
  cases ol with
  | some _ => cases hol
  | none =>
  cases ou with
  | some _ => cases hou
  | none =>
  cases os with
  | none => cases hos
  | some ot =>
  obtain ⟨i, ti⟩ := ot
  simp only [Option.map_some, Option.some.injEq] at hos
  subst hos
  refine tail_any (ops := [.str z t, .ref s4.heap.objs.size]) (typeIs_str _ _ _) F.slot_str_getitem.lookup ?_ (by with_unfolding_all rfl)
  refine wpAny_getItem_str_slice (l := none) (u := none) (st := some (-1, ti)) ⟨_, Heap.get?_push_size _ rfl, rfl, rfl⟩ rfl ?_
  have hq := q _ (rev_list z ti)
  have hl : (Txt.sliceBy z none none (-1, ti)).length ≤ sizeLine := by rw [step_rev_len]; exact hz
  unfold Txt.sliceBy at hq hl
  unfold sliceMade
  have I5 : Inv X pins σ G2 { s4 with heap := s4.heap.push { cls := .type "slice", data := .fields #[partValue none, partValue none, partValue (some (-1, ti))] } } := I4.kept (t' := s4.toks) fun b ob q => Heap.get?_push_of_some _ q
  split
  · rename_i c
    rw [if_pos c] at hq
    exact ⟨.str z, G2, I5, ⟨t, rfl⟩, hq⟩
  · rename_i c
    rw [if_neg c] at hq hl
    exact ⟨hl, .str _, G2, I5.tok _, ⟨_, rfl⟩, hq⟩
theorem d_rev {k : Nat} {p1 p2 p3 : Pos} (h : PD X W alt sep e m) : PD X W alt true (.Subscript e (.Slice none none (some (.UnaryOp .USub (.Constant (.int 1) k p1) p2)) p3) pos) (eUn revD m) := PE.weak (pe_revS h) fun σ H Q ⟨B, ρ, U, st, k⟩ => by
  refine ⟨B, ρ, U, st, ?_⟩
  dsimp only [eUn, mBind] at k
  cases hm : m ρ with
  | exc x ρ1 => rw [hm] at k; exact k
  | stuck => rw [hm] at k; exact k
  | ok d ρ1 =>
  rw [hm] at k
  intro v B1 H1 U1 F p
  dsimp only [Res.bind, mOpt] at k
  cases d with
  | str s =>
    obtain ⟨rfl, rfl⟩ := own_str p.own
    by_cases hz : s.length ≤ 16777216
    case neg => simp only [revD, if_neg hz] at k
    simp only [revD, if_pos hz] at k
    refine ⟨S s, rfl, by rw [S_len]; exact hz, fun y hy => ?_⟩
    exact k _ B1 H1 U1 [] (p.fin (New.flat p.st.sub (.atom (by show y.cps.toList = s.reverse; rw [hy, S_list]))))
  | _ => exact k.elim
end
end Eng
/-! Eng18: isinstance with several types; all, any. -/
namespace Eng
open PySem PySem.Spec PyProof.Rows L2
def kitAnyB (t : String) : List String → Option Bool
  | [] => some false
  | n :: r => match kitB t n with
    | some true => some true
    | some false => kitAnyB t r
    | none => none
def tysOf : List D → Option (List String)
  | [] => some []
  | .ty n :: r => (tysOf r).map (n :: ·)
  | _ => none
def isi2D : List D → Option D
  | [d, .tup ds] => match tyName d, tysOf ds with
    | some t, some ns => (kitAnyB t ns).map D.bl
    | _, _ => none
  | _ => none
def blsOf : List D → Option (List Bool)
  | [] => some []
  | .bl b :: r => (blsOf r).map (b :: ·)
  | _ => none
def allD : List D → Option D
  | [.lst _ xs] => (blsOf xs).map fun bs => .bl (bs.all id)
  | _ => none
def anyD : List D → Option D
  | [.lst _ xs] => (blsOf xs).map fun bs => .bl (bs.any id)
  | _ => none
section
variable {X : Cx}
theorem kit_anyB {K : PySem.W.Frag} {t : String} : ∀ ns : List String, PySem.W.kitAny K (.type t) (ns.map Value.type) = kitAnyB t ns
  | [] => rfl
  | n :: r => by
    show (match PySem.W.kitOne K (.type t) (.type n) with | some true => some true | some false => PySem.W.kitAny K (.type t) (r.map Value.type) | none => none) = _
    rw [kit_anyB r]
    rfl
theorem owns_tys {mg : Ev} {B H : Hp} : ∀ {vs : List V} {ds : List D} {F : List Addr} {ns : List String}, Owns mg B H vs ds F → tysOf ds = some ns → Paired ClsV vs (ns.map Value.type)
  | _, _, _, ns, .nil, h => by simp [tysOf] at h; subst h; exact .nil
  | _, _, _, ns, .cons (d := d) a r, h => by
    cases d <;> simp only [tysOf] at h <;> try cases h
    obtain ⟨ns', h', rfl⟩ := Option.map_eq_some_iff.mp h
    obtain ⟨rfl, _⟩ := own_ty a
    exact .cons (.ty _) (owns_tys r h')
theorem fd_isi2 : FnD X (.builtin "isinstance") isi2D := by
  intro pins s σ H xs us Q I r ⟨B, ds, F, z, hs, o, hf, q⟩
  unfold isi2D at hf
  split at hf
  · rename_i d es
    obtain ⟨w, w', F1, F2, rfl, o1, o2⟩ := owns_two o
    obtain ⟨a, vs, rfl, _, h1, t1⟩ := own_tup hs o2
    split at hf
    · rename_i t ns ht hn
      obtain ⟨b, hb, rfl⟩ := Option.map_eq_some_iff.mp hf
      exact call_isiT pins s σ H _ us Q I r ⟨w, a, vs, _, _, b, rfl, h1, owns_tys t1 hn, own_ty_of hs o1 ht, by rw [kit_anyB]; exact hb, q _ B H [] (New.flat hs (.atom rfl))⟩
    · cases hf
  · cases hf
theorem owns_bls {mg : Ev} {B H : Hp} : ∀ {vs : List V} {ds : List D} {F : List Addr} {bs : List Bool}, Owns mg B H vs ds F → blsOf ds = some bs → vs = bs.map V.bl
  | _, _, _, bs, .nil, h => by simp [blsOf] at h; subst h; rfl
  | _, _, _, bs, .cons (d := d) a r, h => by
    cases d <;> simp only [blsOf] at h <;> try cases h
    obtain ⟨bs', h', rfl⟩ := Option.map_eq_some_iff.mp h
    obtain ⟨rfl, _⟩ := own_bl a
    rw [owns_bls r h']; rfl
theorem fd_all (hc : X.calm = true) : FnD X (.builtin "all") allD := by
  intro pins s σ H xs us Q I r ⟨B, ds, F, z, hs, o, hf, q⟩
  unfold allD at hf
  split at hf
  · obtain ⟨bs, hb, rfl⟩ := Option.map_eq_some_iff.mp hf
    obtain ⟨w, F', rfl, o1⟩ := owns_one o
    obtain ⟨a, vs, K1, rfl, h1, h2, t1⟩ := lst_sql (K := X.K) hs o1
    obtain rfl := owns_bls t1 hb
    exact cr_all hc pins s σ H _ us Q I r ⟨a, bs, rfl, h2, q _ B H [] (New.flat hs (.atom rfl))⟩
  · cases hf
theorem fd_any (hc : X.calm = true) : FnD X (.builtin "any") anyD := by
  intro pins s σ H xs us Q I r ⟨B, ds, F, z, hs, o, hf, q⟩
  unfold anyD at hf
  split at hf
  · obtain ⟨bs, hb, rfl⟩ := Option.map_eq_some_iff.mp hf
    obtain ⟨w, F', rfl, o1⟩ := owns_one o
    obtain ⟨a, vs, K1, rfl, h1, h2, t1⟩ := lst_sql (K := X.K) hs o1
    obtain rfl := owns_bls t1 hb
    exact cr_any hc pins s σ H _ us Q I r ⟨a, bs, rfl, h2, q _ B H [] (New.flat hs (.atom rfl))⟩
  · cases hf
end
end Eng
/-! Eng19: words that a printer uses. -/
namespace Eng
open PySem PySem.Spec PyProof.Rows L2
theorem uz {k : Nat} {A : Around} (r : Room k A) : A.units + 64 < cLine := by
  have := r.un
  omega
theorem def_none {P : Program} {w : World} {K : PySem.W.Frag} {mg : Str → Option Value} {base : Heap} {x : Str} {st : Stmt} {ps : List Str} {k np : Nat} (FA : FunAt K mg x st) (hp : ps.length = np)
    (hb : ∀ (kV doc pm : Value) (an : Option Addr) (cdv ct : Value) (us : List Value), us.length = ps.length → bindArgs (PySem.W.fnOf x x (defArgs st) (defBody st) (defScope st) .none kV doc pm an cdv ct) ⟨us, []⟩ = pure (ps.zip us)) : DefOk P w K mg base k np x ps (fun _ => .stuck) := by
  obtain ⟨f, fd, e, F⟩ := FA.ex
  refine ⟨⟨f, fd, e, F.kp, F.binds hb, ⟨fun vs H Q E h => by rw [hp]; exact h.1, fun A outer s H args us vs Q E hr E0 b v h => ?_⟩⟩, fun _ _ => rfl⟩
  obtain ⟨_, _, _, _, _, z⟩ := h
  exact z.elim
theorem hkp_of {N : List Str} (vs : List Nat) {kp : List Nat} (h : (List.range N.length).all (fun i => decide (i ∈ vs) || decide (i ∈ kp)) = true) : ∀ i, i < N.length → i ∉ vs → i ∈ kp := fun i hi hv => by
  have := List.all_eq_true.mp h i (List.mem_range.mpr hi)
  simpa [hv] using this
section
variable {X : Cx} {W : WX} {kp : List Nat} {alt sep a1 a2 s1 s2 : Bool} {pos p apos cpos pos' : Pos} {e ea eb : Expr} {es : List Expr} {m ma mb : M D} {ms : M (List D)} {x : Str}
theorem l_consT (h : PD X W a1 true e m) (t : PDL X W a2 true es ms) (hs : starEach (e :: es) X.env = (false, eval e X.env) :: starEach es X.env := by rfl) : PDL X W (a1 || a2) true (e :: es) (lCons m ms) :=
  l_cons h t hs (by cases a2 <;> rfl)
theorem d_ifT {a3 : Bool} {ec : Expr} {m1 : M Bool} (hc : PDT X W a1 ec m1) (ha : PD X W a2 true ea ma) (hb : PD X W a3 true eb mb) : PD X W (a1 || (a2 || a3)) true (.IfExp ec ea eb pos) (eIf m1 ma mb) := d_if hc ha hb
theorem s_let (i : Nat) (hN : X.N.Nodup) (h : PD X W alt true e m) (hi : X.N[i]? = some x := by rfl) (hx : Loc X.env.scope x := by first | exact .inl rfl | exact .inr rfl)
    (hs : swapsWith e (some (.Name x pos')) pos.line X.env = pure false := by rfl) (hf : X.fn x = true ∨ X.env.scope.names.lookup x = some .local := by first | exact .inl rfl | exact .inr rfl | assumption) (hk : i ∉ kp := by decide) : PDS X W kp (.Assign [.Name x pos'] e pos) (sSet i m) :=
  s_set (ps_set hN hi hx h hs hf) hk
theorem s_app (i : Nat) (h : PD X W alt true e m) (hN : X.N[i]? = some x := by rfl) (hv : Vis X.env.scope x := by first | exact Or.inl rfl | exact Or.inr (Or.inl rfl) | exact Or.inr (Or.inr rfl)) (hd : (x == ("__debug__" : Str)) = false := by decide)
    (hcd : (x == ("__classdict__" : Str)) = false := by decide)
    (hbase : attributeBase (.Name x pos) "append" X.env (eval (.Name x pos) X.env) = eval (.Name x pos) X.env := by rfl)
    (hfew : ((backTo cpos (starEach [e] X.env)).all (fun x => !x.1) && (backToKw cpos (keywordEach [] X.env)).all (fun x => x.1.isSome)
      && decide ([e].length + ([] : List Keyword).length + (if ([] : List Keyword).isEmpty then 0 else 1) < 30)) = true := by rfl)
    (hline : (apos.endLine == cpos.line) = true := by rfl) (hs : starEach [e] X.env = (false, eval e X.env) :: starEach [] X.env := by rfl) (hplain : (backTo cpos (starEach [] X.env)).any (·.1) = false := by rfl) :
    PD X W true true (.Call (.Attribute (.Name x pos) "append" apos) [e] [] cpos) (eApp i m) :=
  d_app i (pe_bm PySem.F.plainAttrs_list PySem.F.slot_list_append PySem.F.type_list_append mt_append (pe_var hN hv hd hcd) (pa_cons h pa_nil hs) hbase hfew hline hs hplain)
theorem s_pop (i : Nat) (hN : X.N[i]? = some x := by rfl) (hv : Vis X.env.scope x := by first | exact Or.inl rfl | exact Or.inr (Or.inl rfl) | exact Or.inr (Or.inr rfl)) (hd : (x == ("__debug__" : Str)) = false := by decide)
    (hcd : (x == ("__classdict__" : Str)) = false := by decide)
    (hbase : attributeBase (.Name x pos) "pop" X.env (eval (.Name x pos) X.env) = eval (.Name x pos) X.env := by rfl)
    (hline : (apos.endLine == cpos.line) = true := by rfl) :
    PD X W true true (.Call (.Attribute (.Name x pos) "pop" apos) [] [] cpos) (ePop i) :=
  d_pop i (pe_bm0 PySem.F.plainAttrs_list PySem.F.slot_list_pop PySem.F.type_list_pop mt_pop (pe_var hN hv hd hcd) hbase hline)
theorem s_at (i : Nat) (hb : PD X W a2 s2 eb mb) (ha : PD X W a1 true ea ma) (hN : X.N[i]? = some x := by rfl) (hv : Vis X.env.scope x := by first | exact Or.inl rfl | exact Or.inr (Or.inl rfl) | exact Or.inr (Or.inr rfl)) (hd : (x == ("__debug__" : Str)) = false := by decide)
    (hcd : (x == ("__classdict__" : Str)) = false := by decide)
    (hg : ∀ v, assign (.Subscript (.Name x pos) eb apos) X.env v = (do
      let ov ← holding [v] (eval (.Name x pos) X.env)
      let iv ← holding [v, ov] (eval eb X.env)
      standAt apos
      holding [v, ov, iv] (setItem ov iv v)
      release [v, ov, iv] []) := by intro _; rfl)
    (hs : swapsWithSole [.Subscript (.Name x pos) eb apos] ea cpos.line X.env = pure false := by rfl) (hw : swappedStores [.Subscript (.Name x pos) eb apos] ea X.env = pure none := by rfl)
    (h1 : (assignEach [.Subscript (.Name x pos) eb apos] X.env).map (·.2) = [assign (.Subscript (.Name x pos) eb apos) X.env] := by rfl) : PDS X W kp (.Assign [.Subscript (.Name x pos) eb apos] ea cpos) (sSetIx i mb ma) :=
  s_setIx i (ps_asg ha (pg_sub (pe_var hN hv hd hcd) hb set_list hg) hs hw h1)
theorem s_inc (i : Nat) {op : Operator} {f : D → D → Option D} (ho : OpD X (inplaceOp op) f) (hN : X.N.Nodup) (h : PD X W alt sep e m) (hi : X.N[i]? = some x := by rfl) (hx : Loc X.env.scope x := by first | exact .inl rfl | exact .inr rfl) (hf : X.fn x = true ∨ X.env.scope.names.lookup x = some .local := by first | exact .inl rfl | exact .inr rfl | assumption)
   (hk : i ∉ kp := by decide) : PDS X W kp (.AugAssign (.Name x pos') op e pos) (sAug i f m) :=
  s_aug ho h (ps_aug hN hi hx h ho) hk
end
end Eng
/-! Eng20: the law's own end. -/
namespace Eng
open PySem PySem.Spec PyProof.Rows L2
def spLaw (K : PySem.W.Frag) : Sp := fun vs H Q _ => ∃ (a : Addr) (ns : List Int), vs = [.ref a] ∧ SqL K H a (ns.map V.int) ∧ ns.length ≤ 63 ∧ ∀ H', Q (.bl true) H'
theorem law_end {P : Program} {w : World} {K : PySem.W.Frag} {mg : Str → Option Value} {base : Heap} {k : Nat} {fa : Addr} {fd : FuncData} {g : List D → Fo}
    (F : FnOk P w K mg base (L2.CX P w) k fa fd ["script"] (spD ⟨mg, K, none⟩ 1 g)) (hp : ∀ ns : List Int, ns.length ≤ 63 → ∃ ps, g [.scr ns] = .ok (.bl true) ps) : FnOk P w K mg base (L2.CX P w) k fa fd ["script"] (spLaw K) :=
  F.imp fun vs H Q E ⟨a, ns, e, hS, hl, q⟩ => by
    subst e
    refine ⟨rfl, H, [.scr ns], [], ?_, ?_⟩
    · exact Sta.push (v := .ref a) (d := .scr ns) (F := []) (Sta.nil fun _ _ h => h) (.atom hS) Sep.nil
    · obtain ⟨ps, e⟩ := hp ns hl
      rw [e]
      intro v B' H' U' F' st o _ _ _
      obtain ⟨rfl, _⟩ := own_bl o
      exact q H'
theorem law_cx {P : Program} {w : World} {H : Hp} {s : Shared} {e : Value} {s' : Shared} (h : L2.CX P w [] H s (fun _ _ _ => False) e s') : False := by
  obtain ⟨_, _, _, _, _, _, _, _, _, _, _, _, z⟩ := h
  exact z
theorem gsStr {K : PySem.W.Frag} {h : Heap} {mg : Str → Option Value} {x z : Str} {t : Tok} (X : K.In h) (G : h.Ns mainGlobals mg) (a : PySem.W.nsIn K mainGlobals x = some (some (.str z t))) : ∃ t, mg x = some (.str z t) := ⟨t, PySem.W.mg_of X G a⟩
theorem gsInt {K : PySem.W.Frag} {h : Heap} {mg : Str → Option Value} {x : Str} {z : Int} {t : Tok} (X : K.In h) (G : h.Ns mainGlobals mg) (a : PySem.W.nsIn K mainGlobals x = some (some (.int z t))) : ∃ t, mg x = some (.int z t) := ⟨t, PySem.W.mg_of X G a⟩
end Eng
/-! Eng21: the mirror's outcomes, goal by goal. -/
namespace Eng
open PySem PySem.Spec PyProof.Rows L2
def W {α : Type} (m : M α) (ρ : Rho) (E : Exc → Rho → Prop) (Q : α → Rho → Prop) : Prop := match m ρ with
  | .ok d ρ' => Q d ρ'
  | .exc e ρ' => E e ρ'
  | .stuck => False
def WS (m : MS) (ρ : Rho) (Q : Out → Prop) : Prop := Q (m ρ)
def WO {α : Type} (o : Option α) (Q : α → Prop) : Prop := ∃ c, o = some c ∧ Q c
def WF (o : Fo) (E : Exc → List (Option D) → Prop) (Q : D → List (Option D) → Prop) : Prop := match o with
  | .ok d ps => Q d ps
  | .exc e ps => E e ps
  | .stuck => False
def Get (i : Nat) (ρ : Rho) (Q : D → Prop) : Prop := ∃ d, ρ[i]? = some (some d) ∧ Q d
def GetF (i : Nat) (ρ : Rho) (Q : D → Prop) : Prop := ∃ d, ρ[i]? = some (some d) ∧ d.frz = true ∧ Q d
def Put (i : Nat) (o : Option D) (ρ : Rho) (Q : Rho → Prop) : Prop := Q (ρ.set i o)
def Bif (b : Bool) (A B : Prop) : Prop := if b = true then A else B
def IsBl (d : D) (Q : Bool → Prop) : Prop := ∃ b, d = .bl b ∧ Q b
def IsFz (d : D) (Q : Prop) : Prop := d.frz = true ∧ Q
def Then (n : MS) (Q : Out → Prop) (o : Out) : Prop := match o with
  | .nx ρ => WS n ρ Q
  | o => Q o
theorem W.imp {α : Type} {m : M α} {ρ : Rho} {E E' : Exc → Rho → Prop} {Q Q' : α → Rho → Prop} (h : W m ρ E Q) (hE : ∀ e ρ, E e ρ → E' e ρ) (hQ : ∀ d ρ, Q d ρ → Q' d ρ) : W m ρ E' Q' := by
  unfold W at *
  split at h
  · exact hQ _ _ h
  · exact hE _ _ h
  · exact h
section
variable {α : Type} {ρ : Rho} {E : Exc → Rho → Prop} {Q : D → Rho → Prop} {QB : Bool → Rho → Prop} {QL : List D → Rho → Prop} {QA : List ArgV → Rho → Prop} {QO : Option Int → Rho → Prop} {R : Out → Prop} {m ma mb : M D} {mc md : M Bool} {ms : M (List D)} {as : M (List ArgV)} {n n' : MS} {i : Nat} {d : D}
theorem w_bind {β : Type} {m : M α} {k : α → M β} {Q : β → Rho → Prop} (h : W m ρ E fun a ρ1 => W (k a) ρ1 E Q) : W (mBind m k) ρ E Q := by
  unfold W mBind at *
  cases hm : m ρ <;> rw [hm] at h <;> exact h
theorem w_pure {a : α} {Q : α → Rho → Prop} (h : Q a ρ) : W (mPure a) ρ E Q := h
theorem w_opt {o : Option α} {Q : α → Rho → Prop} (h : WO o fun a => Q a ρ) : W (mOpt o) ρ E Q := by
  obtain ⟨c, rfl, q⟩ := h
  exact q
theorem w_pk (h : Get i ρ fun d => Q d ρ) : W (ePk i) ρ E Q := by
  obtain ⟨d, e, q⟩ := h
  unfold W ePk
  rw [e]
  exact q
theorem w_fz (h : W m ρ E fun d ρ1 => IsFz d (Q d ρ1)) : W (eFz m) ρ E Q := by
  unfold W eFz at *
  cases hm : m ρ with
  | ok d ρ' =>
    rw [hm] at h
    obtain ⟨f, q⟩ := h
    simp only [f, if_true]
    exact q
  | exc e ρ' => rw [hm] at h; exact h
  | stuck => rw [hm] at h; exact h
theorem w_var (h : GetF i ρ fun d => Q d ρ) : W (eVar i) ρ E Q := by
  obtain ⟨d, e, f, q⟩ := h
  exact w_fz (w_pk ⟨d, e, f, q⟩)
theorem w_mov (h : Get i ρ fun d => Put i none ρ fun ρ1 => Q d ρ1) : W (eMov i) ρ E Q := by
  obtain ⟨d, e, q⟩ := h
  unfold W eMov
  rw [e]
  exact q
theorem w_k (h : Q d ρ) : W (eK d) ρ E Q := h
theorem w_op {f : D → D → Option D} (h : W ma ρ E fun a ρ1 => W mb ρ1 E fun b ρ2 => WO (f a b) fun c => Q c ρ2) : W (eOp f ma mb) ρ E Q :=
  w_bind (h.imp (fun _ _ h => h) fun _ _ h => w_bind (h.imp (fun _ _ h => h) fun _ _ h => w_opt h))
theorem w_un {f : D → Option D} (h : W m ρ E fun a ρ1 => WO (f a) fun c => Q c ρ1) : W (eUn f m) ρ E Q := w_bind (h.imp (fun _ _ h => h) fun _ _ h => w_opt h)
theorem w_fn {f : List D → Option D} (h : W ms ρ E fun a ρ1 => WO (f a) fun c => Q c ρ1) : W (eFn f ms) ρ E Q := w_bind (h.imp (fun _ _ h => h) fun _ _ h => w_opt h)
theorem w_lst (h : W ms ρ E fun ds ρ1 => ds.length ≤ 100000 ∧ Q (.lst true ds) ρ1) : W (eLst ms) ρ E Q := w_bind (h.imp (fun _ _ h => h) fun ds _ h => w_opt ⟨_, if_pos h.1, h.2⟩)
theorem w_tup (h : W ms ρ E fun ds ρ1 => ds.length ≤ 100000 ∧ Q (.tup ds) ρ1) : W (eTup ms) ρ E Q := w_bind (h.imp (fun _ _ h => h) fun ds _ h => w_opt ⟨_, if_pos h.1, h.2⟩)
theorem w_lnil (h : QL [] ρ) : W lNil ρ E QL := h
theorem w_lcons (h : W m ρ E fun d ρ1 => W ms ρ1 E fun ds ρ2 => QL (d :: ds) ρ2) : W (lCons m ms) ρ E QL := w_bind (h.imp (fun _ _ h => h) fun _ _ h => w_bind h)
theorem w_mt {f : List Nat → List D → Option D} (h : W m ρ E fun d ρ1 => ∃ s, d = .str s ∧ W ms ρ1 E fun ds ρ2 => WO (f s ds) fun c => Q c ρ2) : W (eMt f m ms) ρ E Q := by
  refine w_bind (h.imp (fun _ _ h => h) fun d _ h => ?_)
  obtain ⟨s, rfl, h⟩ := h
  exact w_bind (h.imp (fun _ _ h => h) fun _ _ h => w_opt h)
theorem w_onone (h : QO none ρ) : W oNone ρ E QO := h
theorem w_osome (h : W m ρ E fun d ρ1 => ∃ i, d = .int i ∧ QO (some i) ρ1) : W (oSome m) ρ E QO := by
  unfold W oSome at *
  cases hm : m ρ with
  | ok d ρ' =>
    rw [hm] at h
    obtain ⟨i, rfl, q⟩ := h
    exact q
  | exc e ρ' => rw [hm] at h; exact h
  | stuck => rw [hm] at h; exact h
theorem w_sl {lo hi : M (Option Int)} (h : W m ρ E fun d ρ1 => W lo ρ1 E fun l ρ2 => W hi ρ2 E fun u ρ3 => WO (slD d l u) fun c => Q c ρ3) : W (eSl m lo hi) ρ E Q :=
  w_bind (h.imp (fun _ _ h => h) fun _ _ h => w_bind (h.imp (fun _ _ h => h) fun _ _ h => w_bind (h.imp (fun _ _ h => h) fun _ _ h => w_opt h)))
theorem w_mb (h : W m ρ E fun d ρ1 => IsBl d fun b => QB b ρ1) : W (mB m) ρ E QB := by
  unfold W mB at *
  cases hm : m ρ with
  | ok d ρ' =>
    rw [hm] at h
    obtain ⟨b, rfl, q⟩ := h
    exact q
  | exc e ρ' => rw [hm] at h; exact h
  | stuck => rw [hm] at h; exact h
theorem w_bo (h : W mc ρ E fun b ρ1 => Q (.bl b) ρ1) : W (eBo mc) ρ E Q := w_bind h
theorem w_mand (h : W mc ρ E fun b ρ1 => Bif b (W md ρ1 E QB) (QB false ρ1)) : W (mAnd mc md) ρ E QB := w_bind (h.imp (fun _ _ h => h) fun b _ h => by cases b <;> exact h)
theorem w_mor (h : W mc ρ E fun b ρ1 => Bif b (QB true ρ1) (W md ρ1 E QB)) : W (mOr mc md) ρ E QB := w_bind (h.imp (fun _ _ h => h) fun b _ h => by cases b <;> exact h)
theorem w_not (h : W mc ρ E fun b ρ1 => QB (!b) ρ1) : W (mNot mc) ρ E QB := w_bind h
theorem w_if (h : W mc ρ E fun b ρ1 => Bif b (W ma ρ1 E Q) (W mb ρ1 E Q)) : W (eIf mc ma mb) ρ E Q := w_bind (h.imp (fun _ _ h => h) fun b _ h => by cases b <;> exact h)
theorem w_yes (h : QB true ρ) : W mYes ρ E QB := h
theorem is_bl {b : Bool} {Q : Bool → Prop} (h : Q b) : IsBl (.bl b) Q := ⟨b, rfl, h⟩
theorem bif_dec {p : Prop} {inst : Decidable p} {A B : Prop} (h1 : p → A) (h2 : ¬p → B) : Bif (decide p) A B := by
  unfold Bif
  by_cases h : p
  · rw [if_pos (decide_eq_true h)]; exact h1 h
  · rw [if_neg (by simpa using h)]; exact h2 h
theorem bif_b {b : Bool} {A B : Prop} (h1 : b = true → A) (h2 : b = false → B) : Bif b A B := by
  unfold Bif
  cases b
  · exact h2 rfl
  · exact h1 rfl
theorem bif_t {A B : Prop} (h : A) : Bif true A B := h
theorem bif_f {A B : Prop} (h : B) : Bif false A B := h
theorem bif_n {b : Bool} {A B : Prop} (h : Bif b B A) : Bif (!b) A B := by cases b <;> exact h
theorem bif_and {b c : Bool} {A B : Prop} (h : Bif b (Bif c A B) B) : Bif (b && c) A B := by cases b <;> exact h
theorem bif_or {b c : Bool} {A B : Prop} (h : Bif b A (Bif c A B)) : Bif (b || c) A B := by cases b <;> exact h
/-! calls -/
theorem w_anil (h : QA [] ρ) : W aNil ρ E QA := h
theorem w_aval (h : W m ρ E fun d ρ1 => W as ρ1 E fun ds ρ2 => QA (.val d :: ds) ρ2) : W (aVal m as) ρ E QA := w_bind (h.imp (fun _ _ h => h) fun _ _ h => w_bind h)
theorem w_alend (h : Get i ρ fun _ => W as ρ E fun ds ρ2 => QA (.lend i :: ds) ρ2) : W (aLend i as) ρ E QA := by
  obtain ⟨d, e, q⟩ := h
  unfold aLend W
  dsimp only
  rw [e]
  exact w_bind q
def Take : List ArgV → Rho → (List D → Rho → Prop) → Prop := fun as ρ Q => match takeAll as ρ with
  | some (ds, ρ') => Q ds ρ'
  | none => False
def Back : List ArgV → List D → List (Option D) → Rho → (Rho → Prop) → Prop := fun as ds ps ρ Q => Q (putBack as ds ps ρ)
theorem w_call {g : List D → Fo} (h : W as ρ E fun vs ρ1 => Take vs ρ1 fun ds ρ2 => WF (g ds) (fun e ps => Back vs ds ps ρ2 fun ρ3 => E e ρ3) fun d ps => Back vs ds ps ρ2 fun ρ3 => Q d ρ3) : W (eCall g as) ρ E Q := by
  refine w_bind (h.imp (fun _ _ h => h) fun vs ρ1 h => ?_)
  unfold Take at h
  unfold W
  cases ht : takeAll vs ρ1 with
  | none => rw [ht] at h; exact h.elim
  | some x =>
    obtain ⟨ds, ρ2⟩ := x
    rw [ht] at h
    dsimp only at h ⊢
    unfold WF at h
    rw [ht]
    dsimp only
    cases hg : g ds <;> rw [hg] at h <;> exact h
theorem tk_nil {Q : List D → Rho → Prop} (h : Q [] ρ) : Take [] ρ Q := h
theorem tk_val {vs : List ArgV} {Q : List D → Rho → Prop} (h : Take vs ρ fun ds ρ1 => Q (d :: ds) ρ1) : Take (.val d :: vs) ρ Q := by
  unfold Take at h
  show (match (match takeAll vs ρ with
    | some (ds, ρ') => some (d :: ds, ρ')
    | none => none) with
    | some (ds, ρ') => Q ds ρ'
    | none => False)
  cases ht : takeAll vs ρ with
  | none => rw [ht] at h; exact h.elim
  | some x => rw [ht] at h; exact h
theorem tk_lendO {vs : List ArgV} {Q : List D → Rho → Prop} (h : Get i ρ fun d => d.frz = false ∧ Put i none ρ fun ρ1 => Take vs ρ1 fun ds ρ2 => Q (d :: ds) ρ2) : Take (.lend i :: vs) ρ Q := by
  obtain ⟨d, e, f, h⟩ := h
  unfold Put Take at h
  unfold Take takeAll
  simp only [e, f]
  cases ht : takeAll vs (ρ.set i none) <;> simp only [ht, Bool.false_eq_true, if_false] at h ⊢
  exact h
theorem bk_nil {Q : Rho → Prop} {ds ps} (h : Q ρ) : Back [] ds ps ρ Q := by unfold Back putBack; exact h
theorem bk_val {Q : Rho → Prop} {vs ds ps p} {d' : D} (h : Back vs ds ps ρ Q) : Back (.val d' :: vs) (d :: ds) (p :: ps) ρ Q := h
theorem bk_lendO {Q : Rho → Prop} {vs ds ps} {p : Option D} (f : d.frz = false) (h : Put i p ρ fun ρ1 => Back vs ds ps ρ1 Q) : Back (.lend i :: vs) (d :: ds) (p :: ps) ρ Q := by
  unfold Back putBack
  rw [f]
  exact h
/-! statements -/
theorem s_seq (h : WS n ρ (Then n' R)) : WS (sSeq n n') ρ R := by
  unfold WS Then sSeq at *
  cases hn : n ρ <;> rw [hn] at h <;> exact h
theorem th_nx (h : WS n ρ R) : Then n R (.nx ρ) := h
theorem th_rt (h : R (.rt d ρ)) : Then n R (.rt d ρ) := h
theorem th_bk (h : R (.bk ρ)) : Then n R (.bk ρ) := h
theorem th_ct (h : R (.ct ρ)) : Then n R (.ct ρ) := h
theorem s_of {m : M α} {f : α → Rho → Out} (h : W m ρ (fun e ρ1 => R (.exc e ρ1)) fun d ρ1 => R (f d ρ1)) : R (ofRes (m ρ) f) := by
  unfold W at h
  cases hm : m ρ <;> rw [hm] at h
  · exact h
  · exact h
  · exact h.elim
theorem w_next (h : R (.nx ρ)) : WS sNext ρ R := h
theorem w_brk (h : R (.bk ρ)) : WS sBrk ρ R := h
theorem w_cnt (h : R (.ct ρ)) : WS sCnt ρ R := h
theorem w_set (h : W m ρ (fun e ρ1 => R (.exc e ρ1)) fun d ρ1 => Put i (some d) ρ1 fun ρ2 => R (.nx ρ2)) : WS (sSet i m) ρ R := s_of h
theorem w_sex (h : W m ρ (fun e ρ1 => R (.exc e ρ1)) fun d ρ1 => R (.nx ρ1)) : WS (sEx m) ρ R := s_of h
theorem w_ret (h : W m ρ (fun e ρ1 => R (.exc e ρ1)) fun d ρ1 => R (.rt d ρ1)) : WS (sRet m) ρ R := s_of h
theorem w_retn (h : R (.rt .non ρ)) : WS sRetN ρ R := h
theorem w_sif (h : W mc ρ (fun e ρ1 => R (.exc e ρ1)) fun b ρ1 => Bif b (WS n ρ1 R) (WS n' ρ1 R)) : WS (sIf mc n n') ρ R := s_of (h.imp (fun _ _ h => h) fun b _ h => by cases b <;> exact h)
theorem w_frz (h : Get i ρ fun d => Put i (some d.freeze) ρ fun ρ1 => WS n ρ1 R) : WS (sFrz i n) ρ R := by
  obtain ⟨d, e, q⟩ := h
  unfold WS sFrz
  rw [e]
  exact q
/-- one that is frozen before -/
theorem w_frz0 (h : GetF i ρ fun _ => WS n ρ R) (hz : ∀ d : D, d.frz = true → d.freeze = d) : WS (sFrz i n) ρ R := by
  obtain ⟨d, e, f, q⟩ := h
  unfold WS sFrz at *
  rw [e]
  dsimp only
  rw [hz d f, set_self e]
  exact q
theorem w_for {mi : M (List D)} {g : D → Rho → Option Rho} (h : W mi ρ (fun e ρ1 => R (.exc e ρ1)) fun xs ρ1 => R (forL g n xs ρ1)) : WS (sFor g mi n) ρ R := s_of h
theorem w_ival (h : W m ρ E fun d ρ1 => WO (itD d) fun xs => QL xs ρ1) : W (iVal m) ρ E QL := w_bind (h.imp (fun _ _ h => h) fun _ _ h => w_opt h)
theorem w_aug {f : D → D → Option D} (h : GetF i ρ fun a => W m ρ (fun e ρ1 => R (.exc e ρ1)) fun b ρ1 => WO (f a b) fun c => Put i (some c) ρ1 fun ρ2 => R (.nx ρ2)) : WS (sAug i f m) ρ R := by
  obtain ⟨d, e, fz, q⟩ := h
  unfold WS sAug
  rw [e]
  simp only [fz, if_true]
  refine s_of (q.imp (fun _ _ h => h) fun b ρ1 h => ?_)
  obtain ⟨c, hc, q⟩ := h
  rw [hc]
  exact q
/-- the loop, by an invariant over what is left -/
def GNext (g : D → Rho → Option Rho) (x : D) (ρ : Rho) (Q : Rho → Prop) : Prop := ∃ ρ1, g x ρ = some ρ1 ∧ Q ρ1
theorem g_n {x : D} {Q : Rho → Prop} (h : Put i (some x) ρ Q) : GNext (gN i) x ρ Q := ⟨_, rfl, h⟩
def Turn (I : Rho → Prop) (R : Out → Prop) (o : Out) : Prop := match o with
  | .nx ρ => I ρ
  | .ct ρ => I ρ
  | .bk ρ => R (.nx ρ)
  | o => R o
theorem tn_nx {I : Rho → Prop} (h : I ρ) : Turn I R (.nx ρ) := h
theorem tn_ct {I : Rho → Prop} (h : I ρ) : Turn I R (.ct ρ) := h
theorem tn_bk {I : Rho → Prop} (h : R (.nx ρ)) : Turn I R (.bk ρ) := h
theorem tn_rt {I : Rho → Prop} (h : R (.rt d ρ)) : Turn I R (.rt d ρ) := h
theorem tn_exc {I : Rho → Prop} {e : Exc} (h : R (.exc e ρ)) : Turn I R (.exc e ρ) := h
theorem for_inv {g : D → Rho → Option Rho} (I : List D → Rho → Prop) (step : ∀ x xs ρ, I (x :: xs) ρ → GNext g x ρ fun ρ1 => WS n ρ1 (Turn (I xs) R)) (fin : ∀ ρ, I [] ρ → R (.nx ρ)) : ∀ xs ρ, I xs ρ → R (forL g n xs ρ)
  | [], ρ, h => fin ρ h
  | x :: xs, ρ, h => by
    obtain ⟨ρ1, e, q⟩ := step x xs ρ h
    unfold forL
    rw [e]
    dsimp only
    unfold WS Turn at q
    cases hb : n ρ1 <;> rw [hb] at q
    · exact for_inv I step fin xs _ q
    · exact q
    · exact q
    · exact for_inv I step fin xs _ q
    · exact q
    · exact q
/-- while, by a measure -/
theorem while_inv {k : Nat} (I : Nat → Rho → Prop) (step : ∀ j ρ, I j ρ → W mc ρ (fun e ρ1 => R (.exc e ρ1)) fun b ρ1 => Bif b (WS n ρ1 (Turn (fun ρ2 => ∃ l, l < j ∧ I l ρ2) R)) (R (.nx ρ1))) : ∀ j ρ, j < k → I j ρ → WS (whileN mc n k) ρ R := by
  induction k with
  | zero => intro j ρ hj _; omega
  | succ k ih =>
    intro j ρ hj h
    have s := step j ρ h
    unfold WS
    show R (match mc ρ with
      | .ok true ρ1 => (match n ρ1 with
        | .nx ρ2 => whileN mc n k ρ2
        | .ct ρ2 => whileN mc n k ρ2
        | .bk ρ2 => .nx ρ2
        | o => o)
      | .ok false ρ1 => .nx ρ1
      | .exc e ρ1 => .exc e ρ1
      | .stuck => .stuck)
    unfold W at s
    cases hm : mc ρ with
    | stuck => rw [hm] at s; exact s.elim
    | exc e ρ1 => rw [hm] at s; exact s
    | ok b ρ1 =>
      rw [hm] at s
      cases b with
      | false => exact s
      | true =>
        have s : WS n ρ1 (Turn (fun ρ2 => ∃ l, l < j ∧ I l ρ2) R) := s
        unfold WS Turn at s
        dsimp only
        cases hb : n ρ1 <;> rw [hb] at s
        · obtain ⟨l, hl, q⟩ := s; exact ih l _ (by omega) q
        · exact s
        · exact s
        · obtain ⟨l, hl, q⟩ := s; exact ih l _ (by omega) q
        · exact s
        · exact s
theorem w_while {k : Nat} (h : R (whileN mc n k ρ)) : WS (whileN mc n k) ρ R := h
/-- lists changed -/
def GetL (i : Nat) (ρ : Rho) (Q : List D → Prop) : Prop := ∃ xs, lstAt i ρ = some xs ∧ Q xs
theorem getL {Q : List D → Prop} (h : Get i ρ fun d => ∃ xs, d = .lst true xs ∧ Q xs) : GetL i ρ Q := by
  obtain ⟨d, e, xs, rfl, q⟩ := h
  exact ⟨xs, by unfold lstAt; rw [e], q⟩
theorem w_app (h : GetL i ρ fun _ => W m ρ E fun d ρ1 => GetL i ρ1 fun xs => xs.length < 16777216 ∧ Put i (some (.lst true (xs ++ [d]))) ρ1 fun ρ2 => Q .non ρ2) : W (eApp i m) ρ E Q := by
  obtain ⟨ys, e, h⟩ := h
  unfold W eApp
  rw [e]
  refine w_bind (h.imp (fun _ _ h => h) fun d ρ1 h => ?_)
  obtain ⟨xs, e, hl, h⟩ := h
  unfold W
  dsimp only
  rw [e]
  simp only [hl, if_true]
  exact h
theorem w_pop (h : GetL i ρ fun xs => ∃ y, xs[xs.length - 1]? = some y ∧ Put i (some (.lst true xs.dropLast)) ρ fun ρ2 => Q y ρ2) : W (ePop i) ρ E Q := by
  obtain ⟨xs, e, y, e2, h⟩ := h
  unfold W ePop
  rw [e]
  simp only [e2]
  exact h
theorem w_setix {mi mv : M D} (h : GetL i ρ fun _ => W mv ρ (fun e ρ1 => R (.exc e ρ1)) fun d ρ1 => W mi ρ1 (fun e ρ1 => R (.exc e ρ1)) fun k ρ2 => GetL i ρ2 fun xs => ∃ (kk : Int) (j : Nat), k = .int kk ∧ ixN xs.length kk = some j ∧ Put i (some (.lst true (xs.set j d))) ρ2 fun ρ3 => R (.nx ρ3)) : WS (sSetIx i mi mv) ρ R := by
  obtain ⟨ys, e, h⟩ := h
  unfold WS sSetIx
  rw [e]
  refine s_of (h.imp (fun _ _ h => h) fun d ρ1 h => ?_)
  refine s_of (h.imp (fun _ _ h => h) fun k ρ2 h => ?_)
  obtain ⟨xs, e, kk, j, rfl, ej, h⟩ := h
  unfold setIx
  rw [e]
  simp only [ej]
  exact h
/-! comprehensions -/
theorem lc_inv {g : D → Rho → Option Rho} {vs : List Nat} {QL : List D → Rho → Prop} (I : List D → List D → Rho → Prop)
    (step : ∀ x xs acc ρ, I (x :: xs) acc ρ → GNext g x ρ fun ρ1 => W mc ρ1 (fun _ _ => False) fun b ρ2 => Bif b (W m ρ2 (fun _ _ => False) fun d ρ3 => acc.length < 16777216 ∧ I xs (acc ++ [d]) (wipeR ρ3 vs)) (I xs acc (wipeR ρ2 vs)))
    (fin : ∀ acc ρ, I [] acc ρ → QL acc ρ) : ∀ xs acc ρ, I xs acc ρ → ∃ ds ρ', lcL g mc m vs xs acc ρ = .ok ds ρ' ∧ QL ds ρ'
  | [], acc, ρ, h => ⟨acc, ρ, rfl, fin _ _ h⟩
  | x :: xs, acc, ρ, h => by
    obtain ⟨ρ1, e, q⟩ := step x xs acc ρ h
    unfold lcL
    rw [e]
    dsimp only
    unfold W at q
    cases hc : mc ρ1 with
    | stuck => rw [hc] at q; exact q.elim
    | exc e ρ1 => rw [hc] at q; exact q.elim
    | ok b ρ2 =>
      rw [hc] at q
      cases b with
      | false => exact lc_inv I step fin xs acc _ q
      | true =>
        have q : W m ρ2 (fun _ _ => False) fun d ρ3 => acc.length < 16777216 ∧ I xs (acc ++ [d]) (wipeR ρ3 vs) := q
        unfold W at q
        dsimp only
        cases hm : m ρ2 with
        | stuck => rw [hm] at q; exact q.elim
        | exc e ρ1 => rw [hm] at q; exact q.elim
        | ok d ρ3 =>
          rw [hm] at q
          dsimp only
          rw [if_pos q.1]
          exact lc_inv I step fin xs _ _ q.2
def Rest (vs : List Nat) (ρ0 ρ : Rho) (Q : Rho → Prop) : Prop := Q (restR ρ0 ρ vs)
theorem rest_nil {ρ0 : Rho} {Q : Rho → Prop} (h : Q ρ) : Rest [] ρ0 ρ Q := h
theorem w_lc {g : D → Rho → Option Rho} {vs : List Nat} {mi : M (List D)} (h : W mi ρ E fun xs ρ1 => ∃ ds ρ2, lcL g mc m vs xs [] (wipeR ρ1 vs) = .ok ds ρ2 ∧ Rest vs ρ1 ρ2 fun ρ3 => Q (.lst true ds) ρ3) : W (eLc g mi mc m vs) ρ E Q := by
  unfold W eLc at *
  cases hi : mi ρ with
  | stuck => rw [hi] at h; exact h
  | exc e ρ1 => rw [hi] at h; exact h
  | ok xs ρ1 =>
    rw [hi] at h
    obtain ⟨ds, ρ2, e, q⟩ := h
    dsimp only
    rw [e]
    exact q
/-! ranges -/
def rng (k n : Nat) : List D := (List.range' k n).map fun i : Nat => D.int (i : Int)
theorem rng_succ (k n : Nat) : rng k (n + 1) = D.int (k : Int) :: rng (k + 1) n := by
  unfold rng
  rw [List.range'_succ]; rfl
theorem rng_zero (k : Nat) : rng k 0 = [] := rfl
theorem rng_len (k n : Nat) : (rng k n).length = n := by simp [rng]
def IsRg (d : D) (Q : List D → Prop) : Prop := ∃ j : Int, d = .int j ∧ -(2 ^ 62) ≤ j ∧ j < 2 ^ 62 ∧ Q (rng 0 j.toNat)
theorem is_rg {j : Int} {Q : List D → Prop} (h1 : -4611686018427387904 ≤ j) (h2 : j < 4611686018427387904) (q : Q (rng 0 j.toNat)) : IsRg (.int j) Q := ⟨j, rfl, by omega, by omega, q⟩
theorem w_rg1 {QL : List D → Rho → Prop} (h : W m ρ E fun d ρ1 => IsRg d fun xs => QL xs ρ1) : W (iRg1 m) ρ E QL := by
  refine w_bind (h.imp (fun _ _ h => h) fun d _ h => w_opt ?_)
  obtain ⟨j, rfl, h1, h2, q⟩ := h
  refine ⟨_, if_pos ⟨h1, h2⟩, ?_⟩
  unfold rng at q
  rw [List.range_eq_range']
  exact q
/-! the def -/
def Fin (kp : List Nat) (np : Nat) (E : Exc → List (Option D) → Prop) (Q : D → List (Option D) → Prop) (o : Out) : Prop := match o with
  | .nx ρ => Q .non (pick kp 0 np ρ)
  | .rt d ρ => Q d (pick kp 0 np ρ)
  | .exc e ρ => E e (pick kp 0 np ρ)
  | _ => False
theorem wf_run {kp : List Nat} {np nl : Nat} {ds : List D} {E : Exc → List (Option D) → Prop} {Q : D → List (Option D) → Prop} (hl : ds.length = np) (hρ : ds.map some ++ List.replicate nl none = ρ) (h : WS n ρ (Fin kp np E Q)) : WF (runF kp np nl n ds) E Q := by
  unfold runF
  rw [if_pos hl, hρ]
  unfold WS Fin at h
  unfold WF
  cases hn : n ρ <;> rw [hn] at h <;> simp only [hn] <;> exact h
theorem fn_rt {kp : List Nat} {np : Nat} {E : Exc → List (Option D) → Prop} {Q : D → List (Option D) → Prop} {ps : List (Option D)} (hp : pick kp 0 np ρ = ps) (h : Q d ps) : Fin kp np E Q (.rt d ρ) := by subst hp; exact h
theorem fn_nx {kp : List Nat} {np : Nat} {E : Exc → List (Option D) → Prop} {Q : D → List (Option D) → Prop} {ps : List (Option D)} (hp : pick kp 0 np ρ = ps) (h : Q .non ps) : Fin kp np E Q (.nx ρ) := by subst hp; exact h
theorem wf_ok {f : Fo} {d : D} {ps : List (Option D)} (h : WF f (fun _ _ => False) fun d' ps' => d' = d ∧ ps' = ps) : f = .ok d ps := by
  unfold WF at h
  cases f <;> simp only at h
  obtain ⟨rfl, rfl⟩ := h
  rfl
theorem wf_of {f : Fo} {d : D} {ps : List (Option D)} {E : Exc → List (Option D) → Prop} {Q : D → List (Option D) → Prop} (h : f = .ok d ps) (q : Q d ps) : WF f E Q := by subst h; exact q
theorem wo {α : Type} {o : Option α} {c : α} {Q : α → Prop} (h : o = some c) (q : Q c) : WO o Q := ⟨c, h, q⟩
end
section
variable {x : D} {o v : Option D} {r : Rho} {Q : D → Prop} {QR : Rho → Prop}
theorem get_0 (h : Q x) : Get 0 (some x :: r) Q := ⟨x, rfl, h⟩
theorem gef_0 (hf : x.frz = true) (h : Q x) : GetF 0 (some x :: r) Q := ⟨x, rfl, hf, h⟩
theorem rest_0 {is : List Nat} {ρ : Rho} (h : Rest is (none :: r) ρ QR) : Rest (0 :: is) (none :: r) ρ QR := h
theorem resv_0 {is : List Nat} {ρ : Rho} (hf : x.frz = true) (h : Put 0 (some x) ρ fun ρ1 => Rest is (some x :: r) ρ1 QR) : Rest (0 :: is) (some x :: r) ρ QR := by
  unfold Rest; show QR (restR _ (if x.frz then _ else _) is); rw [hf]; exact h
theorem put_0 (h : QR (v :: r)) : Put 0 v (o :: r) QR := h
theorem get_1 {a0 : Option D} (h : Q x) : Get 1 (a0 :: some x :: r) Q := ⟨x, rfl, h⟩
theorem gef_1 {a0 : Option D} (hf : x.frz = true) (h : Q x) : GetF 1 (a0 :: some x :: r) Q := ⟨x, rfl, hf, h⟩
theorem rest_1 {a0 : Option D} {is : List Nat} {ρ : Rho} (h : Rest is (a0 :: none :: r) ρ QR) : Rest (1 :: is) (a0 :: none :: r) ρ QR := h
theorem resv_1 {a0 : Option D} {is : List Nat} {ρ : Rho} (hf : x.frz = true) (h : Put 1 (some x) ρ fun ρ1 => Rest is (a0 :: some x :: r) ρ1 QR) : Rest (1 :: is) (a0 :: some x :: r) ρ QR := by
  unfold Rest; show QR (restR _ (if x.frz then _ else _) is); rw [hf]; exact h
theorem put_1 {a0 : Option D} (h : QR (a0 :: v :: r)) : Put 1 v (a0 :: o :: r) QR := h
theorem get_2 {a0 a1 : Option D} (h : Q x) : Get 2 (a0 :: a1 :: some x :: r) Q := ⟨x, rfl, h⟩
theorem gef_2 {a0 a1 : Option D} (hf : x.frz = true) (h : Q x) : GetF 2 (a0 :: a1 :: some x :: r) Q := ⟨x, rfl, hf, h⟩
theorem rest_2 {a0 a1 : Option D} {is : List Nat} {ρ : Rho} (h : Rest is (a0 :: a1 :: none :: r) ρ QR) : Rest (2 :: is) (a0 :: a1 :: none :: r) ρ QR := h
theorem resv_2 {a0 a1 : Option D} {is : List Nat} {ρ : Rho} (hf : x.frz = true) (h : Put 2 (some x) ρ fun ρ1 => Rest is (a0 :: a1 :: some x :: r) ρ1 QR) : Rest (2 :: is) (a0 :: a1 :: some x :: r) ρ QR := by
  unfold Rest; show QR (restR _ (if x.frz then _ else _) is); rw [hf]; exact h
theorem put_2 {a0 a1 : Option D} (h : QR (a0 :: a1 :: v :: r)) : Put 2 v (a0 :: a1 :: o :: r) QR := h
theorem get_3 {a0 a1 a2 : Option D} (h : Q x) : Get 3 (a0 :: a1 :: a2 :: some x :: r) Q := ⟨x, rfl, h⟩
theorem gef_3 {a0 a1 a2 : Option D} (hf : x.frz = true) (h : Q x) : GetF 3 (a0 :: a1 :: a2 :: some x :: r) Q := ⟨x, rfl, hf, h⟩
theorem rest_3 {a0 a1 a2 : Option D} {is : List Nat} {ρ : Rho} (h : Rest is (a0 :: a1 :: a2 :: none :: r) ρ QR) : Rest (3 :: is) (a0 :: a1 :: a2 :: none :: r) ρ QR := h
theorem resv_3 {a0 a1 a2 : Option D} {is : List Nat} {ρ : Rho} (hf : x.frz = true) (h : Put 3 (some x) ρ fun ρ1 => Rest is (a0 :: a1 :: a2 :: some x :: r) ρ1 QR) : Rest (3 :: is) (a0 :: a1 :: a2 :: some x :: r) ρ QR := by
  unfold Rest; show QR (restR _ (if x.frz then _ else _) is); rw [hf]; exact h
theorem put_3 {a0 a1 a2 : Option D} (h : QR (a0 :: a1 :: a2 :: v :: r)) : Put 3 v (a0 :: a1 :: a2 :: o :: r) QR := h
theorem get_4 {a0 a1 a2 a3 : Option D} (h : Q x) : Get 4 (a0 :: a1 :: a2 :: a3 :: some x :: r) Q := ⟨x, rfl, h⟩
theorem gef_4 {a0 a1 a2 a3 : Option D} (hf : x.frz = true) (h : Q x) : GetF 4 (a0 :: a1 :: a2 :: a3 :: some x :: r) Q := ⟨x, rfl, hf, h⟩
theorem rest_4 {a0 a1 a2 a3 : Option D} {is : List Nat} {ρ : Rho} (h : Rest is (a0 :: a1 :: a2 :: a3 :: none :: r) ρ QR) : Rest (4 :: is) (a0 :: a1 :: a2 :: a3 :: none :: r) ρ QR := h
theorem resv_4 {a0 a1 a2 a3 : Option D} {is : List Nat} {ρ : Rho} (hf : x.frz = true) (h : Put 4 (some x) ρ fun ρ1 => Rest is (a0 :: a1 :: a2 :: a3 :: some x :: r) ρ1 QR) : Rest (4 :: is) (a0 :: a1 :: a2 :: a3 :: some x :: r) ρ QR := by
  unfold Rest; show QR (restR _ (if x.frz then _ else _) is); rw [hf]; exact h
theorem put_4 {a0 a1 a2 a3 : Option D} (h : QR (a0 :: a1 :: a2 :: a3 :: v :: r)) : Put 4 v (a0 :: a1 :: a2 :: a3 :: o :: r) QR := h
theorem get_5 {a0 a1 a2 a3 a4 : Option D} (h : Q x) : Get 5 (a0 :: a1 :: a2 :: a3 :: a4 :: some x :: r) Q := ⟨x, rfl, h⟩
theorem gef_5 {a0 a1 a2 a3 a4 : Option D} (hf : x.frz = true) (h : Q x) : GetF 5 (a0 :: a1 :: a2 :: a3 :: a4 :: some x :: r) Q := ⟨x, rfl, hf, h⟩
theorem rest_5 {a0 a1 a2 a3 a4 : Option D} {is : List Nat} {ρ : Rho} (h : Rest is (a0 :: a1 :: a2 :: a3 :: a4 :: none :: r) ρ QR) : Rest (5 :: is) (a0 :: a1 :: a2 :: a3 :: a4 :: none :: r) ρ QR := h
theorem resv_5 {a0 a1 a2 a3 a4 : Option D} {is : List Nat} {ρ : Rho} (hf : x.frz = true) (h : Put 5 (some x) ρ fun ρ1 => Rest is (a0 :: a1 :: a2 :: a3 :: a4 :: some x :: r) ρ1 QR) : Rest (5 :: is) (a0 :: a1 :: a2 :: a3 :: a4 :: some x :: r) ρ QR := by
  unfold Rest; show QR (restR _ (if x.frz then _ else _) is); rw [hf]; exact h
theorem put_5 {a0 a1 a2 a3 a4 : Option D} (h : QR (a0 :: a1 :: a2 :: a3 :: a4 :: v :: r)) : Put 5 v (a0 :: a1 :: a2 :: a3 :: a4 :: o :: r) QR := h
theorem get_6 {a0 a1 a2 a3 a4 a5 : Option D} (h : Q x) : Get 6 (a0 :: a1 :: a2 :: a3 :: a4 :: a5 :: some x :: r) Q := ⟨x, rfl, h⟩
theorem gef_6 {a0 a1 a2 a3 a4 a5 : Option D} (hf : x.frz = true) (h : Q x) : GetF 6 (a0 :: a1 :: a2 :: a3 :: a4 :: a5 :: some x :: r) Q := ⟨x, rfl, hf, h⟩
theorem rest_6 {a0 a1 a2 a3 a4 a5 : Option D} {is : List Nat} {ρ : Rho} (h : Rest is (a0 :: a1 :: a2 :: a3 :: a4 :: a5 :: none :: r) ρ QR) : Rest (6 :: is) (a0 :: a1 :: a2 :: a3 :: a4 :: a5 :: none :: r) ρ QR := h
theorem resv_6 {a0 a1 a2 a3 a4 a5 : Option D} {is : List Nat} {ρ : Rho} (hf : x.frz = true) (h : Put 6 (some x) ρ fun ρ1 => Rest is (a0 :: a1 :: a2 :: a3 :: a4 :: a5 :: some x :: r) ρ1 QR) : Rest (6 :: is) (a0 :: a1 :: a2 :: a3 :: a4 :: a5 :: some x :: r) ρ QR := by
  unfold Rest; show QR (restR _ (if x.frz then _ else _) is); rw [hf]; exact h
theorem put_6 {a0 a1 a2 a3 a4 a5 : Option D} (h : QR (a0 :: a1 :: a2 :: a3 :: a4 :: a5 :: v :: r)) : Put 6 v (a0 :: a1 :: a2 :: a3 :: a4 :: a5 :: o :: r) QR := h
theorem get_7 {a0 a1 a2 a3 a4 a5 a6 : Option D} (h : Q x) : Get 7 (a0 :: a1 :: a2 :: a3 :: a4 :: a5 :: a6 :: some x :: r) Q := ⟨x, rfl, h⟩
theorem gef_7 {a0 a1 a2 a3 a4 a5 a6 : Option D} (hf : x.frz = true) (h : Q x) : GetF 7 (a0 :: a1 :: a2 :: a3 :: a4 :: a5 :: a6 :: some x :: r) Q := ⟨x, rfl, hf, h⟩
theorem rest_7 {a0 a1 a2 a3 a4 a5 a6 : Option D} {is : List Nat} {ρ : Rho} (h : Rest is (a0 :: a1 :: a2 :: a3 :: a4 :: a5 :: a6 :: none :: r) ρ QR) : Rest (7 :: is) (a0 :: a1 :: a2 :: a3 :: a4 :: a5 :: a6 :: none :: r) ρ QR := h
theorem resv_7 {a0 a1 a2 a3 a4 a5 a6 : Option D} {is : List Nat} {ρ : Rho} (hf : x.frz = true) (h : Put 7 (some x) ρ fun ρ1 => Rest is (a0 :: a1 :: a2 :: a3 :: a4 :: a5 :: a6 :: some x :: r) ρ1 QR) : Rest (7 :: is) (a0 :: a1 :: a2 :: a3 :: a4 :: a5 :: a6 :: some x :: r) ρ QR := by
  unfold Rest; show QR (restR _ (if x.frz then _ else _) is); rw [hf]; exact h
theorem put_7 {a0 a1 a2 a3 a4 a5 a6 : Option D} (h : QR (a0 :: a1 :: a2 :: a3 :: a4 :: a5 :: a6 :: v :: r)) : Put 7 v (a0 :: a1 :: a2 :: a3 :: a4 :: a5 :: a6 :: o :: r) QR := h
theorem get_8 {a0 a1 a2 a3 a4 a5 a6 a7 : Option D} (h : Q x) : Get 8 (a0 :: a1 :: a2 :: a3 :: a4 :: a5 :: a6 :: a7 :: some x :: r) Q := ⟨x, rfl, h⟩
theorem gef_8 {a0 a1 a2 a3 a4 a5 a6 a7 : Option D} (hf : x.frz = true) (h : Q x) : GetF 8 (a0 :: a1 :: a2 :: a3 :: a4 :: a5 :: a6 :: a7 :: some x :: r) Q := ⟨x, rfl, hf, h⟩
theorem rest_8 {a0 a1 a2 a3 a4 a5 a6 a7 : Option D} {is : List Nat} {ρ : Rho} (h : Rest is (a0 :: a1 :: a2 :: a3 :: a4 :: a5 :: a6 :: a7 :: none :: r) ρ QR) : Rest (8 :: is) (a0 :: a1 :: a2 :: a3 :: a4 :: a5 :: a6 :: a7 :: none :: r) ρ QR := h
theorem resv_8 {a0 a1 a2 a3 a4 a5 a6 a7 : Option D} {is : List Nat} {ρ : Rho} (hf : x.frz = true) (h : Put 8 (some x) ρ fun ρ1 => Rest is (a0 :: a1 :: a2 :: a3 :: a4 :: a5 :: a6 :: a7 :: some x :: r) ρ1 QR) : Rest (8 :: is) (a0 :: a1 :: a2 :: a3 :: a4 :: a5 :: a6 :: a7 :: some x :: r) ρ QR := by
  unfold Rest; show QR (restR _ (if x.frz then _ else _) is); rw [hf]; exact h
theorem put_8 {a0 a1 a2 a3 a4 a5 a6 a7 : Option D} (h : QR (a0 :: a1 :: a2 :: a3 :: a4 :: a5 :: a6 :: a7 :: v :: r)) : Put 8 v (a0 :: a1 :: a2 :: a3 :: a4 :: a5 :: a6 :: a7 :: o :: r) QR := h
theorem get_9 {a0 a1 a2 a3 a4 a5 a6 a7 a8 : Option D} (h : Q x) : Get 9 (a0 :: a1 :: a2 :: a3 :: a4 :: a5 :: a6 :: a7 :: a8 :: some x :: r) Q := ⟨x, rfl, h⟩
theorem gef_9 {a0 a1 a2 a3 a4 a5 a6 a7 a8 : Option D} (hf : x.frz = true) (h : Q x) : GetF 9 (a0 :: a1 :: a2 :: a3 :: a4 :: a5 :: a6 :: a7 :: a8 :: some x :: r) Q := ⟨x, rfl, hf, h⟩
theorem rest_9 {a0 a1 a2 a3 a4 a5 a6 a7 a8 : Option D} {is : List Nat} {ρ : Rho} (h : Rest is (a0 :: a1 :: a2 :: a3 :: a4 :: a5 :: a6 :: a7 :: a8 :: none :: r) ρ QR) : Rest (9 :: is) (a0 :: a1 :: a2 :: a3 :: a4 :: a5 :: a6 :: a7 :: a8 :: none :: r) ρ QR := h
theorem resv_9 {a0 a1 a2 a3 a4 a5 a6 a7 a8 : Option D} {is : List Nat} {ρ : Rho} (hf : x.frz = true) (h : Put 9 (some x) ρ fun ρ1 => Rest is (a0 :: a1 :: a2 :: a3 :: a4 :: a5 :: a6 :: a7 :: a8 :: some x :: r) ρ1 QR) : Rest (9 :: is) (a0 :: a1 :: a2 :: a3 :: a4 :: a5 :: a6 :: a7 :: a8 :: some x :: r) ρ QR := by
  unfold Rest; show QR (restR _ (if x.frz then _ else _) is); rw [hf]; exact h
theorem put_9 {a0 a1 a2 a3 a4 a5 a6 a7 a8 : Option D} (h : QR (a0 :: a1 :: a2 :: a3 :: a4 :: a5 :: a6 :: a7 :: a8 :: v :: r)) : Put 9 v (a0 :: a1 :: a2 :: a3 :: a4 :: a5 :: a6 :: a7 :: a8 :: o :: r) QR := h
theorem get_10 {a0 a1 a2 a3 a4 a5 a6 a7 a8 a9 : Option D} (h : Q x) : Get 10 (a0 :: a1 :: a2 :: a3 :: a4 :: a5 :: a6 :: a7 :: a8 :: a9 :: some x :: r) Q := ⟨x, rfl, h⟩
theorem gef_10 {a0 a1 a2 a3 a4 a5 a6 a7 a8 a9 : Option D} (hf : x.frz = true) (h : Q x) : GetF 10 (a0 :: a1 :: a2 :: a3 :: a4 :: a5 :: a6 :: a7 :: a8 :: a9 :: some x :: r) Q := ⟨x, rfl, hf, h⟩
theorem rest_10 {a0 a1 a2 a3 a4 a5 a6 a7 a8 a9 : Option D} {is : List Nat} {ρ : Rho} (h : Rest is (a0 :: a1 :: a2 :: a3 :: a4 :: a5 :: a6 :: a7 :: a8 :: a9 :: none :: r) ρ QR) : Rest (10 :: is) (a0 :: a1 :: a2 :: a3 :: a4 :: a5 :: a6 :: a7 :: a8 :: a9 :: none :: r) ρ QR := h
theorem resv_10 {a0 a1 a2 a3 a4 a5 a6 a7 a8 a9 : Option D} {is : List Nat} {ρ : Rho} (hf : x.frz = true) (h : Put 10 (some x) ρ fun ρ1 => Rest is (a0 :: a1 :: a2 :: a3 :: a4 :: a5 :: a6 :: a7 :: a8 :: a9 :: some x :: r) ρ1 QR) : Rest (10 :: is) (a0 :: a1 :: a2 :: a3 :: a4 :: a5 :: a6 :: a7 :: a8 :: a9 :: some x :: r) ρ QR := by
  unfold Rest; show QR (restR _ (if x.frz then _ else _) is); rw [hf]; exact h
theorem put_10 {a0 a1 a2 a3 a4 a5 a6 a7 a8 a9 : Option D} (h : QR (a0 :: a1 :: a2 :: a3 :: a4 :: a5 :: a6 :: a7 :: a8 :: a9 :: v :: r)) : Put 10 v (a0 :: a1 :: a2 :: a3 :: a4 :: a5 :: a6 :: a7 :: a8 :: a9 :: o :: r) QR := h
theorem get_11 {a0 a1 a2 a3 a4 a5 a6 a7 a8 a9 a10 : Option D} (h : Q x) : Get 11 (a0 :: a1 :: a2 :: a3 :: a4 :: a5 :: a6 :: a7 :: a8 :: a9 :: a10 :: some x :: r) Q := ⟨x, rfl, h⟩
theorem gef_11 {a0 a1 a2 a3 a4 a5 a6 a7 a8 a9 a10 : Option D} (hf : x.frz = true) (h : Q x) : GetF 11 (a0 :: a1 :: a2 :: a3 :: a4 :: a5 :: a6 :: a7 :: a8 :: a9 :: a10 :: some x :: r) Q := ⟨x, rfl, hf, h⟩
theorem rest_11 {a0 a1 a2 a3 a4 a5 a6 a7 a8 a9 a10 : Option D} {is : List Nat} {ρ : Rho} (h : Rest is (a0 :: a1 :: a2 :: a3 :: a4 :: a5 :: a6 :: a7 :: a8 :: a9 :: a10 :: none :: r) ρ QR) : Rest (11 :: is) (a0 :: a1 :: a2 :: a3 :: a4 :: a5 :: a6 :: a7 :: a8 :: a9 :: a10 :: none :: r) ρ QR := h
theorem resv_11 {a0 a1 a2 a3 a4 a5 a6 a7 a8 a9 a10 : Option D} {is : List Nat} {ρ : Rho} (hf : x.frz = true) (h : Put 11 (some x) ρ fun ρ1 => Rest is (a0 :: a1 :: a2 :: a3 :: a4 :: a5 :: a6 :: a7 :: a8 :: a9 :: a10 :: some x :: r) ρ1 QR) : Rest (11 :: is) (a0 :: a1 :: a2 :: a3 :: a4 :: a5 :: a6 :: a7 :: a8 :: a9 :: a10 :: some x :: r) ρ QR := by
  unfold Rest; show QR (restR _ (if x.frz then _ else _) is); rw [hf]; exact h
theorem put_11 {a0 a1 a2 a3 a4 a5 a6 a7 a8 a9 a10 : Option D} (h : QR (a0 :: a1 :: a2 :: a3 :: a4 :: a5 :: a6 :: a7 :: a8 :: a9 :: a10 :: v :: r)) : Put 11 v (a0 :: a1 :: a2 :: a3 :: a4 :: a5 :: a6 :: a7 :: a8 :: a9 :: a10 :: o :: r) QR := h
theorem get_12 {a0 a1 a2 a3 a4 a5 a6 a7 a8 a9 a10 a11 : Option D} (h : Q x) : Get 12 (a0 :: a1 :: a2 :: a3 :: a4 :: a5 :: a6 :: a7 :: a8 :: a9 :: a10 :: a11 :: some x :: r) Q := ⟨x, rfl, h⟩
theorem gef_12 {a0 a1 a2 a3 a4 a5 a6 a7 a8 a9 a10 a11 : Option D} (hf : x.frz = true) (h : Q x) : GetF 12 (a0 :: a1 :: a2 :: a3 :: a4 :: a5 :: a6 :: a7 :: a8 :: a9 :: a10 :: a11 :: some x :: r) Q := ⟨x, rfl, hf, h⟩
theorem rest_12 {a0 a1 a2 a3 a4 a5 a6 a7 a8 a9 a10 a11 : Option D} {is : List Nat} {ρ : Rho} (h : Rest is (a0 :: a1 :: a2 :: a3 :: a4 :: a5 :: a6 :: a7 :: a8 :: a9 :: a10 :: a11 :: none :: r) ρ QR) : Rest (12 :: is) (a0 :: a1 :: a2 :: a3 :: a4 :: a5 :: a6 :: a7 :: a8 :: a9 :: a10 :: a11 :: none :: r) ρ QR := h
theorem resv_12 {a0 a1 a2 a3 a4 a5 a6 a7 a8 a9 a10 a11 : Option D} {is : List Nat} {ρ : Rho} (hf : x.frz = true) (h : Put 12 (some x) ρ fun ρ1 => Rest is (a0 :: a1 :: a2 :: a3 :: a4 :: a5 :: a6 :: a7 :: a8 :: a9 :: a10 :: a11 :: some x :: r) ρ1 QR) : Rest (12 :: is) (a0 :: a1 :: a2 :: a3 :: a4 :: a5 :: a6 :: a7 :: a8 :: a9 :: a10 :: a11 :: some x :: r) ρ QR := by
  unfold Rest; show QR (restR _ (if x.frz then _ else _) is); rw [hf]; exact h
theorem put_12 {a0 a1 a2 a3 a4 a5 a6 a7 a8 a9 a10 a11 : Option D} (h : QR (a0 :: a1 :: a2 :: a3 :: a4 :: a5 :: a6 :: a7 :: a8 :: a9 :: a10 :: a11 :: v :: r)) : Put 12 v (a0 :: a1 :: a2 :: a3 :: a4 :: a5 :: a6 :: a7 :: a8 :: a9 :: a10 :: a11 :: o :: r) QR := h
theorem get_13 {a0 a1 a2 a3 a4 a5 a6 a7 a8 a9 a10 a11 a12 : Option D} (h : Q x) : Get 13 (a0 :: a1 :: a2 :: a3 :: a4 :: a5 :: a6 :: a7 :: a8 :: a9 :: a10 :: a11 :: a12 :: some x :: r) Q := ⟨x, rfl, h⟩
theorem gef_13 {a0 a1 a2 a3 a4 a5 a6 a7 a8 a9 a10 a11 a12 : Option D} (hf : x.frz = true) (h : Q x) : GetF 13 (a0 :: a1 :: a2 :: a3 :: a4 :: a5 :: a6 :: a7 :: a8 :: a9 :: a10 :: a11 :: a12 :: some x :: r) Q := ⟨x, rfl, hf, h⟩
theorem rest_13 {a0 a1 a2 a3 a4 a5 a6 a7 a8 a9 a10 a11 a12 : Option D} {is : List Nat} {ρ : Rho} (h : Rest is (a0 :: a1 :: a2 :: a3 :: a4 :: a5 :: a6 :: a7 :: a8 :: a9 :: a10 :: a11 :: a12 :: none :: r) ρ QR) : Rest (13 :: is) (a0 :: a1 :: a2 :: a3 :: a4 :: a5 :: a6 :: a7 :: a8 :: a9 :: a10 :: a11 :: a12 :: none :: r) ρ QR := h
theorem resv_13 {a0 a1 a2 a3 a4 a5 a6 a7 a8 a9 a10 a11 a12 : Option D} {is : List Nat} {ρ : Rho} (hf : x.frz = true) (h : Put 13 (some x) ρ fun ρ1 => Rest is (a0 :: a1 :: a2 :: a3 :: a4 :: a5 :: a6 :: a7 :: a8 :: a9 :: a10 :: a11 :: a12 :: some x :: r) ρ1 QR) : Rest (13 :: is) (a0 :: a1 :: a2 :: a3 :: a4 :: a5 :: a6 :: a7 :: a8 :: a9 :: a10 :: a11 :: a12 :: some x :: r) ρ QR := by
  unfold Rest; show QR (restR _ (if x.frz then _ else _) is); rw [hf]; exact h
theorem put_13 {a0 a1 a2 a3 a4 a5 a6 a7 a8 a9 a10 a11 a12 : Option D} (h : QR (a0 :: a1 :: a2 :: a3 :: a4 :: a5 :: a6 :: a7 :: a8 :: a9 :: a10 :: a11 :: a12 :: v :: r)) : Put 13 v (a0 :: a1 :: a2 :: a3 :: a4 :: a5 :: a6 :: a7 :: a8 :: a9 :: a10 :: a11 :: a12 :: o :: r) QR := h
theorem get_14 {a0 a1 a2 a3 a4 a5 a6 a7 a8 a9 a10 a11 a12 a13 : Option D} (h : Q x) : Get 14 (a0 :: a1 :: a2 :: a3 :: a4 :: a5 :: a6 :: a7 :: a8 :: a9 :: a10 :: a11 :: a12 :: a13 :: some x :: r) Q := ⟨x, rfl, h⟩
theorem gef_14 {a0 a1 a2 a3 a4 a5 a6 a7 a8 a9 a10 a11 a12 a13 : Option D} (hf : x.frz = true) (h : Q x) : GetF 14 (a0 :: a1 :: a2 :: a3 :: a4 :: a5 :: a6 :: a7 :: a8 :: a9 :: a10 :: a11 :: a12 :: a13 :: some x :: r) Q := ⟨x, rfl, hf, h⟩
theorem rest_14 {a0 a1 a2 a3 a4 a5 a6 a7 a8 a9 a10 a11 a12 a13 : Option D} {is : List Nat} {ρ : Rho} (h : Rest is (a0 :: a1 :: a2 :: a3 :: a4 :: a5 :: a6 :: a7 :: a8 :: a9 :: a10 :: a11 :: a12 :: a13 :: none :: r) ρ QR) : Rest (14 :: is) (a0 :: a1 :: a2 :: a3 :: a4 :: a5 :: a6 :: a7 :: a8 :: a9 :: a10 :: a11 :: a12 :: a13 :: none :: r) ρ QR := h
theorem resv_14 {a0 a1 a2 a3 a4 a5 a6 a7 a8 a9 a10 a11 a12 a13 : Option D} {is : List Nat} {ρ : Rho} (hf : x.frz = true) (h : Put 14 (some x) ρ fun ρ1 => Rest is (a0 :: a1 :: a2 :: a3 :: a4 :: a5 :: a6 :: a7 :: a8 :: a9 :: a10 :: a11 :: a12 :: a13 :: some x :: r) ρ1 QR) : Rest (14 :: is) (a0 :: a1 :: a2 :: a3 :: a4 :: a5 :: a6 :: a7 :: a8 :: a9 :: a10 :: a11 :: a12 :: a13 :: some x :: r) ρ QR := by
  unfold Rest; show QR (restR _ (if x.frz then _ else _) is); rw [hf]; exact h
theorem put_14 {a0 a1 a2 a3 a4 a5 a6 a7 a8 a9 a10 a11 a12 a13 : Option D} (h : QR (a0 :: a1 :: a2 :: a3 :: a4 :: a5 :: a6 :: a7 :: a8 :: a9 :: a10 :: a11 :: a12 :: a13 :: v :: r)) : Put 14 v (a0 :: a1 :: a2 :: a3 :: a4 :: a5 :: a6 :: a7 :: a8 :: a9 :: a10 :: a11 :: a12 :: a13 :: o :: r) QR := h
theorem get_15 {a0 a1 a2 a3 a4 a5 a6 a7 a8 a9 a10 a11 a12 a13 a14 : Option D} (h : Q x) : Get 15 (a0 :: a1 :: a2 :: a3 :: a4 :: a5 :: a6 :: a7 :: a8 :: a9 :: a10 :: a11 :: a12 :: a13 :: a14 :: some x :: r) Q := ⟨x, rfl, h⟩
theorem gef_15 {a0 a1 a2 a3 a4 a5 a6 a7 a8 a9 a10 a11 a12 a13 a14 : Option D} (hf : x.frz = true) (h : Q x) : GetF 15 (a0 :: a1 :: a2 :: a3 :: a4 :: a5 :: a6 :: a7 :: a8 :: a9 :: a10 :: a11 :: a12 :: a13 :: a14 :: some x :: r) Q := ⟨x, rfl, hf, h⟩
theorem rest_15 {a0 a1 a2 a3 a4 a5 a6 a7 a8 a9 a10 a11 a12 a13 a14 : Option D} {is : List Nat} {ρ : Rho} (h : Rest is (a0 :: a1 :: a2 :: a3 :: a4 :: a5 :: a6 :: a7 :: a8 :: a9 :: a10 :: a11 :: a12 :: a13 :: a14 :: none :: r) ρ QR) : Rest (15 :: is) (a0 :: a1 :: a2 :: a3 :: a4 :: a5 :: a6 :: a7 :: a8 :: a9 :: a10 :: a11 :: a12 :: a13 :: a14 :: none :: r) ρ QR := h
theorem resv_15 {a0 a1 a2 a3 a4 a5 a6 a7 a8 a9 a10 a11 a12 a13 a14 : Option D} {is : List Nat} {ρ : Rho} (hf : x.frz = true) (h : Put 15 (some x) ρ fun ρ1 => Rest is (a0 :: a1 :: a2 :: a3 :: a4 :: a5 :: a6 :: a7 :: a8 :: a9 :: a10 :: a11 :: a12 :: a13 :: a14 :: some x :: r) ρ1 QR) : Rest (15 :: is) (a0 :: a1 :: a2 :: a3 :: a4 :: a5 :: a6 :: a7 :: a8 :: a9 :: a10 :: a11 :: a12 :: a13 :: a14 :: some x :: r) ρ QR := by
  unfold Rest; show QR (restR _ (if x.frz then _ else _) is); rw [hf]; exact h
theorem put_15 {a0 a1 a2 a3 a4 a5 a6 a7 a8 a9 a10 a11 a12 a13 a14 : Option D} (h : QR (a0 :: a1 :: a2 :: a3 :: a4 :: a5 :: a6 :: a7 :: a8 :: a9 :: a10 :: a11 :: a12 :: a13 :: a14 :: v :: r)) : Put 15 v (a0 :: a1 :: a2 :: a3 :: a4 :: a5 :: a6 :: a7 :: a8 :: a9 :: a10 :: a11 :: a12 :: a13 :: a14 :: o :: r) QR := h
theorem get_16 {a0 a1 a2 a3 a4 a5 a6 a7 a8 a9 a10 a11 a12 a13 a14 a15 : Option D} (h : Q x) : Get 16 (a0 :: a1 :: a2 :: a3 :: a4 :: a5 :: a6 :: a7 :: a8 :: a9 :: a10 :: a11 :: a12 :: a13 :: a14 :: a15 :: some x :: r) Q := ⟨x, rfl, h⟩
theorem gef_16 {a0 a1 a2 a3 a4 a5 a6 a7 a8 a9 a10 a11 a12 a13 a14 a15 : Option D} (hf : x.frz = true) (h : Q x) : GetF 16 (a0 :: a1 :: a2 :: a3 :: a4 :: a5 :: a6 :: a7 :: a8 :: a9 :: a10 :: a11 :: a12 :: a13 :: a14 :: a15 :: some x :: r) Q := ⟨x, rfl, hf, h⟩
theorem rest_16 {a0 a1 a2 a3 a4 a5 a6 a7 a8 a9 a10 a11 a12 a13 a14 a15 : Option D} {is : List Nat} {ρ : Rho} (h : Rest is (a0 :: a1 :: a2 :: a3 :: a4 :: a5 :: a6 :: a7 :: a8 :: a9 :: a10 :: a11 :: a12 :: a13 :: a14 :: a15 :: none :: r) ρ QR) : Rest (16 :: is) (a0 :: a1 :: a2 :: a3 :: a4 :: a5 :: a6 :: a7 :: a8 :: a9 :: a10 :: a11 :: a12 :: a13 :: a14 :: a15 :: none :: r) ρ QR := h
theorem resv_16 {a0 a1 a2 a3 a4 a5 a6 a7 a8 a9 a10 a11 a12 a13 a14 a15 : Option D} {is : List Nat} {ρ : Rho} (hf : x.frz = true) (h : Put 16 (some x) ρ fun ρ1 => Rest is (a0 :: a1 :: a2 :: a3 :: a4 :: a5 :: a6 :: a7 :: a8 :: a9 :: a10 :: a11 :: a12 :: a13 :: a14 :: a15 :: some x :: r) ρ1 QR) : Rest (16 :: is) (a0 :: a1 :: a2 :: a3 :: a4 :: a5 :: a6 :: a7 :: a8 :: a9 :: a10 :: a11 :: a12 :: a13 :: a14 :: a15 :: some x :: r) ρ QR := by
  unfold Rest; show QR (restR _ (if x.frz then _ else _) is); rw [hf]; exact h
theorem put_16 {a0 a1 a2 a3 a4 a5 a6 a7 a8 a9 a10 a11 a12 a13 a14 a15 : Option D} (h : QR (a0 :: a1 :: a2 :: a3 :: a4 :: a5 :: a6 :: a7 :: a8 :: a9 :: a10 :: a11 :: a12 :: a13 :: a14 :: a15 :: v :: r)) : Put 16 v (a0 :: a1 :: a2 :: a3 :: a4 :: a5 :: a6 :: a7 :: a8 :: a9 :: a10 :: a11 :: a12 :: a13 :: a14 :: a15 :: o :: r) QR := h
theorem get_17 {a0 a1 a2 a3 a4 a5 a6 a7 a8 a9 a10 a11 a12 a13 a14 a15 a16 : Option D} (h : Q x) : Get 17 (a0 :: a1 :: a2 :: a3 :: a4 :: a5 :: a6 :: a7 :: a8 :: a9 :: a10 :: a11 :: a12 :: a13 :: a14 :: a15 :: a16 :: some x :: r) Q := ⟨x, rfl, h⟩
theorem gef_17 {a0 a1 a2 a3 a4 a5 a6 a7 a8 a9 a10 a11 a12 a13 a14 a15 a16 : Option D} (hf : x.frz = true) (h : Q x) : GetF 17 (a0 :: a1 :: a2 :: a3 :: a4 :: a5 :: a6 :: a7 :: a8 :: a9 :: a10 :: a11 :: a12 :: a13 :: a14 :: a15 :: a16 :: some x :: r) Q := ⟨x, rfl, hf, h⟩
theorem rest_17 {a0 a1 a2 a3 a4 a5 a6 a7 a8 a9 a10 a11 a12 a13 a14 a15 a16 : Option D} {is : List Nat} {ρ : Rho} (h : Rest is (a0 :: a1 :: a2 :: a3 :: a4 :: a5 :: a6 :: a7 :: a8 :: a9 :: a10 :: a11 :: a12 :: a13 :: a14 :: a15 :: a16 :: none :: r) ρ QR) : Rest (17 :: is) (a0 :: a1 :: a2 :: a3 :: a4 :: a5 :: a6 :: a7 :: a8 :: a9 :: a10 :: a11 :: a12 :: a13 :: a14 :: a15 :: a16 :: none :: r) ρ QR := h
theorem resv_17 {a0 a1 a2 a3 a4 a5 a6 a7 a8 a9 a10 a11 a12 a13 a14 a15 a16 : Option D} {is : List Nat} {ρ : Rho} (hf : x.frz = true) (h : Put 17 (some x) ρ fun ρ1 => Rest is (a0 :: a1 :: a2 :: a3 :: a4 :: a5 :: a6 :: a7 :: a8 :: a9 :: a10 :: a11 :: a12 :: a13 :: a14 :: a15 :: a16 :: some x :: r) ρ1 QR) : Rest (17 :: is) (a0 :: a1 :: a2 :: a3 :: a4 :: a5 :: a6 :: a7 :: a8 :: a9 :: a10 :: a11 :: a12 :: a13 :: a14 :: a15 :: a16 :: some x :: r) ρ QR := by
  unfold Rest; show QR (restR _ (if x.frz then _ else _) is); rw [hf]; exact h
theorem put_17 {a0 a1 a2 a3 a4 a5 a6 a7 a8 a9 a10 a11 a12 a13 a14 a15 a16 : Option D} (h : QR (a0 :: a1 :: a2 :: a3 :: a4 :: a5 :: a6 :: a7 :: a8 :: a9 :: a10 :: a11 :: a12 :: a13 :: a14 :: a15 :: a16 :: v :: r)) : Put 17 v (a0 :: a1 :: a2 :: a3 :: a4 :: a5 :: a6 :: a7 :: a8 :: a9 :: a10 :: a11 :: a12 :: a13 :: a14 :: a15 :: a16 :: o :: r) QR := h
theorem get_18 {a0 a1 a2 a3 a4 a5 a6 a7 a8 a9 a10 a11 a12 a13 a14 a15 a16 a17 : Option D} (h : Q x) : Get 18 (a0 :: a1 :: a2 :: a3 :: a4 :: a5 :: a6 :: a7 :: a8 :: a9 :: a10 :: a11 :: a12 :: a13 :: a14 :: a15 :: a16 :: a17 :: some x :: r) Q := ⟨x, rfl, h⟩
theorem gef_18 {a0 a1 a2 a3 a4 a5 a6 a7 a8 a9 a10 a11 a12 a13 a14 a15 a16 a17 : Option D} (hf : x.frz = true) (h : Q x) : GetF 18 (a0 :: a1 :: a2 :: a3 :: a4 :: a5 :: a6 :: a7 :: a8 :: a9 :: a10 :: a11 :: a12 :: a13 :: a14 :: a15 :: a16 :: a17 :: some x :: r) Q := ⟨x, rfl, hf, h⟩
theorem rest_18 {a0 a1 a2 a3 a4 a5 a6 a7 a8 a9 a10 a11 a12 a13 a14 a15 a16 a17 : Option D} {is : List Nat} {ρ : Rho} (h : Rest is (a0 :: a1 :: a2 :: a3 :: a4 :: a5 :: a6 :: a7 :: a8 :: a9 :: a10 :: a11 :: a12 :: a13 :: a14 :: a15 :: a16 :: a17 :: none :: r) ρ QR) : Rest (18 :: is) (a0 :: a1 :: a2 :: a3 :: a4 :: a5 :: a6 :: a7 :: a8 :: a9 :: a10 :: a11 :: a12 :: a13 :: a14 :: a15 :: a16 :: a17 :: none :: r) ρ QR := h
theorem resv_18 {a0 a1 a2 a3 a4 a5 a6 a7 a8 a9 a10 a11 a12 a13 a14 a15 a16 a17 : Option D} {is : List Nat} {ρ : Rho} (hf : x.frz = true) (h : Put 18 (some x) ρ fun ρ1 => Rest is (a0 :: a1 :: a2 :: a3 :: a4 :: a5 :: a6 :: a7 :: a8 :: a9 :: a10 :: a11 :: a12 :: a13 :: a14 :: a15 :: a16 :: a17 :: some x :: r) ρ1 QR) : Rest (18 :: is) (a0 :: a1 :: a2 :: a3 :: a4 :: a5 :: a6 :: a7 :: a8 :: a9 :: a10 :: a11 :: a12 :: a13 :: a14 :: a15 :: a16 :: a17 :: some x :: r) ρ QR := by
  unfold Rest; show QR (restR _ (if x.frz then _ else _) is); rw [hf]; exact h
theorem put_18 {a0 a1 a2 a3 a4 a5 a6 a7 a8 a9 a10 a11 a12 a13 a14 a15 a16 a17 : Option D} (h : QR (a0 :: a1 :: a2 :: a3 :: a4 :: a5 :: a6 :: a7 :: a8 :: a9 :: a10 :: a11 :: a12 :: a13 :: a14 :: a15 :: a16 :: a17 :: v :: r)) : Put 18 v (a0 :: a1 :: a2 :: a3 :: a4 :: a5 :: a6 :: a7 :: a8 :: a9 :: a10 :: a11 :: a12 :: a13 :: a14 :: a15 :: a16 :: a17 :: o :: r) QR := h
theorem get_19 {a0 a1 a2 a3 a4 a5 a6 a7 a8 a9 a10 a11 a12 a13 a14 a15 a16 a17 a18 : Option D} (h : Q x) : Get 19 (a0 :: a1 :: a2 :: a3 :: a4 :: a5 :: a6 :: a7 :: a8 :: a9 :: a10 :: a11 :: a12 :: a13 :: a14 :: a15 :: a16 :: a17 :: a18 :: some x :: r) Q := ⟨x, rfl, h⟩
theorem gef_19 {a0 a1 a2 a3 a4 a5 a6 a7 a8 a9 a10 a11 a12 a13 a14 a15 a16 a17 a18 : Option D} (hf : x.frz = true) (h : Q x) : GetF 19 (a0 :: a1 :: a2 :: a3 :: a4 :: a5 :: a6 :: a7 :: a8 :: a9 :: a10 :: a11 :: a12 :: a13 :: a14 :: a15 :: a16 :: a17 :: a18 :: some x :: r) Q := ⟨x, rfl, hf, h⟩
theorem rest_19 {a0 a1 a2 a3 a4 a5 a6 a7 a8 a9 a10 a11 a12 a13 a14 a15 a16 a17 a18 : Option D} {is : List Nat} {ρ : Rho} (h : Rest is (a0 :: a1 :: a2 :: a3 :: a4 :: a5 :: a6 :: a7 :: a8 :: a9 :: a10 :: a11 :: a12 :: a13 :: a14 :: a15 :: a16 :: a17 :: a18 :: none :: r) ρ QR) : Rest (19 :: is) (a0 :: a1 :: a2 :: a3 :: a4 :: a5 :: a6 :: a7 :: a8 :: a9 :: a10 :: a11 :: a12 :: a13 :: a14 :: a15 :: a16 :: a17 :: a18 :: none :: r) ρ QR := h
theorem resv_19 {a0 a1 a2 a3 a4 a5 a6 a7 a8 a9 a10 a11 a12 a13 a14 a15 a16 a17 a18 : Option D} {is : List Nat} {ρ : Rho} (hf : x.frz = true) (h : Put 19 (some x) ρ fun ρ1 => Rest is (a0 :: a1 :: a2 :: a3 :: a4 :: a5 :: a6 :: a7 :: a8 :: a9 :: a10 :: a11 :: a12 :: a13 :: a14 :: a15 :: a16 :: a17 :: a18 :: some x :: r) ρ1 QR) : Rest (19 :: is) (a0 :: a1 :: a2 :: a3 :: a4 :: a5 :: a6 :: a7 :: a8 :: a9 :: a10 :: a11 :: a12 :: a13 :: a14 :: a15 :: a16 :: a17 :: a18 :: some x :: r) ρ QR := by
  unfold Rest; show QR (restR _ (if x.frz then _ else _) is); rw [hf]; exact h
theorem put_19 {a0 a1 a2 a3 a4 a5 a6 a7 a8 a9 a10 a11 a12 a13 a14 a15 a16 a17 a18 : Option D} (h : QR (a0 :: a1 :: a2 :: a3 :: a4 :: a5 :: a6 :: a7 :: a8 :: a9 :: a10 :: a11 :: a12 :: a13 :: a14 :: a15 :: a16 :: a17 :: a18 :: v :: r)) : Put 19 v (a0 :: a1 :: a2 :: a3 :: a4 :: a5 :: a6 :: a7 :: a8 :: a9 :: a10 :: a11 :: a12 :: a13 :: a14 :: a15 :: a16 :: a17 :: a18 :: o :: r) QR := h
theorem get_20 {a0 a1 a2 a3 a4 a5 a6 a7 a8 a9 a10 a11 a12 a13 a14 a15 a16 a17 a18 a19 : Option D} (h : Q x) : Get 20 (a0 :: a1 :: a2 :: a3 :: a4 :: a5 :: a6 :: a7 :: a8 :: a9 :: a10 :: a11 :: a12 :: a13 :: a14 :: a15 :: a16 :: a17 :: a18 :: a19 :: some x :: r) Q := ⟨x, rfl, h⟩
theorem gef_20 {a0 a1 a2 a3 a4 a5 a6 a7 a8 a9 a10 a11 a12 a13 a14 a15 a16 a17 a18 a19 : Option D} (hf : x.frz = true) (h : Q x) : GetF 20 (a0 :: a1 :: a2 :: a3 :: a4 :: a5 :: a6 :: a7 :: a8 :: a9 :: a10 :: a11 :: a12 :: a13 :: a14 :: a15 :: a16 :: a17 :: a18 :: a19 :: some x :: r) Q := ⟨x, rfl, hf, h⟩
theorem rest_20 {a0 a1 a2 a3 a4 a5 a6 a7 a8 a9 a10 a11 a12 a13 a14 a15 a16 a17 a18 a19 : Option D} {is : List Nat} {ρ : Rho} (h : Rest is (a0 :: a1 :: a2 :: a3 :: a4 :: a5 :: a6 :: a7 :: a8 :: a9 :: a10 :: a11 :: a12 :: a13 :: a14 :: a15 :: a16 :: a17 :: a18 :: a19 :: none :: r) ρ QR) : Rest (20 :: is) (a0 :: a1 :: a2 :: a3 :: a4 :: a5 :: a6 :: a7 :: a8 :: a9 :: a10 :: a11 :: a12 :: a13 :: a14 :: a15 :: a16 :: a17 :: a18 :: a19 :: none :: r) ρ QR := h
theorem resv_20 {a0 a1 a2 a3 a4 a5 a6 a7 a8 a9 a10 a11 a12 a13 a14 a15 a16 a17 a18 a19 : Option D} {is : List Nat} {ρ : Rho} (hf : x.frz = true) (h : Put 20 (some x) ρ fun ρ1 => Rest is (a0 :: a1 :: a2 :: a3 :: a4 :: a5 :: a6 :: a7 :: a8 :: a9 :: a10 :: a11 :: a12 :: a13 :: a14 :: a15 :: a16 :: a17 :: a18 :: a19 :: some x :: r) ρ1 QR) : Rest (20 :: is) (a0 :: a1 :: a2 :: a3 :: a4 :: a5 :: a6 :: a7 :: a8 :: a9 :: a10 :: a11 :: a12 :: a13 :: a14 :: a15 :: a16 :: a17 :: a18 :: a19 :: some x :: r) ρ QR := by
  unfold Rest; show QR (restR _ (if x.frz then _ else _) is); rw [hf]; exact h
theorem put_20 {a0 a1 a2 a3 a4 a5 a6 a7 a8 a9 a10 a11 a12 a13 a14 a15 a16 a17 a18 a19 : Option D} (h : QR (a0 :: a1 :: a2 :: a3 :: a4 :: a5 :: a6 :: a7 :: a8 :: a9 :: a10 :: a11 :: a12 :: a13 :: a14 :: a15 :: a16 :: a17 :: a18 :: a19 :: v :: r)) : Put 20 v (a0 :: a1 :: a2 :: a3 :: a4 :: a5 :: a6 :: a7 :: a8 :: a9 :: a10 :: a11 :: a12 :: a13 :: a14 :: a15 :: a16 :: a17 :: a18 :: a19 :: o :: r) QR := h
theorem get_21 {a0 a1 a2 a3 a4 a5 a6 a7 a8 a9 a10 a11 a12 a13 a14 a15 a16 a17 a18 a19 a20 : Option D} (h : Q x) : Get 21 (a0 :: a1 :: a2 :: a3 :: a4 :: a5 :: a6 :: a7 :: a8 :: a9 :: a10 :: a11 :: a12 :: a13 :: a14 :: a15 :: a16 :: a17 :: a18 :: a19 :: a20 :: some x :: r) Q := ⟨x, rfl, h⟩
theorem gef_21 {a0 a1 a2 a3 a4 a5 a6 a7 a8 a9 a10 a11 a12 a13 a14 a15 a16 a17 a18 a19 a20 : Option D} (hf : x.frz = true) (h : Q x) : GetF 21 (a0 :: a1 :: a2 :: a3 :: a4 :: a5 :: a6 :: a7 :: a8 :: a9 :: a10 :: a11 :: a12 :: a13 :: a14 :: a15 :: a16 :: a17 :: a18 :: a19 :: a20 :: some x :: r) Q := ⟨x, rfl, hf, h⟩
theorem rest_21 {a0 a1 a2 a3 a4 a5 a6 a7 a8 a9 a10 a11 a12 a13 a14 a15 a16 a17 a18 a19 a20 : Option D} {is : List Nat} {ρ : Rho} (h : Rest is (a0 :: a1 :: a2 :: a3 :: a4 :: a5 :: a6 :: a7 :: a8 :: a9 :: a10 :: a11 :: a12 :: a13 :: a14 :: a15 :: a16 :: a17 :: a18 :: a19 :: a20 :: none :: r) ρ QR) : Rest (21 :: is) (a0 :: a1 :: a2 :: a3 :: a4 :: a5 :: a6 :: a7 :: a8 :: a9 :: a10 :: a11 :: a12 :: a13 :: a14 :: a15 :: a16 :: a17 :: a18 :: a19 :: a20 :: none :: r) ρ QR := h
theorem resv_21 {a0 a1 a2 a3 a4 a5 a6 a7 a8 a9 a10 a11 a12 a13 a14 a15 a16 a17 a18 a19 a20 : Option D} {is : List Nat} {ρ : Rho} (hf : x.frz = true) (h : Put 21 (some x) ρ fun ρ1 => Rest is (a0 :: a1 :: a2 :: a3 :: a4 :: a5 :: a6 :: a7 :: a8 :: a9 :: a10 :: a11 :: a12 :: a13 :: a14 :: a15 :: a16 :: a17 :: a18 :: a19 :: a20 :: some x :: r) ρ1 QR) : Rest (21 :: is) (a0 :: a1 :: a2 :: a3 :: a4 :: a5 :: a6 :: a7 :: a8 :: a9 :: a10 :: a11 :: a12 :: a13 :: a14 :: a15 :: a16 :: a17 :: a18 :: a19 :: a20 :: some x :: r) ρ QR := by
  unfold Rest; show QR (restR _ (if x.frz then _ else _) is); rw [hf]; exact h
theorem put_21 {a0 a1 a2 a3 a4 a5 a6 a7 a8 a9 a10 a11 a12 a13 a14 a15 a16 a17 a18 a19 a20 : Option D} (h : QR (a0 :: a1 :: a2 :: a3 :: a4 :: a5 :: a6 :: a7 :: a8 :: a9 :: a10 :: a11 :: a12 :: a13 :: a14 :: a15 :: a16 :: a17 :: a18 :: a19 :: a20 :: v :: r)) : Put 21 v (a0 :: a1 :: a2 :: a3 :: a4 :: a5 :: a6 :: a7 :: a8 :: a9 :: a10 :: a11 :: a12 :: a13 :: a14 :: a15 :: a16 :: a17 :: a18 :: a19 :: a20 :: o :: r) QR := h
theorem get_22 {a0 a1 a2 a3 a4 a5 a6 a7 a8 a9 a10 a11 a12 a13 a14 a15 a16 a17 a18 a19 a20 a21 : Option D} (h : Q x) : Get 22 (a0 :: a1 :: a2 :: a3 :: a4 :: a5 :: a6 :: a7 :: a8 :: a9 :: a10 :: a11 :: a12 :: a13 :: a14 :: a15 :: a16 :: a17 :: a18 :: a19 :: a20 :: a21 :: some x :: r) Q := ⟨x, rfl, h⟩
theorem gef_22 {a0 a1 a2 a3 a4 a5 a6 a7 a8 a9 a10 a11 a12 a13 a14 a15 a16 a17 a18 a19 a20 a21 : Option D} (hf : x.frz = true) (h : Q x) : GetF 22 (a0 :: a1 :: a2 :: a3 :: a4 :: a5 :: a6 :: a7 :: a8 :: a9 :: a10 :: a11 :: a12 :: a13 :: a14 :: a15 :: a16 :: a17 :: a18 :: a19 :: a20 :: a21 :: some x :: r) Q := ⟨x, rfl, hf, h⟩
theorem rest_22 {a0 a1 a2 a3 a4 a5 a6 a7 a8 a9 a10 a11 a12 a13 a14 a15 a16 a17 a18 a19 a20 a21 : Option D} {is : List Nat} {ρ : Rho} (h : Rest is (a0 :: a1 :: a2 :: a3 :: a4 :: a5 :: a6 :: a7 :: a8 :: a9 :: a10 :: a11 :: a12 :: a13 :: a14 :: a15 :: a16 :: a17 :: a18 :: a19 :: a20 :: a21 :: none :: r) ρ QR) : Rest (22 :: is) (a0 :: a1 :: a2 :: a3 :: a4 :: a5 :: a6 :: a7 :: a8 :: a9 :: a10 :: a11 :: a12 :: a13 :: a14 :: a15 :: a16 :: a17 :: a18 :: a19 :: a20 :: a21 :: none :: r) ρ QR := h
theorem resv_22 {a0 a1 a2 a3 a4 a5 a6 a7 a8 a9 a10 a11 a12 a13 a14 a15 a16 a17 a18 a19 a20 a21 : Option D} {is : List Nat} {ρ : Rho} (hf : x.frz = true) (h : Put 22 (some x) ρ fun ρ1 => Rest is (a0 :: a1 :: a2 :: a3 :: a4 :: a5 :: a6 :: a7 :: a8 :: a9 :: a10 :: a11 :: a12 :: a13 :: a14 :: a15 :: a16 :: a17 :: a18 :: a19 :: a20 :: a21 :: some x :: r) ρ1 QR) : Rest (22 :: is) (a0 :: a1 :: a2 :: a3 :: a4 :: a5 :: a6 :: a7 :: a8 :: a9 :: a10 :: a11 :: a12 :: a13 :: a14 :: a15 :: a16 :: a17 :: a18 :: a19 :: a20 :: a21 :: some x :: r) ρ QR := by
  unfold Rest; show QR (restR _ (if x.frz then _ else _) is); rw [hf]; exact h
theorem put_22 {a0 a1 a2 a3 a4 a5 a6 a7 a8 a9 a10 a11 a12 a13 a14 a15 a16 a17 a18 a19 a20 a21 : Option D} (h : QR (a0 :: a1 :: a2 :: a3 :: a4 :: a5 :: a6 :: a7 :: a8 :: a9 :: a10 :: a11 :: a12 :: a13 :: a14 :: a15 :: a16 :: a17 :: a18 :: a19 :: a20 :: a21 :: v :: r)) : Put 22 v (a0 :: a1 :: a2 :: a3 :: a4 :: a5 :: a6 :: a7 :: a8 :: a9 :: a10 :: a11 :: a12 :: a13 :: a14 :: a15 :: a16 :: a17 :: a18 :: a19 :: a20 :: a21 :: o :: r) QR := h
theorem get_23 {a0 a1 a2 a3 a4 a5 a6 a7 a8 a9 a10 a11 a12 a13 a14 a15 a16 a17 a18 a19 a20 a21 a22 : Option D} (h : Q x) : Get 23 (a0 :: a1 :: a2 :: a3 :: a4 :: a5 :: a6 :: a7 :: a8 :: a9 :: a10 :: a11 :: a12 :: a13 :: a14 :: a15 :: a16 :: a17 :: a18 :: a19 :: a20 :: a21 :: a22 :: some x :: r) Q := ⟨x, rfl, h⟩
theorem gef_23 {a0 a1 a2 a3 a4 a5 a6 a7 a8 a9 a10 a11 a12 a13 a14 a15 a16 a17 a18 a19 a20 a21 a22 : Option D} (hf : x.frz = true) (h : Q x) : GetF 23 (a0 :: a1 :: a2 :: a3 :: a4 :: a5 :: a6 :: a7 :: a8 :: a9 :: a10 :: a11 :: a12 :: a13 :: a14 :: a15 :: a16 :: a17 :: a18 :: a19 :: a20 :: a21 :: a22 :: some x :: r) Q := ⟨x, rfl, hf, h⟩
theorem rest_23 {a0 a1 a2 a3 a4 a5 a6 a7 a8 a9 a10 a11 a12 a13 a14 a15 a16 a17 a18 a19 a20 a21 a22 : Option D} {is : List Nat} {ρ : Rho} (h : Rest is (a0 :: a1 :: a2 :: a3 :: a4 :: a5 :: a6 :: a7 :: a8 :: a9 :: a10 :: a11 :: a12 :: a13 :: a14 :: a15 :: a16 :: a17 :: a18 :: a19 :: a20 :: a21 :: a22 :: none :: r) ρ QR) : Rest (23 :: is) (a0 :: a1 :: a2 :: a3 :: a4 :: a5 :: a6 :: a7 :: a8 :: a9 :: a10 :: a11 :: a12 :: a13 :: a14 :: a15 :: a16 :: a17 :: a18 :: a19 :: a20 :: a21 :: a22 :: none :: r) ρ QR := h
theorem resv_23 {a0 a1 a2 a3 a4 a5 a6 a7 a8 a9 a10 a11 a12 a13 a14 a15 a16 a17 a18 a19 a20 a21 a22 : Option D} {is : List Nat} {ρ : Rho} (hf : x.frz = true) (h : Put 23 (some x) ρ fun ρ1 => Rest is (a0 :: a1 :: a2 :: a3 :: a4 :: a5 :: a6 :: a7 :: a8 :: a9 :: a10 :: a11 :: a12 :: a13 :: a14 :: a15 :: a16 :: a17 :: a18 :: a19 :: a20 :: a21 :: a22 :: some x :: r) ρ1 QR) : Rest (23 :: is) (a0 :: a1 :: a2 :: a3 :: a4 :: a5 :: a6 :: a7 :: a8 :: a9 :: a10 :: a11 :: a12 :: a13 :: a14 :: a15 :: a16 :: a17 :: a18 :: a19 :: a20 :: a21 :: a22 :: some x :: r) ρ QR := by
  unfold Rest; show QR (restR _ (if x.frz then _ else _) is); rw [hf]; exact h
theorem put_23 {a0 a1 a2 a3 a4 a5 a6 a7 a8 a9 a10 a11 a12 a13 a14 a15 a16 a17 a18 a19 a20 a21 a22 : Option D} (h : QR (a0 :: a1 :: a2 :: a3 :: a4 :: a5 :: a6 :: a7 :: a8 :: a9 :: a10 :: a11 :: a12 :: a13 :: a14 :: a15 :: a16 :: a17 :: a18 :: a19 :: a20 :: a21 :: a22 :: v :: r)) : Put 23 v (a0 :: a1 :: a2 :: a3 :: a4 :: a5 :: a6 :: a7 :: a8 :: a9 :: a10 :: a11 :: a12 :: a13 :: a14 :: a15 :: a16 :: a17 :: a18 :: a19 :: a20 :: a21 :: a22 :: o :: r) QR := h
theorem get_24 {a0 a1 a2 a3 a4 a5 a6 a7 a8 a9 a10 a11 a12 a13 a14 a15 a16 a17 a18 a19 a20 a21 a22 a23 : Option D} (h : Q x) : Get 24 (a0 :: a1 :: a2 :: a3 :: a4 :: a5 :: a6 :: a7 :: a8 :: a9 :: a10 :: a11 :: a12 :: a13 :: a14 :: a15 :: a16 :: a17 :: a18 :: a19 :: a20 :: a21 :: a22 :: a23 :: some x :: r) Q := ⟨x, rfl, h⟩
theorem gef_24 {a0 a1 a2 a3 a4 a5 a6 a7 a8 a9 a10 a11 a12 a13 a14 a15 a16 a17 a18 a19 a20 a21 a22 a23 : Option D} (hf : x.frz = true) (h : Q x) : GetF 24 (a0 :: a1 :: a2 :: a3 :: a4 :: a5 :: a6 :: a7 :: a8 :: a9 :: a10 :: a11 :: a12 :: a13 :: a14 :: a15 :: a16 :: a17 :: a18 :: a19 :: a20 :: a21 :: a22 :: a23 :: some x :: r) Q := ⟨x, rfl, hf, h⟩
theorem rest_24 {a0 a1 a2 a3 a4 a5 a6 a7 a8 a9 a10 a11 a12 a13 a14 a15 a16 a17 a18 a19 a20 a21 a22 a23 : Option D} {is : List Nat} {ρ : Rho} (h : Rest is (a0 :: a1 :: a2 :: a3 :: a4 :: a5 :: a6 :: a7 :: a8 :: a9 :: a10 :: a11 :: a12 :: a13 :: a14 :: a15 :: a16 :: a17 :: a18 :: a19 :: a20 :: a21 :: a22 :: a23 :: none :: r) ρ QR) : Rest (24 :: is) (a0 :: a1 :: a2 :: a3 :: a4 :: a5 :: a6 :: a7 :: a8 :: a9 :: a10 :: a11 :: a12 :: a13 :: a14 :: a15 :: a16 :: a17 :: a18 :: a19 :: a20 :: a21 :: a22 :: a23 :: none :: r) ρ QR := h
theorem resv_24 {a0 a1 a2 a3 a4 a5 a6 a7 a8 a9 a10 a11 a12 a13 a14 a15 a16 a17 a18 a19 a20 a21 a22 a23 : Option D} {is : List Nat} {ρ : Rho} (hf : x.frz = true) (h : Put 24 (some x) ρ fun ρ1 => Rest is (a0 :: a1 :: a2 :: a3 :: a4 :: a5 :: a6 :: a7 :: a8 :: a9 :: a10 :: a11 :: a12 :: a13 :: a14 :: a15 :: a16 :: a17 :: a18 :: a19 :: a20 :: a21 :: a22 :: a23 :: some x :: r) ρ1 QR) : Rest (24 :: is) (a0 :: a1 :: a2 :: a3 :: a4 :: a5 :: a6 :: a7 :: a8 :: a9 :: a10 :: a11 :: a12 :: a13 :: a14 :: a15 :: a16 :: a17 :: a18 :: a19 :: a20 :: a21 :: a22 :: a23 :: some x :: r) ρ QR := by
  unfold Rest; show QR (restR _ (if x.frz then _ else _) is); rw [hf]; exact h
theorem put_24 {a0 a1 a2 a3 a4 a5 a6 a7 a8 a9 a10 a11 a12 a13 a14 a15 a16 a17 a18 a19 a20 a21 a22 a23 : Option D} (h : QR (a0 :: a1 :: a2 :: a3 :: a4 :: a5 :: a6 :: a7 :: a8 :: a9 :: a10 :: a11 :: a12 :: a13 :: a14 :: a15 :: a16 :: a17 :: a18 :: a19 :: a20 :: a21 :: a22 :: a23 :: v :: r)) : Put 24 v (a0 :: a1 :: a2 :: a3 :: a4 :: a5 :: a6 :: a7 :: a8 :: a9 :: a10 :: a11 :: a12 :: a13 :: a14 :: a15 :: a16 :: a17 :: a18 :: a19 :: a20 :: a21 :: a22 :: a23 :: o :: r) QR := h
theorem get_25 {a0 a1 a2 a3 a4 a5 a6 a7 a8 a9 a10 a11 a12 a13 a14 a15 a16 a17 a18 a19 a20 a21 a22 a23 a24 : Option D} (h : Q x) : Get 25 (a0 :: a1 :: a2 :: a3 :: a4 :: a5 :: a6 :: a7 :: a8 :: a9 :: a10 :: a11 :: a12 :: a13 :: a14 :: a15 :: a16 :: a17 :: a18 :: a19 :: a20 :: a21 :: a22 :: a23 :: a24 :: some x :: r) Q := ⟨x, rfl, h⟩
theorem gef_25 {a0 a1 a2 a3 a4 a5 a6 a7 a8 a9 a10 a11 a12 a13 a14 a15 a16 a17 a18 a19 a20 a21 a22 a23 a24 : Option D} (hf : x.frz = true) (h : Q x) : GetF 25 (a0 :: a1 :: a2 :: a3 :: a4 :: a5 :: a6 :: a7 :: a8 :: a9 :: a10 :: a11 :: a12 :: a13 :: a14 :: a15 :: a16 :: a17 :: a18 :: a19 :: a20 :: a21 :: a22 :: a23 :: a24 :: some x :: r) Q := ⟨x, rfl, hf, h⟩
theorem rest_25 {a0 a1 a2 a3 a4 a5 a6 a7 a8 a9 a10 a11 a12 a13 a14 a15 a16 a17 a18 a19 a20 a21 a22 a23 a24 : Option D} {is : List Nat} {ρ : Rho} (h : Rest is (a0 :: a1 :: a2 :: a3 :: a4 :: a5 :: a6 :: a7 :: a8 :: a9 :: a10 :: a11 :: a12 :: a13 :: a14 :: a15 :: a16 :: a17 :: a18 :: a19 :: a20 :: a21 :: a22 :: a23 :: a24 :: none :: r) ρ QR) : Rest (25 :: is) (a0 :: a1 :: a2 :: a3 :: a4 :: a5 :: a6 :: a7 :: a8 :: a9 :: a10 :: a11 :: a12 :: a13 :: a14 :: a15 :: a16 :: a17 :: a18 :: a19 :: a20 :: a21 :: a22 :: a23 :: a24 :: none :: r) ρ QR := h
theorem resv_25 {a0 a1 a2 a3 a4 a5 a6 a7 a8 a9 a10 a11 a12 a13 a14 a15 a16 a17 a18 a19 a20 a21 a22 a23 a24 : Option D} {is : List Nat} {ρ : Rho} (hf : x.frz = true) (h : Put 25 (some x) ρ fun ρ1 => Rest is (a0 :: a1 :: a2 :: a3 :: a4 :: a5 :: a6 :: a7 :: a8 :: a9 :: a10 :: a11 :: a12 :: a13 :: a14 :: a15 :: a16 :: a17 :: a18 :: a19 :: a20 :: a21 :: a22 :: a23 :: a24 :: some x :: r) ρ1 QR) : Rest (25 :: is) (a0 :: a1 :: a2 :: a3 :: a4 :: a5 :: a6 :: a7 :: a8 :: a9 :: a10 :: a11 :: a12 :: a13 :: a14 :: a15 :: a16 :: a17 :: a18 :: a19 :: a20 :: a21 :: a22 :: a23 :: a24 :: some x :: r) ρ QR := by
  unfold Rest; show QR (restR _ (if x.frz then _ else _) is); rw [hf]; exact h
theorem put_25 {a0 a1 a2 a3 a4 a5 a6 a7 a8 a9 a10 a11 a12 a13 a14 a15 a16 a17 a18 a19 a20 a21 a22 a23 a24 : Option D} (h : QR (a0 :: a1 :: a2 :: a3 :: a4 :: a5 :: a6 :: a7 :: a8 :: a9 :: a10 :: a11 :: a12 :: a13 :: a14 :: a15 :: a16 :: a17 :: a18 :: a19 :: a20 :: a21 :: a22 :: a23 :: a24 :: v :: r)) : Put 25 v (a0 :: a1 :: a2 :: a3 :: a4 :: a5 :: a6 :: a7 :: a8 :: a9 :: a10 :: a11 :: a12 :: a13 :: a14 :: a15 :: a16 :: a17 :: a18 :: a19 :: a20 :: a21 :: a22 :: a23 :: a24 :: o :: r) QR := h
end
end Eng
/-! Eng22: values of the operators. -/
namespace Eng
open PySem PySem.Spec PyProof.Rows L2
mutual
theorem freeze_frz : ∀ d : D, d.frz = true → d.freeze = d
  | .lst o xs, h => by
    simp only [D.frz, Bool.and_eq_true, Bool.not_eq_true'] at h
    simp only [D.freeze, h.1, freezes_frz xs h.2]
  | .tup xs, h => by
    simp only [D.frz] at h
    simp only [D.freeze, freezes_frz xs h]
  | .dic o kvs, h => by
    simp only [D.frz, Bool.and_eq_true, Bool.not_eq_true'] at h
    rw [frzK_eq] at h
    simp only [D.freeze, h.1, freezeK_eq]
    rw [freezesK_frz kvs h.2, List.zip_map']
    exact congrArg _ (List.map_id _)
  | .ins o c fs, h => by
    simp only [D.frz, Bool.and_eq_true, Bool.not_eq_true'] at h
    rw [frzF_eq] at h
    simp only [D.freeze, h.1, freezeF_eq]
    rw [freezesF_frz fs h.2, List.zip_map']
    exact congrArg _ (List.map_id _)
  | .exo c fs, h => rfl
  | .non, _ => rfl
  | .bl _, _ => rfl
  | .int _, _ => rfl
  | .str _, _ => rfl
  | .ty _, _ => rfl
  | .scr _, _ => rfl
theorem freezes_frz : ∀ ds : List D, frzs ds = true → freezes ds = ds
  | [], _ => rfl
  | d :: ds, h => by
    simp only [frzs, Bool.and_eq_true] at h
    simp only [freezes, freeze_frz d h.1, freezes_frz ds h.2]
theorem freezesK_frz : ∀ ds : List (D × D), frzs (ds.map (·.2)) = true → freezes (ds.map (·.2)) = ds.map (·.2)
  | [], _ => rfl
  | (k, d) :: ds, h => by
    simp only [List.map_cons, frzs, Bool.and_eq_true] at h
    simp only [List.map_cons, freezes, freeze_frz d h.1, freezesK_frz ds h.2]
theorem freezesF_frz : ∀ ds : List (Str × D), frzs (ds.map (·.2)) = true → freezes (ds.map (·.2)) = ds.map (·.2)
  | [], _ => rfl
  | (k, d) :: ds, h => by
    simp only [List.map_cons, frzs, Bool.and_eq_true] at h
    simp only [List.map_cons, freezes, freeze_frz d h.1, freezesF_frz ds h.2]
end
theorem w_frzl {i : Nat} {ρ : Rho} {n : MS} {R : Out → Prop} (h : Get i ρ fun d => ∃ o xs, d = .lst o xs ∧ frzs xs = true ∧ Put i (some (.lst false xs)) ρ fun ρ1 => WS n ρ1 R) : WS (sFrz i n) ρ R := by
  obtain ⟨d, e, o, xs, rfl, hf, q⟩ := h
  refine w_frz ⟨_, e, ?_⟩
  simp only [D.freeze, freezes_frz xs hf]
  exact q
section
variable {i j : Int} {s t : List Nat} {Q : D → Prop} {P : Prop} {o : Bool} {xs : List D} {QL : List D → Prop}
theorem wo_add (h : Q (.int (i + j))) : WO (addD (.int i) (.int j)) Q := ⟨_, rfl, h⟩
theorem wo_adds (hl : s.length + t.length ≤ 16777216) (h : Q (.str (s ++ t))) : WO (addD (.str s) (.str t)) Q := ⟨_, if_pos hl, h⟩
theorem wo_sub (h : Q (.int (i - j))) : WO (subD (.int i) (.int j)) Q := ⟨_, rfl, h⟩
theorem wo_iadd (h : Q (.int (i + j))) : WO (iaddD (.int i) (.int j)) Q := ⟨_, rfl, h⟩
theorem wo_mod (hj : 0 < j) (h : Q (.int (i % j))) : WO (modD (.int i) (.int j)) Q := ⟨_, if_pos hj, h⟩
theorem wo_fdiv (hj : 0 < j) (hb : j < 2 ^ 60) (h : Q (.int (i / j))) : WO (fdivD (.int i) (.int j)) Q := ⟨_, if_pos ⟨hj, by
  by_cases h0 : j.natAbs = 0
  · rw [h0]; decide
  · have : j.natAbs < 2 ^ 9000 := Nat.lt_of_lt_of_le (m := 2 ^ 60) (by omega) (Nat.pow_le_pow_right (by decide) (by decide))
    exact (Nat.log2_lt h0).mpr this⟩, h⟩
theorem log_small {n : Nat} (h : n < 2 ^ 90) : n.log2 < 90 := by
  by_cases h0 : n = 0
  · subst h0; decide
  · exact (Nat.log2_lt h0).mpr h
theorem wo_mul (hi : -2 ^ 90 < i ∧ i < 2 ^ 90) (hj : -2 ^ 90 < j ∧ j < 2 ^ 90) (h : Q (.int (i * j))) : WO (mulD (.int i) (.int j)) Q := ⟨_, if_pos (by
  unfold IntMulE
  have h1 := log_small (n := i.natAbs) (by omega)
  have h2 := log_small (n := j.natAbs) (by omega)
  exact decide_eq_true (by omega)), h⟩
theorem wo_pow (hj : 0 ≤ j ∧ j ≤ 1000000 ∧ i.natAbs < 2 ^ 64) (h : Q (.int (i ^ j.toNat))) : WO (powD (.int i) (.int j)) Q := ⟨_, if_pos hj, h⟩
theorem wo_eqi (h : Q (.bl (decide (i = j)))) : WO (eqD (.int i) (.int j)) Q := ⟨_, rfl, h⟩
theorem wo_nei (h : Q (.bl (!decide (i = j)))) : WO (neD (.int i) (.int j)) Q := ⟨_, rfl, h⟩
theorem wo_eqs (h : Q (.bl (decide (s = t)))) : WO (eqD (.str s) (.str t)) Q := ⟨_, rfl, h⟩
theorem wo_nes (h : Q (.bl (!decide (s = t)))) : WO (neD (.str s) (.str t)) Q := ⟨_, rfl, h⟩
theorem wo_lt (h : Q (.bl (decide (i < j)))) : WO (ltD (.int i) (.int j)) Q := ⟨_, rfl, h⟩
theorem wo_le (h : Q (.bl (decide (i ≤ j)))) : WO (leD (.int i) (.int j)) Q := ⟨_, rfl, h⟩
theorem wo_gt (h : Q (.bl (decide (i > j)))) : WO (gtD (.int i) (.int j)) Q := ⟨_, rfl, h⟩
theorem wo_ge (h : Q (.bl (decide (i ≥ j)))) : WO (geD (.int i) (.int j)) Q := ⟨_, rfl, h⟩
theorem wo_neg (h : Q (.int (-i))) : WO (negD (.int i)) Q := ⟨_, rfl, h⟩
theorem wo_lenl (h : Q (.int xs.length)) : WO (lenD [.lst o xs]) Q := ⟨_, rfl, h⟩
theorem wo_lent (h : Q (.int xs.length)) : WO (lenD [.tup xs]) Q := ⟨_, rfl, h⟩
theorem wo_lens (hl : s.length ≤ 16777216) (h : Q (.int s.length)) : WO (lenD [.str s]) Q := ⟨_, if_pos hl, h⟩
theorem wo_int (h : Q (.int i)) : WO (intD [.int i]) Q := ⟨_, rfl, h⟩
theorem wo_abs (h : Q (.int (if i < 0 then -i else i))) : WO (absD [.int i]) Q := ⟨_, rfl, h⟩
theorem wo_listl (hf : frzs xs = true) (h : Q (.lst true xs)) : WO (listD [.lst o xs]) Q := ⟨_, if_pos hf, h⟩
theorem wo_tuplel (hf : frzs xs = true) (h : Q (.tup xs)) : WO (tupleD [.lst o xs]) Q := ⟨_, if_pos hf, h⟩
theorem wo_sls {lo hi : Option Int} (hl : s.length ≤ 16777216) (h : Q (.str (cutL s lo hi))) : WO (slD (.str s) lo hi) Q := ⟨_, if_pos hl, h⟩
theorem wo_itl (h : QL (freezes xs)) : WO (itD (.lst o xs)) QL := ⟨_, rfl, h⟩
theorem wo_itt (h : QL (freezes xs)) : WO (itD (.tup xs)) QL := ⟨_, rfl, h⟩
theorem wo_its (h : QL (s.map fun c => .str [c])) : WO (itD (.str s)) QL := ⟨_, rfl, h⟩
theorem wo_rev (hl : s.length ≤ 16777216) (h : Q (.str s.reverse)) : WO (revD (.str s)) Q := ⟨_, if_pos hl, h⟩
theorem wo_swap (ha : s.all (· < 128) = true) (hl : s.length ≤ 5592405) (h : Q (.str (s.map sw1))) : WO (swapM s []) Q := ⟨_, by unfold swapM; rw [if_pos (by rw [ha, Bool.true_and]; exact decide_eq_true hl)], h⟩
theorem wo_up (ha : s.all (· < 128) = true) (hl : s.length ≤ 5592405) (h : Q (.str (s.map up1))) : WO (upM s []) Q := ⟨_, by unfold upM; rw [if_pos (by rw [ha, Bool.true_and]; exact decide_eq_true hl)], h⟩
theorem wo_lo (ha : s.all (· < 128) = true) (hl : s.length ≤ 5592405) (h : Q (.str (s.map lo1))) : WO (loM s []) Q := ⟨_, by unfold loM; rw [if_pos (by rw [ha, Bool.true_and]; exact decide_eq_true hl)], h⟩
theorem wo_islow (ha : s.all (· < 128) = true) (h : Q (.bl (isLowS s))) : WO (islowM s []) Q := ⟨_, by unfold islowM; rw [if_pos ha], h⟩
theorem wo_muls {k : Int} (hk : 0 ≤ k ∧ k ≤ 1000000) (hl : s.length * k.toNat ≤ 16777216) (h : Q (.str (List.replicate k.toNat s).flatten)) : WO (mulD (.str s) (.int k)) Q := ⟨_, if_pos (decide_eq_true ⟨by omega, by omega, hl⟩), h⟩
theorem cut_to {α : Type} {xs : List α} {k : Nat} (h : k ≤ xs.length) : cutL xs none (some (k : Int)) = xs.take k := by
  unfold cutL
  rw [HT.sIx_none, HT.sIx_nat, List.drop_zero, Nat.sub_zero, Nat.min_eq_left h]
theorem cut_from {α : Type} {xs : List α} {k : Nat} (h : k ≤ xs.length) : cutL xs (some (k : Int)) none = xs.drop k := by
  unfold cutL
  rw [HT.sIx_none, HT.sIx_nat, Nat.min_eq_left h]
  exact List.take_of_length_le (by rw [List.length_drop]; omega)
theorem cut_mid {α : Type} {xs : List α} {a b : Nat} (h : a ≤ b) (hb : b ≤ xs.length) : cutL xs (some (a : Int)) (some (b : Int)) = (xs.drop a).take (b - a) := by
  unfold cutL
  rw [HT.sIx_nat, HT.sIx_nat, Nat.min_eq_left hb, Nat.min_eq_left (by omega)]
theorem fz_int (h : P) : IsFz (.int i) P := ⟨rfl, h⟩
theorem fz_str (h : P) : IsFz (.str s) P := ⟨rfl, h⟩
theorem fz_bl {b : Bool} (h : P) : IsFz (.bl b) P := ⟨rfl, h⟩
theorem atI_nat' {α : Type} {l : List α} {n : Nat} {x : α} (h : l[n]? = some x) : atI l (n : Int) = some x := atI_nat h
theorem wo_ixl {k : Int} {d : D} (h : atI xs k = some d) (q : Q d) : WO (idxD (.lst o xs) (.int k)) Q := ⟨_, h, q⟩
theorem wo_ixs {k : Int} {c : Nat} (hl : s.length ≤ 16777216) (h : atI s k = some c) (q : Q (.str [c])) : WO (idxD (.str s) (.int k)) Q := ⟨.str [c], by show (if s.length ≤ 16777216 then (atI s k).map (fun c => D.str [c]) else none) = _; rw [if_pos hl, h]; rfl, q⟩
end
end Eng
/-! Eng23: try, with clauses that name what they take and clauses that do not. -/
namespace Eng
open PySem PySem.Spec PyProof.Rows L2
abbrev Su := Addr → Value → Option Addr → TS
/-- behind a clause that names: the name is gone -/
def bare (i : Nat) (D : Ends) : Ends := { nx := fun τ G => D.nx (τ.set i none) G, rt := D.rt, bk := fun τ G => D.bk (τ.set i none) G, ct := fun τ G => D.ct (τ.set i none) G }
def wCl (K : PySem.W.Frag) (V : WX) (D : Ends) : List (Value × Option Nat × Su) → WX
  | [] => V
  | (c, none, ts) :: r => fun k d τ G => ∃ b, PySem.W.exmOne K k c = some b ∧ (b = true → ∀ a, G a = none → ts a k d D τ G) ∧ (b = false → wCl K V D r k d τ G)
  | (c, some i, ts) :: r => fun k d τ G => ∃ b, PySem.W.exmOne K k c = some b ∧ (b = true → ∀ a, G a = none → ts a k d (bare i D) (τ.set i (some (.ref a))) G) ∧ (b = false → wCl K V D r k d τ G)
def SuOk (X : Cx) (b : List Stmt) (ts : Su) : Prop := ∀ (a : Addr) (ob : Obj) (k : Value) (d : Option Addr) (pn : List (Addr × Obj)), Zc k d ob → (∃ vs, ob.data = .fields vs) → PSs (X.suite a ((a, ob) :: pn)) b (ts a k d)
inductive Cls (X : Cx) : List ExceptHandler → List (Value × Option Nat × Su) → Prop
  | nil : Cls X [] []
  | plain {x : Str} {c : Value} {ts : Su} {st : Stmt} {sts : List Stmt} {p q : Pos} {hs : List ExceptHandler} {l : List (Value × Option Nat × Su)} (nm : Names X x c) (su : SuOk X (st :: sts) ts) (r : Cls X hs l) :
      Cls X (.ExceptHandler (some (.Name x p)) none (st :: sts) q :: hs) ((c, none, ts) :: l)
  | named {x n : Str} {i : Nat} {c : Value} {ts : Su} {st : Stmt} {sts : List Stmt} {p q : Pos} {hs : List ExceptHandler} {l : List (Value × Option Nat × Su)} (nm : Names X x c) (ix : X.N[i]? = some n) (lc : X.env.kindOf n = some .local) (su : SuOk X (st :: sts) ts)
      (r : Cls X hs l) : Cls X (.ExceptHandler (some (.Name x p)) (some n) (st :: sts) q :: hs) ((c, some i, ts) :: l)
section
variable {X : Cx} {body : List Stmt} {h0 : ExceptHandler} {hs : List ExceptHandler} {l : List (Value × Option Nat × Su)} {pos : Pos} {tb : WX → TS} {V : WX}
theorem end_of {pins : List (Addr × Obj)} {D : Ends} {f : Flow} {s : Shared} (ok : X.Ok) {Y : Cx} {pn : List (Addr × Obj)} (back : ∀ {τ : L2.St} {G : Hp}, Inv Y pn τ G s → Inv X pins τ G s) (h : SP Y pn D f s) : SP X pins D f s := by
  cases f with
  | ret u => obtain ⟨v, τ, G, J, r, q⟩ := h; exact ⟨v, τ, G, back J, r, q⟩
  | next => obtain ⟨τ, G, J, q⟩ := h; exact ⟨τ, G, back J, q⟩
  | brk => obtain ⟨τ, G, J, q⟩ := h; exact ⟨τ, G, back J, q⟩
  | cont => obtain ⟨τ, G, J, q⟩ := h; exact ⟨τ, G, back J, q⟩
theorem ps_tryC (hst : X.stack = X.env :: X.outer) (hfr : X.env.frame = some X.env.locals) (hN : X.N.Nodup) (tk : Takes X V)
    (hb : ∀ (W : WX) (pn : List (Addr × Obj)) (xe : Value → Shared → Prop), Takes (X.tr pn xe) W → PassesOwn (model X.prog X.w) X.A X.env xe → PSs (X.tr pn xe) body (tb W))
    (hc : Cls X (h0 :: hs) l) : PS X (.Try body (h0 :: hs) [] [] pos) (fun D τ G => tb (wCl X.K V D l) D τ G) := by
  refine ⟨fun pins s τ G D I h => wpAny_Try_except ?_⟩
  have ok := I.ok
  have fr : X.A.frames = some (X.env :: X.outer) := by rw [ok.frames, hst]
  let xe : Value → Shared → Prop := fun e s₁ => wpAny (model X.prog X.w) X.A (noteFrame e X.env) (fun _ s₂ => wpAny (model X.prog X.w) X.A (setFlight e none) (fun _ s₃ =>
    wpAny (model X.prog X.w) X.A (handleBy e X.env (h0 :: hs)) (SP X pins D) X.xe s₃) X.xe s₂) X.xe s₁
  refine wpAny_mono ((hb (wCl X.K V D l) (X.pn ++ pins) xe (fun u s' xx => ?_) PassesOwn.looking).run [] s τ G D (I.toTry _) h) (fun f s1 sp => ?_) (fun e s1 he => he)
  case refine_2 =>
    have q := end_of ok (fun J => J.ofTry ok) sp
    cases f with
    | next => exact wpAny_execs_nil q
    | ret u => exact q
    | brk => exact q
    | cont => exact q
  obtain ⟨a, B, sI, _, τ', G', k, d, rfl, J0, nb, up, sky, na, os, ag, w⟩ := xx
  have J : Inv X pins τ' G' sI := J0.ofTry ok
  have sky2 : Sky B (X.env :: X.outer) a (Zc k d) X.env.locals s'.heap := by rw [← hst]; exact sky
  show wpAny (model X.prog X.w) X.A (noteFrame (.ref a) X.env) _ _ _
  refine Sky.land Zc.steady fr hfr sky2 fun h3 fl up3 => ?_
  have J3 : Inv X pins τ' G' { s' with heap := h3 } := J.landed nb fl.1 (up.trans up3) os ag
  obtain ⟨ob, vs, e3, z3, d3⟩ := fl.there
  have out : a ∉ frs (X.env :: X.outer) := fun hm => by
    obtain ⟨_, o', e', nf⟩ := fl.2.2.1.mem hm
    rw [e3] at e'
    cases e'
    exact nf _ d3
  have nL : a ≠ X.env.locals := fun z => out (List.mem_filterMap.mpr ⟨X.env, List.mem_cons_self, by rw [hfr, z]⟩)
  have nF : a ∉ X.fs := fun hm => by
    obtain ⟨e, he, q⟩ := List.mem_filterMap.mp hm
    exact out (List.mem_filterMap.mpr ⟨e, List.mem_cons_of_mem _ he, q⟩)
  have S3 := J3.suite e3 d3 na nL nF
  have LT : PySem.W.Looks (model X.prog X.w) h3 (typeOf (.ref a)) k := fun A Q E s kk q => wpAny_typeOf_ref (kk _ _ e3) (by rw [z3.1]; exact q)
  have look : ∀ {x : Str} {c : Value} {p : Pos} {Q E : Value → Shared → Prop}, Names X x c → Q c { s' with heap := h3 } → wpAny (model X.prog X.w) (X.A.mark (some (.ref a))) (eval (.Name x p) X.env) Q E { s' with heap := h3 } := fun nm q => by
    rcases nm with ⟨hg, hd, hm | ⟨hm, hv, hn⟩⟩
    · exact ld_glob (X := X.suite a ((a, ob) :: (X.pn ++ pins))) S3 hg hm q hd
    · exact ld_blt (X := X.suite a ((a, ob) :: (X.pn ++ pins))) S3 hg hm hv q hn hd
  suffices go : ∀ {hs' : List ExceptHandler} {l' : List (Value × Option Nat × Su)}, Cls X hs' l' → wCl X.K V D l' k d τ' G' → wpAny (model X.prog X.w) X.A (handleBy (.ref a) X.env hs') (SP X pins D) X.xe { s' with heap := h3 } from go hc w
  intro hs' l' hk
  induction hk with
  | nil =>
    refine fun w => wpAny_handleBy_nil ?_
    obtain ⟨k1, k2, k3, oe, us, T, oT, ts', he, hz, hd, h1, hr⟩ := id fl
    unfold PySem.passOn
    refine wpAny_bind (wpAny_field he hd h1 ?_)
    rw [if_neg (show ¬ ((Value.ref T == Value.none) = true) from by simp)]
    have fin : wpAny (model X.prog X.w) X.A (setFlight (.ref a) X.env.frame) (fun _ s4 => wpAny (model X.prog X.w) X.A (throw (.ref a) : Sem Flow) (SP X pins D) X.xe s4) X.xe { s' with heap := h3 } := by
      rw [hfr]
      exact HandSPX.setFlight_upZ fl fun h4 hh4 up4 => wpAny_throw (tk _ _ ⟨a, B, sI, pins, τ', G', k, d, rfl, J, nb, (up.trans up3).trans up4, .inr (.inr (by rw [hst]; exact hh4)), na, os, ag, w⟩)
    first
      | exact wpAny_bind (wpAny_pure (wpAny_bind fin))
      | exact wpAny_bind fin
  | plain nm su r ih =>
    rintro ⟨b, hb1, yes, no⟩
    refine wpAny_handleBy_cons (codeAny_handlers_test ?_) (by intro q; cases q)
    refine look nm ((PySem.W.exm_one (M := model X.prog X.w) J3.kIn LT hb1).here ?_)
    cases b with
    | false => exact ih (no rfl)
    | true =>
      refine codeAny_handlers_suite (HandSPX.lands_againZ fl fun h4 fl4 up4 => ?_)
      have J4 : Inv X pins τ' G' { s' with heap := h4 } := J.landed nb fl4.1 ((up.trans up3).trans up4) os ag
      obtain ⟨ob4, vs4, e4, z4, d4⟩ := fl4.there
      have S4 := J4.suite e4 d4 na nL nF
      exact wpAny_mono ((su a ob4 k d (X.pn ++ pins) z4 ⟨_, d4⟩).run [] _ _ G' _ S4 (yes rfl a na)) (fun f s6 sp => end_of ok (fun S6 => S6.unsuite ok) sp) fun _ _ z => z.elim
  | named nm ix lc su r ih =>
    rintro ⟨b, hb1, yes, no⟩
    refine wpAny_handleBy_cons (codeAny_handlers_test ?_) (by intro q; cases q)
    refine look nm ((PySem.W.exm_one (M := model X.prog X.w) J3.kIn LT hb1).here ?_)
    cases b with
    | false => exact ih (no rfl)
    | true =>
      refine codeAny_handlers_suite_as (HandSPX.lands_againZ fl fun h4 fl4 up4 => ?_)
      have J4 : Inv X pins τ' G' { s' with heap := h4 } := J.landed nb fl4.1 ((up.trans up3).trans up4) os ag
      obtain ⟨ob4, vs4, e4, z4, d4⟩ := fl4.there
      have S4 := J4.suite e4 d4 na nL nF
      refine store_ok (X := X.suite a ((a, ob4) :: (X.pn ++ pins))) (v := .ref a) S4 hN ix (.inl lc) rfl (fun s5 S5 => ?_) (.inr lc)
      refine wpAny_mono ((su a ob4 k d (X.pn ++ pins) z4 ⟨_, d4⟩).run [] s5 _ G' _ S5 (yes rfl a na)) (fun f s6 sp => ?_) fun _ _ z => z.elim
      cases f with
      | ret u =>
        obtain ⟨v6, τ6, G6, S6, r6, q6⟩ := sp
        exact gone_ok (S6.unsuite ok) hN ix lc fun s7 J7 => ⟨v6, _, G6, J7, r6, q6⟩
      | next =>
        obtain ⟨τ6, G6, S6, q6⟩ := sp
        exact gone_ok (S6.unsuite ok) hN ix lc fun s7 J7 => ⟨_, G6, J7, q6⟩
      | brk =>
        obtain ⟨τ6, G6, S6, q6⟩ := sp
        exact gone_ok (S6.unsuite ok) hN ix lc fun s7 J7 => ⟨_, G6, J7, q6⟩
      | cont =>
        obtain ⟨τ6, G6, S6, q6⟩ := sp
        exact gone_ok (S6.unsuite ok) hN ix lc fun s7 J7 => ⟨_, G6, J7, q6⟩
end
end Eng
/-! Eng24: raise of an own class without arguments. -/
namespace Eng
open PySem PySem.Spec PyProof.Rows L2
abbrev veMro : List Value := [.type "ValueError", .type "Exception", .type "BaseException", .type "object"]
/-- x is an error class of the program's own, below ValueError -/
structure ErrAt (K : PySem.W.Frag) (mg : Str → Option Value) (x : Str) : Prop where
  ex : ∃ C, mg x = some (.ref C) ∧ PySem.W.excIn K C veMro "ValueError.__new__" = true ∧ PySem.W.keepIn K (.ref C) = true ∧ PySem.W.subIn K (.ref C) (.type "BaseException") = some true ∧ PySem.W.typeIn K (.ref C) = some (.type "type")
section
variable {X : Cx} {W : WX} {kp : List Nat} {pos p q : Pos} {x : Str}
theorem mk_own0 {C : Addr} (F : ExcBaseFacts "ValueError" "ValueError.__new__" "ValueError.__init__" veMro) (hx : PySem.W.excIn X.K C veMro "ValueError.__new__" = true) (hm : X.mg x = some (.ref C)) (hk : PySem.W.keepIn X.K (.ref C) = true) (r : Raises X (.ref C)) (hg : Gl X x)
    (hd : (x == ("__debug__" : Str)) = false := by decide) : PMk X (.Call (.Name x p) [] [] pos) (fun _ H Q => Q (.ref C) none H) := by
  intro pins s σ H Q I h
  refine wpAny_Call_Name_kw (ld_glob I hg hm ?_ hd)
  refine PySem.W.callWith_K0 I.kIn hk ?_
  show wpAny _ _ (call (.ref C) []) _ _ _
  obtain ⟨bm, N, nm, qn, bs, hdct, sn, sub, ab, col, dd, k0, k1, k2, k3, k5, mN, hC, hN, hni, T⟩ := exc_obj I.kIn hx
  exact wpAny_call_exc_subT F T hC hN hni (fun h' e made => mk_of I made r h (I.hok.gone made.new)) (by show 0 ≤ sizeLine; omega)
theorem s_raise0 (e : ErrAt X.K X.mg x) (tk : Takes X W) (hc : X.calm = true := by rfl) (hg : Gl X x := by rfl) (hd : (x == ("__debug__" : Str)) = false := by decide) : PDS X W kp (.Raise (some (.Call (.Name x p) [] [] pos)) none q) (sRaise x) := by
  obtain ⟨C, hm, hx, hk, hb, ht⟩ := e.ex
  exact s_raise hm (ps_raise hc tk (mk_own0 PySem.F.excBase_ValueError hx hm hk (raises_own hb ht) hg hd))
end
end Eng
/-! Eng25: try: the mirror. -/
namespace Eng
open PySem PySem.Spec PyProof.Rows L2
mutual
def D.nx : D → Bool
  | .lst _ xs => nxs xs
  | .tup xs => nxs xs
  | .dic _ kvs => nxK kvs
  | .ins _ _ fs => nxF fs
  | .exo _ _ => false
  | .non => true
  | .bl _ => true
  | .int _ => true
  | .str _ => true
  | .ty _ => true
  | .scr _ => true
def nxs : List D → Bool
  | [] => true
  | d :: ds => d.nx && nxs ds
def nxK : List (D × D) → Bool
  | [] => true
  | (_, d) :: ds => d.nx && nxK ds
def nxF : List (Str × D) → Bool
  | [] => true
  | (_, d) :: ds => d.nx && nxF ds
end
theorem nxK_eq : ∀ l : List (D × D), nxK l = nxs (l.map (·.2))
  | [] => rfl
  | (k, d) :: r => by simp [nxK, nxs, nxK_eq r]
theorem nxF_eq : ∀ l : List (Str × D), nxF l = nxs (l.map (·.2))
  | [] => rfl
  | (k, d) :: r => by simp [nxF, nxs, nxF_eq r]
theorem nx_kids {d : D} (h : d.nx = true) : nxs d.kids = true := by
  cases d <;> simp only [D.nx, D.kids, nxK_eq, nxF_eq, nxs] at h ⊢ <;> exact h
section
variable {mg : Ev} {B H : Hp}
theorem Atom.hd {v : V} {d : D} (z : Option Hx) (h : Atom mg B v d) (k : d.nx = true) : Atom ⟨mg.mg, mg.K, z⟩ B v d := by
  cases v <;> cases d <;> simp only [Atom] at h ⊢ <;> first | exact h | (simp [D.nx] at k)
theorem Shape.hd {X : Hp} {v : V} {d : D} {vs : List V} {A : List Addr} (z : Option Hx) (h : Shape mg X v d vs A) : Shape ⟨mg.mg, mg.K, z⟩ X v d vs A := by
  cases v <;> cases d <;> simp only [Shape] at h ⊢ <;> exact h
mutual
theorem Own.hd (z : Option Hx) : ∀ {v d F}, Own mg B H v d F → d.nx = true → Own ⟨mg.mg, mg.K, z⟩ B H v d F
  | _, _, _, .atom h, k => .atom (h.hd z k)
  | _, _, _, .fro a s t e, k => .fro a (s.hd z) (Owns.hd z t (nx_kids k)) e
  | _, _, _, .own a s t, k => .own a (s.hd z) (Owns.hd z t (nx_kids k))
theorem Owns.hd (z : Option Hx) : ∀ {vs ds F}, Owns mg B H vs ds F → nxs ds = true → Owns ⟨mg.mg, mg.K, z⟩ B H vs ds F
  | _, _, _, .nil, _ => .nil
  | _, _, _, .cons h t, k => by
    simp only [nxs, Bool.and_eq_true] at k
    exact .cons (Own.hd z h k.1) (Owns.hd z t k.2)
end
def nxR : Rho → Bool
  | [] => true
  | some d :: r => d.nx && nxR r
  | none :: r => nxR r
theorem nxR_at : ∀ {ρ : Rho} {i : Nat} {d : D}, nxR ρ = true → ρ[i]? = some (some d) → d.nx = true
  | [], i, d, _, h => by simp at h
  | none :: r, 0, d, _, h => by simp at h
  | none :: r, i + 1, d, k, h => nxR_at (ρ := r) k (by simpa using h)
  | some e :: r, 0, d, k, h => by
    simp only [nxR, Bool.and_eq_true] at k
    simp at h; subst h; exact k.1
  | some e :: r, i + 1, d, k, h => by
    simp only [nxR, Bool.and_eq_true] at k
    exact nxR_at (ρ := r) k.2 (by simpa using h)
theorem Sta.hd {σ : L2.St} {ρ : Rho} {U : List Addr} (z : Option Hx) (s : Sta mg B H σ ρ U) (k : nxR ρ = true) : Sta ⟨mg.mg, mg.K, z⟩ B H σ ρ U := by
  obtain ⟨l, Fs, lf, pu, kk⟩ := s.sl
  refine ⟨s.sub, ⟨l, Fs, lf, pu, fun i d hi => ?_⟩, s.nd, s.off, s.ex⟩
  obtain ⟨v, F, a, b, c⟩ := kk i d hi
  exact ⟨v, F, a, b, c.hd z (nxR_at k hi)⟩
end
end Eng
/-! Eng26: try statements. -/
namespace Eng
open PySem PySem.Spec PyProof.Rows L2
abbrev Han := Str × Option Nat × (Exc → MS)
/-- behind a suite -/
def outH (i : Option Nat) (o : Out) : Out := match o with
  | .nx ρ => match i with
    | none => if nxR ρ then .nx ρ else .stuck
    | some i => if nxR (ρ.set i none) then .nx (ρ.set i none) else .stuck
  | .rt d ρ => match i with
    | none => if d.nx && nxR ρ then .rt d ρ else .stuck
    | some i => if d.nx && nxR (ρ.set i none) then .rt d (ρ.set i none) else .stuck
  | _ => .stuck
/-- the fields of an error, all of them without parts -/
def D.flat : D → Bool
  | .non => true
  | .bl _ => true
  | .int _ => true
  | .str _ => true
  | _ => false
def flatE (e : Exc) : Bool := (e.fs.map (·.2)).all D.flat
def tryH (sub : Str → Str → Option Bool) : List Han → Exc → Rho → Out
  | [], e, ρ => .exc e ρ
  | (c, i, m) :: r, e, ρ => match sub e.cls c with
    | none => .stuck
    | some false => tryH sub r e ρ
    | some true => if nxR ρ then (match i with
        | some i => if i < ρ.length ∧ flatE e = true then outH (some i) (m e (ρ.set i (some (.exo e.cls e.fs)))) else .stuck
        | none => outH none (m e ρ)) else .stuck
def sTry (sub : Str → Str → Option Bool) (m : MS) (hs : List Han) : MS := fun ρ => match m ρ with
  | .exc e ρ1 => tryH sub hs e ρ1
  | o => o
/-- what a suite may lean on -/
def Caught (X : Cx) (sub : Str → Str → Option Bool) (c : Str) (e : Exc) (k : Value) (d : Option Addr) : Prop := ∃ C : Addr, X.mg e.cls = some (.ref C) ∧ k = .ref C ∧ sub e.cls c = some true ∧ (e.fs = [] → d = none)
theorem caught_d {mg : Ev} {B H : Hp} {e : Exc} {k : Value} {d : Option Addr} (h : ExcR mg B H e k d) (z : e.fs = []) : d = none := by
  obtain ⟨_, _, _, h | ⟨_, _, n, _⟩⟩ := h
  · exact h.2
  · exact absurd z n
inductive Hans (X : Cx) (kp : List Nat) (sub : Str → Str → Option Bool) : List ExceptHandler → List Han → Prop
  | nil : Hans X kp sub [] []
  | plain {x : Str} {c : Value} {m : Exc → MS} {st : Stmt} {sts : List Stmt} {p q : Pos} {hs : List ExceptHandler} {l : List Han} (nm : Names X x c) (ok : ∀ y b C, sub y x = some b → X.mg y = some (.ref C) → PySem.W.exmOne X.K (.ref C) c = some b)
      (su : ∀ (e : Exc) (a : Addr) (ob : Obj) (k : Value) (d : Option Addr) (pn : List (Addr × Obj)), Zc k d ob → (∃ vs, ob.data = .fields vs) → Caught X sub x e k d → PDSs (X.suite a ((a, ob) :: pn)) W0 kp (st :: sts) (m e)) (r : Hans X kp sub hs l) :
      Hans X kp sub (.ExceptHandler (some (.Name x p)) none (st :: sts) q :: hs) ((x, none, m) :: l)
  | named {x n : Str} {i : Nat} {c : Value} {m : Exc → MS} {st : Stmt} {sts : List Stmt} {p q : Pos} {hs : List ExceptHandler} {l : List Han} (nm : Names X x c) (ok : ∀ y b C, sub y x = some b → X.mg y = some (.ref C) → PySem.W.exmOne X.K (.ref C) c = some b)
      (ix : X.N[i]? = some n) (lc : X.env.kindOf n = some .local) (hk : i ∉ kp)
      (su : ∀ (e : Exc) (a : Addr) (ob : Obj) (k : Value) (d : Option Addr) (pn : List (Addr × Obj)), Zc k d ob → (∃ vs, ob.data = .fields vs) → Caught X sub x e k d → PDSs (X.suite a ((a, ob) :: pn)) W0 kp (st :: sts) (m e)) (r : Hans X kp sub hs l) :
      Hans X kp sub (.ExceptHandler (some (.Name x p)) (some n) (st :: sts) q :: hs) ((x, some i, m) :: l)
section
variable {X : Cx} {Wo : WX} {kp : List Nat} {sub : Str → Str → Option Bool}
theorem ev_eta {z : Option Hx} (h : X.ev.hd = z) : X.ev = ⟨X.mg, X.K, z⟩ := by
  subst h; rfl
theorem ev_suite {a : Addr} {ob : Obj} {k : Value} {d : Option Addr} {pn : List (Addr × Obj)} (h : Zc k d ob) : (X.suite a ((a, ob) :: pn)).ev = ⟨X.mg, X.K, some ⟨a, d⟩⟩ := by
  show (⟨X.mg, X.K, some ⟨a, (List.lookup a ((a, ob) :: pn)).bind (·.dict)⟩⟩ : Ev) = _
  rw [List.lookup_cons, beq_self_eq_true]
  show (⟨X.mg, X.K, some ⟨a, ob.dict⟩⟩ : Ev) = _
  rw [h.2]
theorem owns_flat {mg : Ev} {B H : Hp} : ∀ {vs : List V} {ds : List D} {F : List Addr}, Owns mg B H vs ds F → ds.all D.flat = true → FlatL vs ds
  | _, _, _, .nil, _ => trivial
  | _, _, _, .cons (v := v) (d := d) h t, k => by
    rw [List.all_cons, Bool.and_eq_true] at k
    refine ⟨?_, owns_flat t k.2⟩
    have k1 := k.1
    cases h with
    | atom h => cases v <;> cases d <;> simp only [Atom] at h <;> simp only [Flat] <;> first | exact h | (simp [D.flat] at k1)
    | fro _ s => cases v <;> cases d <;> simp only [Shape] at s <;> simp [D.flat] at k1
    | own z => cases d <;> simp [D.own] at z <;> simp [D.flat] at k1
/-- what a slot that names the caught exception bears -/
theorem own_exo {mg : Ev} {B H : Hp} {e : Exc} {C a : Addr} {d : Option Addr} (er : ExcR mg B H e (.ref C) d) (fl : flatE e = true) {z : Ev} (hz : z.hd = some ⟨a, d⟩) : Own z B H (.ref a) (.exo e.cls e.fs) [] := by
  obtain ⟨_, _, _, h | ⟨dd, vs, _, h1, h2, h3⟩⟩ := er
  · exact .atom ⟨d, hz, .inl h.1⟩
  · exact .atom ⟨d, hz, .inr ⟨dd, vs, h1, h2, owns_flat h3 fl⟩⟩
theorem Sta.clear {mg : Ev} {B H : Hp} {σ σ2 : L2.St} {ρ : Rho} {U : List Addr} (i : Nat) (s : Sta mg B H σ ρ U) : Sta mg B H (σ.set i none) (ρ.set i none) U := by
  obtain ⟨l, Fs, lf, pu, k⟩ := s.sl
  refine ⟨s.sub, ⟨by simp [l], Fs, by simp [lf], pu, fun j d h => ?_⟩, s.nd, s.off, s.ex⟩
  have ne : j ≠ i := fun e => by
    subst e
    by_cases hj : j < ρ.length
    · rw [List.getElem?_set_self hj] at h; simp at h
    · rw [List.getElem?_eq_none (by simpa using hj)] at h; cases h
  rw [List.getElem?_set_ne (Ne.symm ne)] at h
  obtain ⟨v, F, a, b, c⟩ := k j d h
  exact ⟨v, F, by rw [List.getElem?_set_ne (Ne.symm ne)]; exact a, b, c⟩
/-- the clauses keep what the mirror says -/
theorem hans_ok {hs : List ExceptHandler} {hl : List Han} (h : Hans X kp sub hs hl) : ∃ l, Cls X hs l ∧ ∀ (D : Ends) (e : Exc) (ρ : Rho) (σ : L2.St) (B H : Hp) (U : List Addr) (k : Value) (d : Option Addr),
    Sta X.ev B H σ ρ U → ExcR X.ev B H e k d → Wish X.ev Wo kp D (tryH sub hl e ρ) σ B H U → wCl X.K Wo D l k d σ H := by
  induction h with
  | nil => exact ⟨[], .nil, fun D e ρ σ B H U k d st er w => w σ B H U k d (PostS.refl st) er⟩
  | @plain x c m st sts p q hs hl nm ok su r ih =>
    obtain ⟨l, hc, hw⟩ := ih
    refine ⟨(c, none, fun a k d D σ H => ∃ e, Caught X sub x e k d ∧ tS ⟨X.mg, X.K, some ⟨a, d⟩⟩ W0 kp (m e) D σ H) :: l, .plain nm (fun a ob k d pn hz hv => ⟨fun pins s σ H D I ⟨e, h1, h2⟩ => (by have z := su e a ob k d pn hz hv h1; unfold PDSs at z; rw [ev_suite hz] at z; exact z.run pins s σ H D I h2)⟩) hc, fun D e ρ σ B H U k d sta er w => ?_⟩
    obtain ⟨C, hC, rfl, hd⟩ := id er
    unfold tryH at w
    cases hsb : sub e.cls x with
    | none => rw [hsb] at w; exact w.elim
    | some b =>
      refine ⟨b, ok _ _ _ hsb hC, fun hb a na => ?_, fun hb => ?_⟩
      · subst hb
        rw [hsb] at w
        dsimp only at w
        by_cases hx : nxR ρ = true
        case neg => rw [if_neg hx] at w; exact w.elim
        rw [if_pos hx] at w
        refine ⟨e, ⟨C, hC, rfl, hsb, caught_d er⟩, B, ρ, U, sta.hd (some ⟨a, d⟩) hx, ?_⟩
        unfold outH at w
        cases hm : m e ρ with
        | nx ρ' =>
          rw [hm] at w
          intro σ' B' H' U' p
          dsimp only at w
          by_cases hy : nxR ρ' = true
          case neg => rw [if_neg hy] at w; exact w.elim
          rw [if_pos hy] at w
          exact w σ' B' H' U' ⟨p.st.hd X.ev.hd hy, p.step, p.kp⟩
        | rt d' ρ' =>
          rw [hm] at w
          intro v σ' B' H' U' F p
          dsimp only at w
          by_cases hy : (d'.nx && nxR ρ') = true
          case neg => rw [if_neg hy] at w; exact w.elim
          rw [if_pos hy] at w
          rw [Bool.and_eq_true] at hy
          exact w v σ' B' H' U' F ⟨p.st.hd X.ev.hd hy.2, p.own.hd X.ev.hd hy.1, p.sep, p.new, p.step, p.kp⟩
        | bk ρ' => rw [hm] at w; exact w.elim
        | ct ρ' => rw [hm] at w; exact w.elim
        | exc e ρ' => rw [hm] at w; exact w.elim
        | stuck => rw [hm] at w; exact w.elim
      · subst hb
        rw [hsb] at w
        exact hw D e ρ σ B H U _ d sta er w
  | @named x n i c m st sts p q hs hl nm ok ix lc hk su r ih =>
    obtain ⟨l, hc, hw⟩ := ih
    refine ⟨(c, some i, fun a k d D σ H => ∃ e, Caught X sub x e k d ∧ tS ⟨X.mg, X.K, some ⟨a, d⟩⟩ W0 kp (m e) D σ H) :: l, .named nm ix lc (fun a ob k d pn hz hv => ⟨fun pins s σ H D I ⟨e, h1, h2⟩ => (by have z := su e a ob k d pn hz hv h1; unfold PDSs at z; rw [ev_suite hz] at z; exact z.run pins s σ H D I h2)⟩) hc, fun D e ρ σ B H U k d sta er w => ?_⟩
    obtain ⟨C, hC, rfl, hd⟩ := id er
    unfold tryH at w
    cases hsb : sub e.cls x with
    | none => rw [hsb] at w; exact w.elim
    | some b =>
      refine ⟨b, ok _ _ _ hsb hC, fun hb a na => ?_, fun hb => ?_⟩
      · subst hb
        rw [hsb] at w
        dsimp only at w
        by_cases hx : nxR ρ = true
        case neg => rw [if_neg hx] at w; exact w.elim
        rw [if_pos hx] at w
        by_cases hi : i < ρ.length ∧ flatE e = true
        case neg => rw [if_neg hi] at w; exact w.elim
        rw [if_pos hi] at w
        have own : Own ⟨X.mg, X.K, some ⟨a, d⟩⟩ B H (.ref a) (.exo e.cls e.fs) [] := own_exo er hi.2 rfl
        obtain ⟨U0, s0, m0⟩ := (sta.hd (some ⟨a, d⟩) hx).put hi.1 own Sep.nil
        rw [List.nil_append] at s0
        have kp0 : ∀ j ∈ kp, (σ.set i (some (L2.V.ref a)))[j]? = σ[j]? := fun j hj => List.getElem?_set_ne fun (z : i = j) => hk (by rw [z]; exact hj)
        have kp1 : ∀ {τ : L2.St}, (∀ j ∈ kp, τ[j]? = (σ.set i (some (L2.V.ref a)))[j]?) → ∀ j ∈ kp, (τ.set i none)[j]? = σ[j]? := fun h j hj => by
          rw [List.getElem?_set_ne fun (z : i = j) => hk (by rw [z]; exact hj), h j hj, kp0 j hj]
        refine ⟨e, ⟨C, hC, rfl, hsb, caught_d er⟩, B, _, U0, s0, ?_⟩
        unfold outH at w
        cases hm : m e (ρ.set i (some (.exo e.cls e.fs))) with
        | nx ρ' =>
          rw [hm] at w
          intro σ' B' H' U' p
          dsimp only at w
          by_cases hy : nxR (ρ'.set i none) = true
          case neg => rw [if_neg hy] at w; exact w.elim
          rw [if_pos hy] at w
          exact w _ B' H' U' ⟨(p.st.clear (σ2 := σ') i).hd X.ev.hd hy, p.step.weak m0 fun a h => .inl h, kp1 p.kp⟩
        | rt d' ρ' =>
          rw [hm] at w
          intro v σ' B' H' U' F p
          dsimp only at w
          by_cases hy : (d'.nx && nxR (ρ'.set i none)) = true
          case neg => rw [if_neg hy] at w; exact w.elim
          rw [if_pos hy] at w
          rw [Bool.and_eq_true] at hy
          exact w v _ B' H' U' F ⟨(p.st.clear (σ2 := σ') i).hd X.ev.hd hy.2, p.own.hd X.ev.hd hy.1, p.sep, fun a h => (p.new a h).imp (m0 a) id, p.step.weak m0 fun a h => .inl h, kp1 p.kp⟩
        | bk ρ' => rw [hm] at w; exact w.elim
        | ct ρ' => rw [hm] at w; exact w.elim
        | exc e ρ' => rw [hm] at w; exact w.elim
        | stuck => rw [hm] at w; exact w.elim
      · subst hb
        rw [hsb] at w
        exact hw D e ρ σ B H U _ d sta er w
theorem tr_ev {pn : List (Addr × Obj)} {xe : Value → Shared → Prop} (hc : X.calm = true) : (X.tr pn xe).ev = X.ev := by
  show (⟨X.mg, X.K, cond X.calm none _⟩ : Ev) = ⟨X.mg, X.K, cond X.calm none _⟩
  rw [hc]; rfl
theorem s_try {body : List Stmt} {h0 : ExceptHandler} {hs : List ExceptHandler} {hl : List Han} {mb : MS} {pos : Pos} (hst : X.stack = X.env :: X.outer) (hfr : X.env.frame = some X.env.locals) (hN : X.N.Nodup) (tk : Takes X Wo)
    (hb : ∀ (W : WX) (pn : List (Addr × Obj)) (xe : Value → Shared → Prop), Takes (X.tr pn xe) W → PassesOwn (model X.prog X.w) X.A X.env xe → PDSs (X.tr pn xe) W kp body mb)
    (hh : Hans X kp sub (h0 :: hs) hl) (calm : X.calm = true := by rfl) : PDS X Wo kp (.Try body (h0 :: hs) [] [] pos) (sTry sub mb hl) := by
  obtain ⟨l, hc, hw⟩ := hans_ok (Wo := Wo) hh
  refine PS.weak (ps_tryC (tb := fun W => tS X.ev W kp mb) hst hfr hN tk (fun W pn xe t q => by have z := hb W pn xe t q; unfold PDSs at z; rw [tr_ev calm] at z; exact z) hc) fun D σ H ⟨B, ρ, U, st, k⟩ => ⟨B, ρ, U, st, ?_⟩
  dsimp only [sTry] at k
  cases hm : mb ρ with
  | exc e ρ1 =>
    rw [hm] at k
    intro σ1 B1 H1 U1 cls dx p er
    exact hw D e ρ1 σ1 B1 H1 U1 cls dx p.st er (Wish.back (σa := σ) (Ba := B) (Ha := H) (Ua := U) k p)
  | nx ρ' => rw [hm] at k; exact k
  | rt d ρ' => rw [hm] at k; exact k
  | bk ρ' => rw [hm] at k; exact k
  | ct ρ' => rw [hm] at k; exact k
  | stuck => rw [hm] at k; exact k
end
end Eng
/-! Eng27: words for try and raise. -/
namespace Eng
open PySem PySem.Spec PyProof.Rows L2
/-- a class that a clause names, and whom it takes -/
structure HanAt (K : PySem.W.Frag) (mg : Str → Option Value) (sub : Str → Str → Option Bool) (x : Str) : Prop where
  ex : ∃ c, (mg x = some c ∨ (mg x = none ∧ bootBuiltins x = some c ∧ x ≠ "__name__")) ∧ ∀ y b C, sub y x = some b → mg y = some (.ref C) → PySem.W.exmOne K (.ref C) c = some b
section
variable {X : Cx} {kp : List Nat} {sub : Str → Str → Option Bool} {x n : Str} {m : Exc → MS} {st : Stmt} {sts : List Stmt} {p q : Pos} {hs : List ExceptHandler} {l : List Han}
theorem h_plain (h : HanAt X.K X.mg sub x) (su : ∀ (e : Exc) (a : Addr) (ob : Obj) (k : Value) (d : Option Addr) (pn : List (Addr × Obj)), Zc k d ob → (∃ vs, ob.data = .fields vs) → Caught X sub x e k d → PDSs (X.suite a ((a, ob) :: pn)) W0 kp (st :: sts) (m e)) (r : Hans X kp sub hs l)
    (hg : Gl X x := by rfl) (hd : (x == ("__debug__" : Str)) = false := by decide) : Hans X kp sub (.ExceptHandler (some (.Name x p)) none (st :: sts) q :: hs) ((x, none, m) :: l) := by
  obtain ⟨c, hm, ok⟩ := h.ex
  exact .plain ⟨hg, hd, hm⟩ ok su r
theorem h_named (i : Nat) (h : HanAt X.K X.mg sub x) (su : ∀ (e : Exc) (a : Addr) (ob : Obj) (k : Value) (d : Option Addr) (pn : List (Addr × Obj)), Zc k d ob → (∃ vs, ob.data = .fields vs) → Caught X sub x e k d → PDSs (X.suite a ((a, ob) :: pn)) W0 kp (st :: sts) (m e)) (r : Hans X kp sub hs l)
    (ix : X.N[i]? = some n := by rfl) (lc : X.env.kindOf n = some .local := by rfl) (hk : i ∉ kp := by decide)
    (hg : Gl X x := by rfl) (hd : (x == ("__debug__" : Str)) = false := by decide) : Hans X kp sub (.ExceptHandler (some (.Name x p)) (some n) (st :: sts) q :: hs) ((x, some i, m) :: l) := by
  obtain ⟨c, hm, ok⟩ := h.ex
  exact .named ⟨hg, hd, hm⟩ ok ix lc hk su r
end
end Eng
/-! Eng28: isinstance of what was caught. -/
namespace Eng
open PySem PySem.Spec PyProof.Rows L2
structure IsAt (K : PySem.W.Frag) (mg : Str → Option Value) (sub : Str → Str → Option Bool) (h x : Str) (tb : Str → Option Bool) : Prop where
  ex : ∃ (v : V) (cv : Value), (mg x = some cv ∨ (mg x = none ∧ bootBuiltins x = some cv ∧ x ≠ "__name__")) ∧ RelV v cv ∧ (∀ u, RelV v u → u = cv) ∧
    ∀ y C, sub y h = some true → mg y = some (.ref C) → ExcC K C ∧ ∃ b, tb y = some b ∧ PySem.W.kitOne K (.ref C) cv = some b
def eIsE (e : Exc) (tb : Str → Option Bool) (i : Nat) : M D := fun ρ => if e.fs.isEmpty then (match tb e.cls with
  | some b => (match ρ[i]? with
    | some (some (.exo _ _)) => .ok (.bl b) ρ
    | _ => .stuck)
  | none => .stuck) else .stuck
section
variable {X : Cx} {sub : Str → Str → Option Bool} {h x n : Str} {e : Exc} {a : Addr} {ob : Obj} {k : Value} {d : Option Addr} {pn : List (Addr × Obj)} {p p1 p2 pos : Pos} {tb : Str → Option Bool}
theorem exo_val {a : Addr} {ob : Obj} {k : Value} {d : Option Addr} {pn : List (Addr × Obj)} {B H : Hp} {w : V} {c : Str} {fs : List (Str × D)} {F : List Addr} (hz : Zc k d ob) (o : Own (X.suite a ((a, ob) :: pn)).ev B H w (.exo c fs) F) :
    w = .ref a ∧ (fs = [] ∨ ∃ dd vs, d = some dd ∧ B dd = some (.xd ((fs.map (·.1)).zip vs)) ∧ FlatL vs (fs.map (·.2))) := by
  rw [ev_suite hz] at o
  cases o with
  | atom h =>
    cases w <;> simp only [Atom] at h
    obtain ⟨dx, h1, h2⟩ := h
    cases h1
    exact ⟨rfl, h2⟩
  | fro z s => cases w <;> simp [Shape] at s
  | own z => simp [D.own] at z
theorem d_isE (i : Nat) (T : IsAt X.K X.mg sub h x tb) (hz : Zc k d ob) (hv : ∃ vs, ob.data = .fields vs) (cg : Caught X sub h e k d) (hm : X.mg "isinstance" = none)
    (hN : X.N[i]? = some n := by rfl) (hvs : Vis X.env.scope n := by first | exact Or.inl rfl | exact Or.inr (Or.inl rfl) | exact Or.inr (Or.inr rfl)) (hd : (n == ("__debug__" : Str)) = false := by decide)
    (hcd : (n == ("__classdict__" : Str)) = false := by decide) (hg : Gl X "isinstance" := by rfl) (hgx : Gl X x := by rfl) (hdx : (x == ("__debug__" : Str)) = false := by decide) :
    PD (X.suite a ((a, ob) :: pn)) W0 false true (.Call (.Name "isinstance" p) [.Name n p1, .Name x p2] [] pos) (eIsE e tb i) := by
  obtain ⟨C, hC, rfl, hs, hd0⟩ := cg
  obtain ⟨v, cv, hx, rv, ru, tbl⟩ := T.ex
  obtain ⟨xc, b, hb, hk⟩ := tbl _ _ hs hC
  by_cases hf : e.fs = []
  case neg =>
    refine ⟨fun pins s σ H Q I ⟨B, ρ, U, st, q⟩ => ?_⟩
    unfold eIsE at q
    rw [if_neg (by simpa using hf)] at q
    exact q.elim
  obtain rfl := hd0 hf
  have gl : PE (X.suite a ((a, ob) :: pn)) (.Name x p2) (tC v) := by
    rcases hx with hx | ⟨h1, h2, h3⟩
    · exact pe_glob (X := X.suite a ((a, ob) :: pn)) hgx hx rv hdx
    · exact pe_bltn (X := X.suite a ((a, ob) :: pn)) hgx h1 h2 rv h3 hdx
  have pv0 := pe_var (X := X.suite a ((a, ob) :: pn)) (pos := p1) hN hvs hd hcd
  refine PE.weak (pe_callB (X := X.suite a ((a, ob) :: pn)) (call_isE xc hz hv) hg hm boot_isinstance (pa_cons pv0 (pa_cons gl pa_nil))) fun σ H Q ⟨B, ρ, U, st, q⟩ => ?_
  unfold eIsE at q
  rw [if_pos (by simpa using hf), hb] at q
  dsimp only at q
  cases hr : ρ[i]? with
  | none => rw [hr] at q; exact q.elim
  | some o1 =>
  cases o1 with
  | none => rw [hr] at q; exact q.elim
  | some dd =>
  cases dd with
  | exo c fs =>
    rw [hr] at q
    obtain ⟨w, F, U', e1, o, _⟩ := st.take hr
    have hw : w = .ref a := (exo_val hz o).1
    subst hw
    exact ⟨_, e1, v, cv, b, rfl, ru, hk, q _ B H U [] ((Post.start st).fin (New.flat st.sub (.atom rfl)))⟩
  | _ => rw [hr] at q; exact q.elim
end
end Eng
/-! Eng29: a dict of one text. -/
namespace Eng
open PySem PySem.Spec PyProof.Rows L2
theorem New.dic1 {mg : Ev} {B H : Hp} {x y : Str} {s t : List Nat} (hx : x.cps.toList = s) (hy : y.cps.toList = t) (hs : ∀ a o, B a = some o → H a = some o) {p : Addr} (hp : H p = none) {H' : Hp} (e : H' = upd (upd H p (.dK [])) p (.dK [((.inr x : Key), V.str y)])) :
    New mg B H (.ref p) (.dic true [(.str s, .str t)]) B H' [p] where
  own := by
    subst e hx hy
    refine .own (A := [p]) (F := []) (vs := [V.str y]) rfl ⟨rfl, rfl, .inl ⟨[.inr x], rfl, upd_same⟩⟩ (.cons (F := []) (G := []) (.atom rfl) .nil)
  step := by
    subst e
    have ne : ∀ a, H a ≠ none → a ≠ p := fun a h z => h (by rw [z]; exact hp)
    exact ⟨fun a o h => by
        have hh := hs a o h
        rw [upd_ne (ne a (by rw [hh]; simp)), upd_ne (ne a (by rw [hh]; simp))]; exact hh, fun _ _ h => h,
      fun a h _ => by rw [upd_ne (ne a h), upd_ne (ne a h)], fun _ h => absurd h (by simp), fun a h => .inl h⟩
  nd := by simp
  nw := fun a h => by
    simp at h; subst h
    refine ⟨hp, ?_⟩
    cases z : B a with
    | none => rfl
    | some o => rw [hs _ _ z] at hp; cases hp
theorem d_dic1 {X : Cx} {W : WX} {x y : Str} {s t : List Nat} {i j : Nat} {p1 p2 pos : Pos} (hx : x.cps.toList = s := by rfl) (hy : y.cps.toList = t := by rfl) :
    PD X W false true (.Dict [some (.Constant (.str x) i p1)] [.Constant (.str y) j p2] pos) (eK (.dic true [(.str s, .str t)])) :=
  PE.weak (pe_disp (pps_cons pe_str pe_str pps_nil) rfl rfl (by simp) (by simp)) fun σ H Q ⟨B, ρ, U, st, k⟩ => fun p hp =>
    ⟨upd_same, [((.inr x : Key), V.str y)], rfl, by simp, k _ B _ U [p] ((Post.start st).fin (New.dic1 hx hy st.sub hp rfl))⟩
end Eng
/-! Eng30: outcomes of try and raise. -/
namespace Eng
open PySem PySem.Spec PyProof.Rows L2
/-- what becomes of a try's body -/
def Tried (sub : Str → Str → Option Bool) (hs : List Han) (R : Out → Prop) (o : Out) : Prop := match o with
  | .exc e ρ => R (tryH sub hs e ρ)
  | o => R o
/-- what becomes of a suite -/
def Suited (i : Option Nat) (R : Out → Prop) (o : Out) : Prop := R (outH i o)
section
variable {ρ : Rho} {R : Out → Prop} {sub : Str → Str → Option Bool} {hs : List Han} {e : Exc} {c : Str} {m : Exc → MS} {mb : MS} {d : D} {i : Nat} {n : MS}
theorem w_try (h : WS mb ρ (Tried sub hs R)) : WS (sTry sub mb hs) ρ R := by
  unfold WS Tried sTry at *
  cases hm : mb ρ <;> rw [hm] at h <;> exact h
theorem w_raise (h : R (.exc ⟨c, []⟩ ρ)) : WS (sRaise c) ρ R := h
theorem td_nx (h : R (.nx ρ)) : Tried sub hs R (.nx ρ) := h
theorem td_rt (h : R (.rt d ρ)) : Tried sub hs R (.rt d ρ) := h
theorem td_exc (h : R (tryH sub hs e ρ)) : Tried sub hs R (.exc e ρ) := h
theorem th_exc (h : R (.exc e ρ)) : Then n R (.exc e ρ) := h
theorem hd_no (hb : sub e.cls c = some false) {o : Option Nat} (h : R (tryH sub hs e ρ)) : R (tryH sub ((c, o, m) :: hs) e ρ) := by
  unfold tryH
  rw [hb]
  exact h
theorem hd_plain (hb : sub e.cls c = some true) (hx : nxR ρ = true) (h : WS (m e) ρ (Suited none R)) : R (tryH sub ((c, none, m) :: hs) e ρ) := by
  unfold tryH
  rw [hb]
  simp only [hx, if_true]
  exact h
theorem hd_named (hb : sub e.cls c = some true) (hx : nxR ρ = true) (hi : i < ρ.length) (fl : flatE e = true) (h : Put i (some (.exo e.cls e.fs)) ρ fun ρ1 => WS (m e) ρ1 (Suited (some i) R)) : R (tryH sub ((c, some i, m) :: hs) e ρ) := by
  unfold tryH
  rw [hb]
  simp only [hx, hi, fl, true_and, if_true]
  exact h
theorem su_nx (hx : nxR ρ = true) (h : R (.nx ρ)) : Suited none R (.nx ρ) := by
  unfold Suited outH
  simp only [hx, if_true]
  exact h
theorem su_rt (hd : d.nx = true) (hx : nxR ρ = true) (h : R (.rt d ρ)) : Suited none R (.rt d ρ) := by
  unfold Suited outH
  simp only [hx, hd, Bool.and_self, if_true]
  exact h
theorem sn_nx (h : Put i none ρ fun ρ1 => nxR ρ1 = true ∧ R (.nx ρ1)) : Suited (some i) R (.nx ρ) := by
  obtain ⟨hx, h⟩ := h
  unfold Suited outH
  simp only [hx, if_true]
  exact h
theorem fn_exc {kp : List Nat} {np : Nat} {E : Exc → List (Option D) → Prop} {Q : D → List (Option D) → Prop} {ps : List (Option D)} (hp : pick kp 0 np ρ = ps) (h : E e ps) : Fin kp np E Q (.exc e ρ) := by subst hp; exact h
theorem wf_exc {f : Fo} {ps : List (Option D)} {E : Exc → List (Option D) → Prop} {Q : D → List (Option D) → Prop} (h : f = .exc e ps) (q : E e ps) : WF f E Q := by subst h; exact q
theorem w_ise {tb : Str → Option Bool} {b : Bool} {E : Exc → Rho → Prop} {Q : D → Rho → Prop} (hf : e.fs = []) (ht : tb e.cls = some b) (h : Get i ρ fun d => ∃ c fs, d = .exo c fs ∧ Q (.bl b) ρ) : W (eIsE e tb i) ρ E Q := by
  obtain ⟨d, hr, c, fs, rfl, q⟩ := h
  unfold W eIsE
  rw [if_pos (by rw [hf]; rfl), ht]
  dsimp only
  rw [hr]
  exact q
end
end Eng
/-! Eng31: the facts about classes, from what the top has written. -/
namespace Eng
open PySem PySem.Spec PyProof.Rows L2
theorem look_mem {α β : Type} [BEq α] [LawfulBEq α] {k : α} {b : β} : ∀ {l : List (α × β)}, l.lookup k = some b → (k, b) ∈ l
  | [], h => by simp at h
  | (a, c) :: l, h => by
    rw [List.lookup_cons] at h
    by_cases e : (k == a) = true
    · rw [e] at h
      cases h
      rw [eq_of_beq e]; exact List.mem_cons_self
    · rw [Bool.not_eq_true] at e
      rw [e] at h
      exact List.mem_cons_of_mem _ (look_mem h)
section
variable {K : PySem.W.Frag} {h : Heap} {mg : Str → Option Value} {x y z : Str} {C : Addr}
theorem err_mk (X : K.In h) (G : h.Ns mainGlobals mg) (a : PySem.W.nsIn K mainGlobals x = some (some (.ref C))) (hx : PySem.W.excIn K C veMro "ValueError.__new__" = true) (hk : PySem.W.keepIn K (.ref C) = true) (hb : PySem.W.subIn K (.ref C) (.type "BaseException") = some true)
    (ht : PySem.W.typeIn K (.ref C) = some (.type "type")) : ErrAt K mg x := ⟨⟨C, PySem.W.mg_of X G a, hx, hk, hb, ht⟩⟩
/-- a clause's class of the program's own; ys: whom it takes, each with its class -/
theorem han_mk {sub : Str → Str → Option Bool} (X : K.In h) (G : h.Ns mainGlobals mg) (a : PySem.W.nsIn K mainGlobals x = some (some (.ref C))) (ys : List (Str × Addr × Bool))
    (hsub : ∀ y b, sub y x = some b → ∃ D, (y, D, b) ∈ ys) (hy : ∀ t ∈ ys, PySem.W.nsIn K mainGlobals t.1 = some (some (.ref t.2.1)) ∧ PySem.W.exmOne K (.ref t.2.1) (.ref C) = some t.2.2) : HanAt K mg sub x := by
  refine ⟨⟨.ref C, .inl (PySem.W.mg_of X G a), fun y b C' h1 h2 => ?_⟩⟩
  obtain ⟨D, hm⟩ := hsub y b h1
  obtain ⟨k1, k2⟩ := hy _ hm
  have e := (PySem.W.mg_of X G k1).symm.trans h2
  cases e
  exact k2
theorem is_mk {sub : Str → Str → Option Bool} {tb : Str → Option Bool} {v : V} {cv : Value} {hc : Str} (X : K.In h) (G : h.Ns mainGlobals mg) (a : mg x = some cv ∨ (mg x = none ∧ bootBuiltins x = some cv ∧ x ≠ "__name__")) (rv : RelV v cv) (ru : ∀ u, RelV v u → u = cv) (ys : List (Str × Addr × Bool))
    (hsub : ∀ y, sub y hc = some true → ∃ D b, (y, D, b) ∈ ys) (hy : ∀ t ∈ ys, PySem.W.nsIn K mainGlobals t.1 = some (some (.ref t.2.1)) ∧ ExcC K t.2.1 ∧ tb t.1 = some t.2.2 ∧ PySem.W.kitOne K (.ref t.2.1) cv = some t.2.2) : IsAt K mg sub hc x tb := by
  refine ⟨⟨v, cv, a, rv, ru, fun y C' h1 h2 => ?_⟩⟩
  obtain ⟨D, b, hm⟩ := hsub y h1
  obtain ⟨k1, k2, k3, k4⟩ := hy _ hm
  have e := (PySem.W.mg_of X G k1).symm.trans h2
  cases e
  exact ⟨k2, b, k3, k4⟩
end
end Eng
/-! Eng32: isinstance's facts from subIn. -/
namespace Eng
open PySem PySem.Spec PyProof.Rows L2
theorem kit_sub {K : PySem.W.Frag} {C D : Addr} (hd : PySem.W.hasDictIn K D = true) (ht : PySem.W.typeIn K (.ref D) = some (.type "type")) (hs : PySem.W.subIn K (.ref C) (.ref D) = some true) : PySem.W.kitOne K (.ref C) (.ref D) = some true := by
  obtain ⟨cd, hc, _⟩ := PySem.W.any_some hd
  unfold PySem.W.kitOne PySem.W.kitCls
  split
  · rfl
  · dsimp only
    rw [hc, ht]
    exact hs
theorem kit_subT {K : PySem.W.Frag} {C : Addr} {T : String} {b : Bool} (hm : PySem.W.kitMeta T = true) (hs : PySem.W.subIn K (.ref C) (.type T) = some b) : PySem.W.kitOne K (.ref C) (.type T) = some b := by
  unfold PySem.W.kitOne PySem.W.kitCls
  rw [if_neg (by intro z; cases (beq_iff_eq.mp z))]
  dsimp only
  rw [if_pos hm]
  exact hs
end Eng
/-! Eng33: looks at a goal's head. -/
namespace Eng
theorem gWO {α : Type} {o : Option α} {Q : α → Prop} (h : WO o Q) : WO o Q := h
theorem gEx {α : Sort _} {p : α → Prop} (h : ∃ x, p x) : ∃ x, p x := h
theorem gAnd {p q : Prop} (h : p ∧ q) : p ∧ q := h
end Eng
/-! Eng34: isupper; range downwards; comparisons of data that are alike. -/
namespace Eng
open PySem PySem.Spec PyProof.Rows L2
/-! ### isupper -/
def isUpS (s : List Nat) : Bool := s.any isUp && !s.any isLo
theorem isupper_S {s : List Nat} (h : s.all (· < 128) = true) : Txt.isupper (S s) = isUpS s := by
  have hh : ∀ c ∈ s, c < 128 := fun c hc => of_decide_eq_true (List.all_eq_true.mp h c hc)
  unfold Txt.isupper isUpS
  have e1 : s.any Unicode.isUpper = s.any isUp := any_congr fun c hc => (isUp_ascii c (hh c hc)).1
  have e2 : (s.any fun c => Unicode.isLower c || Unicode.isTitle c) = s.any isLo := any_congr fun c hc => by
    obtain ⟨_, a, b⟩ := isUp_ascii c (hh c hc)
    rw [a, b, Bool.or_false]
  rw [← Array.any_toList, ← Array.any_toList, S_list, e1, e2]
def isupM : List Nat → List D → Option D := fun s ds => match ds with
  | [] => if s.all (· < 128) then some (.bl (isUpS s)) else none
  | _ => none
section
variable {X : Cx}
theorem md_isup : MtD X "str.isupper" isupM := by
  intro pins s σ H x xs v us Q I rx rs ⟨B, t, ds, G, z, hs, ex, o, hf, q⟩
  subst ex
  unfold isupM at hf
  split at hf
  · obtain rfl := owns_nil o
    split at hf <;> cases hf
    rename_i hc
    exact mt_isupper pins s σ H _ _ v us Q I rx rs ⟨_, rfl, rfl, trivial, by rw [isupper_S hc]; exact q _ B H [] (New.flat hs (.atom rfl))⟩
  · cases hf
end
theorem wo_isup {s : List Nat} {Q : D → Prop} (ha : s.all (· < 128) = true) (h : Q (.bl (isUpS s))) : WO (isupM s []) Q := ⟨_, by unfold isupM; rw [if_pos ha], h⟩
/-! ### range(i, j, -1) -/
def dnL : D → D → D → Option (List D)
  | .int i, .int j, .int k => if k = -1 ∧ -(2 ^ 62) ≤ i ∧ i < 2 ^ 62 ∧ -(2 ^ 62) ≤ j ∧ j < 2 ^ 62 then some ((List.range (i - j).toNat).map fun (k : Nat) => .int (i - (k : Int))) else none
  | _, _, _ => none
theorem dnL_some {d e f : D} {ds : List D} (h : dnL d e f = some ds) : ∃ i j, d = .int i ∧ e = .int j ∧ f = .int (-1) ∧ (-(2 ^ 62) ≤ i ∧ i < 2 ^ 62 ∧ -(2 ^ 62) ≤ j ∧ j < 2 ^ 62) ∧ ds = (List.range (i - j).toNat).map fun (k : Nat) => D.int (i - (k : Int)) := by
  unfold dnL at h
  split at h
  · split at h
    · rename_i hj
      cases h
      obtain ⟨rfl, hj⟩ := hj
      exact ⟨_, _, rfl, rfl, rfl, hj, rfl⟩
    · cases h
  · cases h
def iRgN (m n k : M D) : M (List D) := mBind m fun d => mBind n fun e => mBind k fun f => mOpt (dnL d e f)
section
variable {mg : Ev} {B : Hp}
theorem itr_dn {lo : Int} {n : Nat} : ItR mg B (Itc lo (-1) n) ((List.range n).map fun (k : Nat) => .int (lo - (k : Int))) where
  go := fun i H _ hi => by
    have : i < n := by simpa using hi
    exact this
  stop := fun H _ => by show n ≤ _; simp
  yld := fun i H x H' d B1 hb hb1 hd ⟨e, ex⟩ => by
    subst e ex
    rw [List.getElem?_map] at hd
    cases h : (List.range n)[i]? with
    | none => rw [h] at hd; cases hd
    | some k =>
      rw [h] at hd; cases hd
      have := List.getElem?_eq_some_iff.mp h
      obtain ⟨_, e⟩ := this
      simp at e; subst e
      exact ⟨B1, .atom (show lo + (i : Int) * -1 = lo - (i : Int) by omega), Step.refl hb1⟩
end
section
variable {X : Cx} {W : WX} {a1 a2 a3 s1 s2 s3 : Bool} {tg ea eb ec : Expr} {ma mb mc : M D} {pos : Pos}
theorem i_rgN {p : Pos} (ha : PD X W a1 s1 ea ma) (hb : PD X W a2 s2 eb mb) (hc : PD X W a3 s3 ec mc) (hm : X.mg "range" = none) (hg : Gl X "range" := by rfl)
    (hs : starEach [ea, eb, ec] X.env = (false, eval ea X.env) :: starEach [eb, ec] X.env := by rfl) (hs2 : starEach [eb, ec] X.env = (false, eval eb X.env) :: starEach [ec] X.env := by rfl) (hs3 : starEach [ec] X.env = [(false, eval ec X.env)] := by rfl)
    (hpl : (backTo pos (starEach [eb, ec] X.env)).any (·.1) = false := by rfl) : PDI X W tg (.Call (.Name "range" p) [ea, eb, ec] [] pos) (iRgN ma mb mc) :=
  PI.weak (pi_range3 hg hm (pa_cons ha (pa_cons hb (pa_cons hc pa_nil hs3) hs2) hs) hs hpl) fun σ H R ⟨B, ρ, U, st, k⟩ => by
    refine ⟨B, ρ, U, st, ?_⟩
    dsimp only [iRgN, mBind] at k
    cases hm : ma ρ with
    | ok d ρ1 =>
      rw [hm] at k
      intro v B1 H1 U1 F p
      refine ⟨B1, ρ1, U1, p.st, ?_⟩
      dsimp only [Res.bind, mBind] at k
      cases hm2 : mb ρ1 with
      | ok d2 ρ2 =>
        rw [hm2] at k
        intro v2 B2 H2 U2 F2 q
        refine ⟨B2, ρ2, U2, q.st, ?_⟩
        dsimp only [Res.bind, mBind] at k
        cases hm3 : mc ρ2 with
        | ok d3 ρ3 =>
          rw [hm3] at k
          intro v3 B3 H3 U3 F3 r
          dsimp only [Res.bind, mBind, mOpt] at k
          cases hh : dnL d d2 d3 with
          | none => rw [hh] at k; exact k.elim
          | some ds =>
            rw [hh] at k
            obtain ⟨i', j', rfl, rfl, rfl, hj, rfl⟩ := dnL_some hh
            obtain ⟨rfl, rfl⟩ := own_int p.own
            obtain ⟨rfl, rfl⟩ := own_int q.own
            obtain ⟨rfl, rfl⟩ := own_int r.own
            exact ⟨i', j', -1, _, rfl, RgC.neg hj.1 hj.2.1 hj.2.2.1 hj.2.2.2, k _ B3 H3 U3 ((p.toS.trans q.toS).trans r.toS) itr_dn⟩
        | exc x ρ3 => rw [hm3] at k; exact (k.back p.step).back q.step
        | stuck => rw [hm3] at k; exact k
      | exc x ρ2 => rw [hm2] at k; exact k.back p.step
      | stuck => rw [hm2] at k; exact k
    | exc x ρ1 => rw [hm] at k; exact k
    | stuck => rw [hm] at k; exact k
end
/-! ### order of data that are alike -/
def ltOk (d e : D) : Bool := SeqAt.shaped (toPy d) && SeqAt.shaped (toPy e) && PySem.W.alike (toPy d) (toPy e) && (match d with | .lst _ _ => true | .tup _ => true | _ => false)
def lt2D (d e : D) : Option D := if ltOk d e then some (.bl (PySem.W.dataLt (toPy d) (toPy e))) else none
def gt2D (d e : D) : Option D := if ltOk d e then some (.bl (PySem.W.dataLt (toPy e) (toPy d))) else none
def le2D (d e : D) : Option D := if ltOk d e then some (.bl !(PySem.W.dataLt (toPy e) (toPy d))) else none
def ge2D (d e : D) : Option D := if ltOk d e then some (.bl !(PySem.W.dataLt (toPy d) (toPy e))) else none
theorem ltOk_of {d e : D} (h : ltOk d e = true) : SeqAt.shaped (toPy d) = true ∧ SeqAt.shaped (toPy e) = true ∧ PySem.W.alike (toPy d) (toPy e) = true ∧ toPy d ≠ .none := by
  unfold ltOk at h
  simp only [Bool.and_eq_true] at h
  refine ⟨h.1.1.1, h.1.1.2, h.1.2, fun z => ?_⟩
  have k := h.2
  cases d <;> simp [toPy] at z <;> simp at k
section
variable {X : Cx}
theorem od_lt2 (hu : X.A.units + 64 < cLine) : OpD X (compareOp .Lt) lt2D := by
  intro pins s σ H x y v u Q I r1 r2 ⟨B, d, e, F, G, z, hs, o1, o2, hf, q⟩
  unfold lt2D at hf
  split at hf <;> cases hf
  rename_i hc
  obtain ⟨h1, h2, h3, h4⟩ := ltOk_of hc
  obtain ⟨as, ra⟩ := Dp.reads I _ x v (own_dp hs o1 (SeqAt.canLay_of_shaped h1)) r1
  obtain ⟨bs, rb⟩ := Dp.reads I _ y u (own_dp hs o2 (SeqAt.canLay_of_shaped h2)) r2
  exact PySem.W.lt_data ra rb h3 h4 (SeqAt.room_of_shaped h1 hu) ⟨.bl _, H, I, rfl, q _ B H [] (New.flat hs (.atom rfl))⟩
theorem od_gt2 (hu : X.A.units + 64 < cLine) : OpD X (compareOp .Gt) gt2D := by
  intro pins s σ H x y v u Q I r1 r2 ⟨B, d, e, F, G, z, hs, o1, o2, hf, q⟩
  unfold gt2D at hf
  split at hf <;> cases hf
  rename_i hc
  obtain ⟨h1, h2, h3, h4⟩ := ltOk_of hc
  obtain ⟨as, ra⟩ := Dp.reads I _ x v (own_dp hs o1 (SeqAt.canLay_of_shaped h1)) r1
  obtain ⟨bs, rb⟩ := Dp.reads I _ y u (own_dp hs o2 (SeqAt.canLay_of_shaped h2)) r2
  exact PySem.W.gt_data ra rb h3 h4 (SeqAt.room_of_shaped h1 hu) ⟨.bl _, H, I, rfl, q _ B H [] (New.flat hs (.atom rfl))⟩
theorem od_le2 (hu : X.A.units + 64 < cLine) : OpD X (compareOp .LtE) le2D := by
  intro pins s σ H x y v u Q I r1 r2 ⟨B, d, e, F, G, z, hs, o1, o2, hf, q⟩
  unfold le2D at hf
  split at hf <;> cases hf
  rename_i hc
  obtain ⟨h1, h2, h3, h4⟩ := ltOk_of hc
  obtain ⟨as, ra⟩ := Dp.reads I _ x v (own_dp hs o1 (SeqAt.canLay_of_shaped h1)) r1
  obtain ⟨bs, rb⟩ := Dp.reads I _ y u (own_dp hs o2 (SeqAt.canLay_of_shaped h2)) r2
  exact PySem.W.le_data ra rb h3 h4 (SeqAt.room_of_shaped h1 hu) ⟨.bl _, H, I, rfl, q _ B H [] (New.flat hs (.atom rfl))⟩
theorem od_ge2 (hu : X.A.units + 64 < cLine) : OpD X (compareOp .GtE) ge2D := by
  intro pins s σ H x y v u Q I r1 r2 ⟨B, d, e, F, G, z, hs, o1, o2, hf, q⟩
  unfold ge2D at hf
  split at hf <;> cases hf
  rename_i hc
  obtain ⟨h1, h2, h3, h4⟩ := ltOk_of hc
  obtain ⟨as, ra⟩ := Dp.reads I _ x v (own_dp hs o1 (SeqAt.canLay_of_shaped h1)) r1
  obtain ⟨bs, rb⟩ := Dp.reads I _ y u (own_dp hs o2 (SeqAt.canLay_of_shaped h2)) r2
  exact PySem.W.ge_data ra rb h3 h4 (SeqAt.room_of_shaped h1 hu) ⟨.bl _, H, I, rfl, q _ B H [] (New.flat hs (.atom rfl))⟩
end
end Eng
/-! Eng35: more outcome rules. -/
namespace Eng
open PySem PySem.Spec PyProof.Rows L2
section
variable {ρ : Rho} {E : Exc → Rho → Prop} {Q : D → Rho → Prop} {QL : List D → Rho → Prop} {m ma mb mc : M D}
theorem w_rgN (h : W ma ρ E fun a ρ1 => W mb ρ1 E fun b ρ2 => W mc ρ2 E fun c ρ3 => WO (dnL a b c) fun ds => QL ds ρ3) : W (iRgN ma mb mc) ρ E QL :=
  w_bind (h.imp (fun _ _ h => h) fun _ _ h => w_bind (h.imp (fun _ _ h => h) fun _ _ h => w_bind (h.imp (fun _ _ h => h) fun _ _ h => w_opt h)))
def rgL : D → D → Option (List D)
  | .int i, .int j => if -(2 ^ 62) ≤ i ∧ i < 2 ^ 62 ∧ -(2 ^ 62) ≤ j ∧ j < 2 ^ 62 then some ((List.range (j - i).toNat).map fun (k : Nat) => .int (i + (k : Int))) else none
  | _, _ => none
theorem w_rg2 (h : W ma ρ E fun a ρ1 => W mb ρ1 E fun b ρ2 => WO (rgL a b) fun ds => QL ds ρ2) : W (iRg2 ma mb) ρ E QL :=
  w_bind (h.imp (fun _ _ h => h) fun _ _ h => w_bind (h.imp (fun _ _ h => h) fun _ _ h => w_opt h))
theorem wo_rg2 {i j : Int} {QL : List D → Prop} (h : -4611686018427387904 ≤ i ∧ i < 4611686018427387904 ∧ -4611686018427387904 ≤ j ∧ j < 4611686018427387904)
    (q : QL ((List.range (j - i).toNat).map fun (k : Nat) => .int (i + (k : Int)))) : WO (rgL (.int i) (.int j)) QL := ⟨_, if_pos (by omega), q⟩
theorem dnL_ok {i j : Int} (h : -(2 ^ 62) ≤ i ∧ i < 2 ^ 62 ∧ -(2 ^ 62) ≤ j ∧ j < 2 ^ 62) : dnL (.int i) (.int j) (.int (-1)) = some ((List.range (i - j).toNat).map fun (k : Nat) => .int (i - (k : Int))) := if_pos ⟨rfl, h⟩
theorem w_ch {f g : D → D → Option D} (h : W ma ρ E fun a ρ1 => W mb ρ1 E fun b ρ2 => WO (f a b) fun c => IsBl c fun v => Bif v (W mc ρ2 E fun d ρ3 => WO (g b d) fun z => Q z ρ3) (Q (.bl false) ρ2)) : W (eCh f g ma mb mc) ρ E Q := by
  refine w_bind (h.imp (fun _ _ h => h) fun a ρ1 h => w_bind (h.imp (fun _ _ h => h) fun b ρ2 h => w_bind (w_opt ?_)))
  obtain ⟨c, hc, v, rfl, h⟩ := h
  refine ⟨_, hc, ?_⟩
  cases v
  · exact w_pure h
  · exact w_bind (h.imp (fun _ _ h => h) fun _ _ h => w_opt h)
end
end Eng
/-! Eng36: targets in assignments; sum, max, min, sorted. -/
namespace Eng
open PySem PySem.Spec PyProof.Rows L2
/-! ### a, b = e -/
def sAsg (g : D → Rho → Option Rho) (m : M D) : MS := fun ρ => ofRes (m ρ) fun d ρ1 => match g d ρ1 with
  | some ρ2 => .nx ρ2
  | none => .stuck
section
variable {X : Cx} {W : WX} {kp : List Nat} {alt : Bool} {tg e : Expr} {g : D → Rho → Option Rho} {m : M D} {pos : Pos}
theorem s_asg (h : PD X W alt true e m) (hg : PDG X kp tg g) (hs : swapsWithSole [tg] e pos.line X.env = pure false := by rfl) (hw : swappedStores [tg] e X.env = pure none := by rfl)
    (h1 : (assignEach [tg] X.env).map (·.2) = [assign tg X.env] := by rfl) : PDS X W kp (.Assign [tg] e pos) (sAsg g m) := PS.weak (ps_asg h hg hs hw h1) fun D σ H ⟨B, ρ, U, st, k⟩ => by
  refine ⟨B, ρ, U, st, ?_⟩
  dsimp only [sAsg] at k
  cases hm : m ρ with
  | ok d ρ1 =>
    rw [hm] at k
    intro v B1 H1 U1 F p
    obtain ⟨sp, nw⟩ := p.sep rfl
    dsimp only [ofRes] at k
    cases hg2 : g d ρ1 with
    | none => rw [hg2] at k; exact k.elim
    | some ρ2 =>
      rw [hg2] at k
      refine ⟨B1, ρ1, U1, d, F, p.st, p.own, sp, ?_⟩
      rw [hg2]
      intro σ' U' st' sub kp' len'
      refine k σ' B1 H1 U' ⟨st', p.step.weak (fun _ h => h) fun a x => ?_, kp'⟩
      rcases sub a x with z | z
      · exact .inl z
      · rcases nw a z with y | y
        · exact .inr (.inl y)
        · exact .inr (.inr y)
  | exc x ρ1 => rw [hm] at k; exact excS.toW k
  | stuck => rw [hm] at k; exact k
end
def Tgt (g : D → Rho → Option Rho) (d : D) (ρ : Rho) (Q : Rho → Prop) : Prop := ∃ ρ', g d ρ = some ρ' ∧ Q ρ'
def Tgs (g : List D → Rho → Option Rho) (ds : List D) (ρ : Rho) (Q : Rho → Prop) : Prop := ∃ ρ', g ds ρ = some ρ' ∧ Q ρ'
section
variable {ρ : Rho} {R : Out → Prop} {g : D → Rho → Option Rho} {gs : List D → Rho → Option Rho} {m : M D} {d : D} {ds : List D} {Q : Rho → Prop} {i : Nat}
theorem w_asg (h : W m ρ (fun e ρ1 => R (.exc e ρ1)) fun d ρ1 => Tgt g d ρ1 fun ρ2 => R (.nx ρ2)) : WS (sAsg g m) ρ R := by
  unfold WS sAsg
  unfold W at h
  cases hm : m ρ with
  | ok d ρ1 =>
    rw [hm] at h
    obtain ⟨ρ2, e, q⟩ := h
    dsimp only [ofRes]
    rw [e]; exact q
  | exc e ρ1 => rw [hm] at h; exact h
  | stuck => rw [hm] at h; exact h.elim
theorem tg_n (h : Put i (some d) ρ Q) : Tgt (gN i) d ρ Q := ⟨_, rfl, h⟩
theorem tg_t (h : Tgs gs ds ρ Q) : Tgt (gT gs) (.tup ds) ρ Q := h
theorem ts_nil' (h : Q ρ) : Tgs gNl [] ρ Q := ⟨_, rfl, h⟩
theorem ts_cons (h : Tgt g d ρ fun ρ1 => Tgs gs ds ρ1 Q) : Tgs (gCs g gs) (d :: ds) ρ Q := by
  obtain ⟨ρ1, e, ρ2, e2, q⟩ := h
  refine ⟨ρ2, ?_, q⟩
  unfold gCs
  simp only [e, e2]
theorem gn_t (h : Tgs gs ds ρ Q) : GNext (gT gs) (.tup ds) ρ Q := h
end
/-! ### sum, max, min -/
def intsOf : List D → Option (List Int)
  | [] => some []
  | .int i :: ds => (intsOf ds).map (i :: ·)
  | _ :: _ => none
def sumD : List D → Option D
  | [.lst _ xs] => (intsOf xs).map fun ns => .int ns.sum
  | _ => none
def max2D : List D → Option D
  | [.int i, .int j] => some (.int (if j > i then j else i))
  | _ => none
def min2D : List D → Option D
  | [.int i, .int j] => some (.int (if j < i then j else i))
  | _ => none
section
variable {X : Cx} {mg : Ev} {B H : Hp}
theorem owns_ints : ∀ {vs : List V} {ds : List D} {F : List Addr} {ns : List Int}, Owns mg B H vs ds F → intsOf ds = some ns → vs = ns.map V.int
  | _, _, _, ns, .nil, h => by simp [intsOf] at h; subst h; rfl
  | _, _, _, ns, .cons (d := d) a r, h => by
    cases d <;> simp only [intsOf] at h <;> try (cases h; done)
    obtain ⟨ns', h', rfl⟩ := Option.map_eq_some_iff.mp h
    obtain ⟨rfl, _⟩ := own_int a
    rw [owns_ints r h']; rfl
theorem fd_sum (hc : X.calm = true) : FnD X (.builtin "sum") sumD := by
  intro pins s σ H xs us Q I r ⟨B, ds, F, z, hs, o, hf, q⟩
  unfold sumD at hf
  split at hf
  · obtain ⟨ns, hb, rfl⟩ := Option.map_eq_some_iff.mp hf
    obtain ⟨w, F', rfl, o1⟩ := owns_one o
    obtain ⟨a, vs, K1, rfl, h1, h2, t1⟩ := lst_sql (K := X.K) hs o1
    obtain rfl := owns_ints t1 hb
    exact cr_sum hc pins s σ H _ us Q I r ⟨a, ns, rfl, h2, q _ B H [] (New.flat hs (.atom rfl))⟩
  · cases hf
theorem fd_max2 (hc : X.calm = true) : FnD X (.builtin "max") max2D := by
  intro pins s σ H xs us Q I r ⟨B, ds, F, z, hs, o, hf, q⟩
  unfold max2D at hf
  split at hf <;> cases hf
  obtain ⟨w, w', F1, F2, rfl, o1, o2⟩ := owns_two o
  obtain ⟨rfl, _⟩ := own_int o1
  obtain ⟨rfl, _⟩ := own_int o2
  exact call_max2 hc pins s σ H _ us Q I r ⟨_, _, rfl, q _ B H [] (New.flat hs (.atom rfl))⟩
theorem fd_min2 (hc : X.calm = true) : FnD X (.builtin "min") min2D := by
  intro pins s σ H xs us Q I r ⟨B, ds, F, z, hs, o, hf, q⟩
  unfold min2D at hf
  split at hf <;> cases hf
  obtain ⟨w, w', F1, F2, rfl, o1, o2⟩ := owns_two o
  obtain ⟨rfl, _⟩ := own_int o1
  obtain ⟨rfl, _⟩ := own_int o2
  exact call_min2 hc pins s σ H _ us Q I r ⟨_, _, rfl, q _ B H [] (New.flat hs (.atom rfl))⟩
end
end Eng
/-! Eng37: sorted of texts and of ints. -/
namespace Eng
open PySem PySem.Spec PyProof.Rows L2
/-! ### sorting by insertion -/
section
variable {α : Type} (le : α → α → Bool)
def ins (x : α) : List α → List α
  | [] => [x]
  | y :: ys => if le x y then x :: y :: ys else y :: ins x ys
def isort : List α → List α
  | [] => []
  | x :: xs => ins le x (isort xs)
def Srt : List α → Prop := fun l => l.Pairwise fun a b => le a b = true
variable {le}
theorem ins_perm (x : α) : ∀ l, (ins le x l).Perm (x :: l)
  | [] => List.Perm.refl _
  | y :: ys => by
    unfold ins
    split
    · exact List.Perm.refl _
    · exact ((ins_perm x ys).cons y).trans (List.Perm.swap x y ys)
theorem isort_perm : ∀ l, (isort le l).Perm l
  | [] => List.Perm.refl _
  | x :: xs => (ins_perm x _).trans ((isort_perm xs).cons x)
theorem ins_srt (tot : ∀ a b, le a b = true ∨ le b a = true) (tr : ∀ a b c, le a b = true → le b c = true → le a c = true) (x : α) : ∀ l, Srt le l → Srt le (ins le x l)
  | [], _ => by unfold Srt ins; simp
  | y :: ys, h => by
    unfold Srt at h
    obtain ⟨h1, h2⟩ := List.pairwise_cons.mp h
    unfold ins
    split
    · rename_i e
      refine List.pairwise_cons.mpr ⟨fun z hz => ?_, h⟩
      rcases List.mem_cons.mp hz with rfl | hz
      · exact e
      · exact tr _ _ _ e (h1 z hz)
    · rename_i e
      have e2 : le y x = true := (tot x y).resolve_left e
      refine List.pairwise_cons.mpr ⟨fun z hz => ?_, ins_srt tot tr x ys h2⟩
      rcases List.mem_cons.mp ((ins_perm x ys).mem_iff.mp hz) with rfl | hz
      · exact e2
      · exact h1 z hz
theorem isort_srt (tot : ∀ a b, le a b = true ∨ le b a = true) (tr : ∀ a b c, le a b = true → le b c = true → le a c = true) : ∀ l, Srt le (isort le l)
  | [] => List.Pairwise.nil
  | x :: xs => ins_srt tot tr x _ (isort_srt tot tr xs)
theorem srt_unique (anti : ∀ a b, le a b = true → le b a = true → a = b) : ∀ {l m : List α}, Srt le l → Srt le m → l.Perm m → l = m
  | [], m, _, _, p => (List.Perm.nil_eq p)
  | x :: xs, [], _, _, p => absurd p.length_eq (by simp)
  | x :: xs, y :: ys, h, k, p => by
    obtain ⟨h1, h2⟩ := List.pairwise_cons.mp h
    obtain ⟨k1, k2⟩ := List.pairwise_cons.mp k
    have e : x = y := by
      have a : x ∈ y :: ys := p.mem_iff.mp (by simp)
      have b : y ∈ x :: xs := p.mem_iff.mpr (by simp)
      rcases List.mem_cons.mp a with rfl | a
      · rfl
      · rcases List.mem_cons.mp b with e | b
        · exact e.symm
        · exact anti _ _ (h1 y b) (k1 x a)
    subst e
    rw [srt_unique anti h2 k2 (List.Perm.cons_inv p)]
end
/-! ### texts -/
def leS (s t : List Nat) : Bool := !decide (t < s)
def leI (i j : Int) : Bool := decide (i ≤ j)
theorem leS_tot (a b : List Nat) : leS a b = true ∨ leS b a = true := by
  unfold leS
  by_cases h : b < a
  · right
    have : ¬ a < b := List.lt_asymm h
    simp [this]
  · left; simp [h]
theorem leS_anti (a b : List Nat) (h : leS a b = true) (k : leS b a = true) : a = b := by
  unfold leS at h k
  simp at h k
  exact List.le_antisymm h k
theorem leS_tr (a b c : List Nat) (h : leS a b = true) (k : leS b c = true) : leS a c = true := by
  unfold leS at *
  simp at *
  exact List.le_trans h k
theorem leI_tot (a b : Int) : leI a b = true ∨ leI b a = true := by
  unfold leI; simp; omega
theorem leI_anti (a b : Int) (h : leI a b = true) (k : leI b a = true) : a = b := by
  unfold leI at *; simp at *; omega
theorem leI_tr (a b c : Int) (h : leI a b = true) (k : leI b c = true) : leI a c = true := by
  unfold leI at *; simp at *; omega
def sortedD : List D → Option D
  | [.lst _ xs] => match strsOf xs with
    | some ys => if ys.length < 64 then some (.lst true ((isort leS ys).map D.str)) else none
    | none => none
  | _ => none
theorem rising_srt : ∀ (p : Str) (r : List Str), risingS p r = true → Srt leS ((p :: r).map fun x => x.cps.toList)
  | p, [], _ => by unfold Srt; simp
  | p, x :: r, h => by
    unfold risingS at h
    simp only [Bool.and_eq_true] at h
    have ih := rising_srt x r h.2
    have h1 : leS p.cps.toList x.cps.toList = true := by
      have := h.1
      rw [ltCps_eq] at this
      exact this
    refine List.pairwise_cons.mpr ⟨fun z hz => ?_, ih⟩
    rcases List.mem_cons.mp hz with rfl | hz
    · exact h1
    · exact leS_tr _ _ _ h1 ((List.pairwise_cons.mp ih).1 z hz)
section
variable {X : Cx}
theorem fd_sortedS : FnD X (.builtin "sorted") sortedD := by
  intro pins s σ H xs us Q I r ⟨B, ds, F, z, hs, o, hf, q⟩
  unfold sortedD at hf
  split at hf
  · split at hf
    · rename_i ys hb
      split at hf <;> cases hf
      rename_i hl
      obtain ⟨w, F', rfl, o1⟩ := owns_one o
      obtain ⟨a, vs, K1, rfl, h1, h2, t1⟩ := lst_sql (K := X.K) hs o1
      obtain rfl := owns_strs t1 hb
      refine cr_sortedS pins s σ H _ us Q I r ⟨a, ys.map S, rfl, h2, by rw [List.length_map]; exact hl, fun zs p hp hz hn => ?_⟩
      have e : zs.map (fun x => x.cps.toList) = isort leS ys := by
        refine srt_unique leS_anti ?_ (isort_srt leS_tot leS_tr ys) ?_
        · cases zs with
          | nil => exact List.Pairwise.nil
          | cons x r => exact rising_srt x r hz
        · have h3 := hp.map fun x : Str => x.cps.toList
          rw [List.map_map] at h3
          have h4 : ys.map ((fun x : Str => x.cps.toList) ∘ S) = ys := by
            conv => rhs; rw [← List.map_id ys]
            exact List.map_congr_left fun y _ => S_list y
          rw [h4] at h3
          exact h3.trans (isort_perm ys).symm
      have e2 : zs.map V.str = (isort leS ys).map fun y => V.str (S y) := by
        rw [← e, List.map_map]
        exact List.map_congr_left fun x _ => congrArg V.str (S_of rfl)
      refine q _ _ _ _ (New.lst (vs := zs.map V.str) hs ?_ hn)
      rw [e2]
      generalize isort leS ys = l
      induction l with
      | nil => exact .nil
      | cons y l ih => exact .cons (F := []) (G := []) (.atom (S_list y)) ih
    · cases hf
  · cases hf
end
end Eng
/-! Eng38: x.pop(i). -/
namespace Eng
open PySem PySem.Spec PyProof.Rows L2
def popIx (i : Nat) (k : D) (ρ : Rho) : Res D := match k, lstAt i ρ with
  | .int k, some xs => (match ixN xs.length k with
    | some j => (match xs[j]? with
      | some y => if frzs xs && decide (xs.length < 2 ^ 62) then .ok y (ρ.set i (some (.lst true (xs.eraseIdx j)))) else .stuck
      | none => .stuck)
    | none => .stuck)
  | _, _ => .stuck
def ePopI (i : Nat) (m : M D) : M D := fun ρ0 => match lstAt i ρ0 with
  | some _ => mBind m (fun k ρ => popIx i k ρ) ρ0
  | none => .stuck
section
variable {mg : Ev} {B H : Hp}
theorem owns_nil_each : ∀ {vs : List V} {ds : List D} {F : List Addr}, F = [] → Owns mg B H vs ds F → ∀ j, Owns mg B H (vs.eraseIdx j) (ds.eraseIdx j) []
  | _, _, _, _, .nil, j => .nil
  | _, _, _, e, .cons h t, 0 => by
    obtain ⟨e1, e2⟩ := List.append_eq_nil_iff.mp e
    subst e1 e2
    exact t
  | _, _, _, e, .cons h t, j + 1 => by
    obtain ⟨e1, e2⟩ := List.append_eq_nil_iff.mp e
    subst e1 e2
    exact .cons (F := []) (G := []) h (owns_nil_each rfl t j)
end
section
variable {X : Cx} {W : WX} {alt : Bool} {x : Str} {e : Expr} {m : M D} {pos apos cpos : Pos}
theorem d_popI (i : Nat) (hp : PE X (.Call (.Attribute (.Name x pos) "pop" apos) [e] [] cpos) (tBM X.K "list" rPopAt (tVar i) (tCons (tE X.ev W alt true m) tNil))) : PD X W true true (.Call (.Attribute (.Name x pos) "pop" apos) [e] [] cpos) (ePopI i m) :=
  PE.weak hp fun σ H Q ⟨B, ρ, U, st, k⟩ => by
    dsimp only [ePopI] at k
    cases hl0 : lstAt i ρ with
    | none => rw [hl0] at k; exact k.elim
    | some xs0 =>
    rw [hl0] at k
    obtain ⟨a, vs0, _, e0, h0, ty, _⟩ := slot_list (K := X.K) st hl0
    refine ⟨_, e0, ty, B, ρ, U, st, ?_⟩
    dsimp only [mBind] at k
    cases hm : m ρ with
    | exc x ρ1 => rw [hm] at k; exact k
    | stuck => rw [hm] at k; exact k
    | ok kd ρ1 =>
    rw [hm] at k
    intro v B1 H1 U1 F p
    dsimp only [Res.bind, popIx] at k
    cases kd with
    | int j0 =>
      obtain ⟨rfl, rfl⟩ := own_int p.own
      cases hl : lstAt i ρ1 with
      | none => rw [hl] at k; exact k.elim
      | some xs =>
      rw [hl] at k
      dsimp only at k
      cases hj : ixN xs.length j0 with
      | none => rw [hj] at k; exact k.elim
      | some j =>
      rw [hj] at k
      dsimp only at k
      cases hy : xs[j]? with
      | none => rw [hy] at k; exact k.elim
      | some y =>
      rw [hy] at k
      dsimp only at k
      by_cases hf : (frzs xs && decide (xs.length < 2 ^ 62)) = true
      case neg => rw [if_neg hf] at k; exact k.elim
      rw [if_pos hf] at k
      simp only [Bool.and_eq_true, decide_eq_true_eq] at hf
      obtain ⟨v0, G, e1, o1, ndG, gF, fG, offG, mu⟩ := mut_slot p (lstAt_some hl)
      rw [e0] at e1; cases e1
      obtain ⟨a', vs, G', ea, h1, t1, rfl⟩ := own_lstO p.st.sub o1
      cases ea
      obtain rfl := t1.nil_of hf.1
      obtain ⟨sq, hjl, b1, b2⟩ := ixN_seq hj
      obtain ⟨w, F1, F', F2, hw, ow, eF⟩ := t1.get j hy
      have eF' : F' = [] := by
        have := List.append_eq_nil_iff.mp eF.symm
        exact (List.append_eq_nil_iff.mp this.2).1
      subst eF'
      obtain ⟨U2, q⟩ := mu (upd H1 a (.lst (vs.eraseIdx j))) (.lst true (xs.eraseIdx j)) [a] w y [] (fun x hx => upd_ne fun z => hx (by simp [z]))
        (.own (A := [a]) (F := []) rfl ⟨upd_same, rfl⟩ ((owns_nil_each rfl t1 j).mono (fun _ _ h => h) fun x hx => absurd hx (by simp)))
        (ow.mono (fun _ _ h => h) fun x hx => absurd hx (by simp)) (fun x hx => .inl (by simpa using hx)) (by simp)
      exact ⟨a, vs, j0, j, w, rfl, rfl, h1, by omega, by omega, by rw [t1.len]; exact sq, hw, k _ B1 _ U2 [] q⟩
    | _ => cases hl : lstAt i ρ1 <;> simp only [hl] at k
theorem s_popI (i : Nat) (h : PD X W alt true e m) (hN : X.N[i]? = some x := by rfl) (hv : Vis X.env.scope x := by first | exact Or.inl rfl | exact Or.inr (Or.inl rfl) | exact Or.inr (Or.inr rfl)) (hd : (x == ("__debug__" : Str)) = false := by decide)
    (hcd : (x == ("__classdict__" : Str)) = false := by decide)
    (hbase : attributeBase (.Name x pos) "pop" X.env (eval (.Name x pos) X.env) = eval (.Name x pos) X.env := by rfl)
    (hfew : ((backTo cpos (starEach [e] X.env)).all (fun x => !x.1) && (backToKw cpos (keywordEach [] X.env)).all (fun x => x.1.isSome)
      && decide ([e].length + ([] : List Keyword).length + (if ([] : List Keyword).isEmpty then 0 else 1) < 30)) = true := by rfl)
    (hline : (apos.endLine == cpos.line) = true := by rfl) (hs : starEach [e] X.env = (false, eval e X.env) :: starEach [] X.env := by rfl) (hplain : (backTo cpos (starEach [] X.env)).any (·.1) = false := by rfl) :
    PD X W true true (.Call (.Attribute (.Name x pos) "pop" apos) [e] [] cpos) (ePopI i m) :=
  d_popI i (pe_bm PySem.F.plainAttrs_list PySem.F.slot_list_pop PySem.F.type_list_pop mt_popAt (pe_var hN hv hd hcd) (pa_cons h pa_nil hs) hbase hfew hline hs hplain)
end
section
variable {ρ : Rho} {E : Exc → Rho → Prop} {Q : D → Rho → Prop} {i : Nat} {m : M D}
theorem w_popI (h : GetL i ρ fun _ => W m ρ E fun k ρ1 => GetL i ρ1 fun xs => ∃ (kk : Int) (j : Nat) (y : D), k = .int kk ∧ ixN xs.length kk = some j ∧ xs[j]? = some y ∧ frzs xs = true ∧ xs.length < 4611686018427387904 ∧ Put i (some (.lst true (xs.eraseIdx j))) ρ1 fun ρ2 => Q y ρ2) : W (ePopI i m) ρ E Q := by
  obtain ⟨ys, e, h⟩ := h
  unfold W ePopI
  rw [e]
  dsimp only [mBind]
  unfold W at h
  cases hm : m ρ with
  | exc x ρ1 => rw [hm] at h; exact h
  | stuck => rw [hm] at h; exact h.elim
  | ok k ρ1 =>
    rw [hm] at h
    obtain ⟨xs, e2, kk, j, y, rfl, hj, hy, hf, hl, q⟩ := h
    dsimp only [Res.bind, popIx]
    rw [e2]
    dsimp only
    rw [hj]
    dsimp only
    rw [hy]
    dsimp only
    rw [if_pos (by rw [hf, Bool.true_and]; exact decide_eq_true (by omega))]
    exact q
end
end Eng
/-! Eng39: enumerate of what is no list: by how its walk begins. -/
namespace Eng
open PySem PySem.Spec PyProof.Rows L2
/-- in the heap g, a walk over v begins with the new object o -/
def Begin1 (v : Value) (o : Obj) (g : Heap) : Prop := ∀ (P : Program) (w : World) (A : Around) (E Q : Value → Shared → Prop) (s : Shared), s.heap = g → Q (.ref g.objs.size) { s with heap := g.push o } → wpAny (model P w) A (pyIter v) Q E s
def cellE (n : Nat) : Obj := { cls := .type "enumerate", data := .fields #[.none, .bool false, .ref n, rawInt 0, .none, .none] }
theorem new_enum (v : Value) (o : Obj) : Meets (Builtin.«enumerate.__new__» ⟨[.type "enumerate", v], []⟩) fun _ R s => Begin1 v o s.heap ∧ R (.ok (.ret (.ref (s.heap.push o).objs.size))) { s with heap := (s.heap.push o).push (cellE s.heap.objs.size) } := by
  refine .of_wp fun P w A R s ⟨hb, hr⟩ => ?_
  cases s with
  | mk g a b c d =>
  have sub := sub_enumerate
  have go : ∀ {A' : Around} {E' Q' : Value → Shared → Prop}, Q' (.ref g.objs.size) ⟨g.push o, a, b, c, d⟩ → wpAny (model P w) A' (pyIter v) Q' E' ⟨g, a, b, c, d⟩ := fun q => hb P w _ _ _ ⟨g, a, b, c, d⟩ rfl q
  wp_walk using go
  refine wpAny_stack_any fun _ => wpAny_pure ?_
  split
  · rename_i k _ _ _ _ _
    cases (k == Value.type "enumerate") <;> (wp_walk using go; exact ⟨_, rfl, hr⟩)
  · wp_walk using go
    exact ⟨_, rfl, hr⟩
section
variable {P : Program} {w : World} {A : Around} {E Q : Value → Shared → Prop} {s : Shared} {v : Value} {o : Obj}
theorem call_enum1 (hb : Begin1 v o s.heap) (hf : o.isFreed = false) (q : ∀ g, g = (s.heap.push o).push (cellE s.heap.objs.size) → IsEnum g (s.heap.objs.size + 1) s.heap.objs.size 0 .none → g.get? s.heap.objs.size = some o →
    (∀ b u, s.heap.get? b = some u → g.get? b = some u) → Q (.ref (s.heap.objs.size + 1)) { s with heap := g }) : wpAny (model P w) A (call (.type "enumerate") [v]) Q E s := by
  have z : (s.heap.push o).objs.size = s.heap.objs.size + 1 := Heap.size_push ..
  have two : ((s.heap.push o).push (cellE s.heap.objs.size)).get? (s.heap.objs.size + 1) = some (cellE s.heap.objs.size) := by
    rw [← z]; exact Heap.get?_push_size _ rfl
  have one : ((s.heap.push o).push (cellE s.heap.objs.size)).get? s.heap.objs.size = some o := Heap.get?_push_of_some _ (Heap.get?_push_size _ hf)
  have e := q _ rfl two one fun b u h => Heap.get?_push_of_some _ (Heap.get?_push_of_some _ h)
  refine callType_new F.called_enumerate (by decide) (F.typeCall_enumerate_1 v) (F.newCall_enumerate_1 v) (fun obj => F.args_object_init_2 obj v) F.entry_enumerate_new (new_enum v o) ⟨hb, ?_⟩
  rw [z]
  exact ⟨⟨_, two, rfl⟩, e⟩
end
/-- pairs of a number and an item of the tuple at a -/
def IteT (K : PySem.W.Frag) (a : Addr) : It where
  go i H := ∃ xs x, SqT K H a xs ∧ xs[i]? = some x
  yld i H v H' := ∃ T x, v = .ref T ∧ H T = none ∧ H' = upd H T (.tup [.int (i : Nat), x]) ∧ ∀ xs, SqT K H a xs → xs[i]? = some x
  stop i H := ∃ xs, SqT K H a xs ∧ xs.length = i
def TnE (a e it : Addr) (i : Nat) (h : Heap) : Prop := (∃ old, IsEnum h e it ((i : Nat) : Int) old) ∧ h.IsTupleIter it a i ∧ e ≠ it
theorem two_of {b e it : Addr} {p : Addr → Prop} (h : b ∈ [e, it]) (he : p e) (hi : p it) : p b := by
  rcases List.mem_cons.mp h with rfl | h
  · exact he
  · rw [List.mem_singleton.mp h]; exact hi
theorem turn_enumT {P : Program} {w : World} {K : PySem.W.Frag} {elts : List Expr} {kk : Nat} {tpos : Pos} (a e it : Addr) : L2.Turn P w K (.Tuple elts kk tpos) (IteT K a) [e, it] e (TnE a e it) where
  mem := List.mem_cons_self ..
  self A i s Q E tn q := by
    obtain ⟨⟨_, z⟩, _⟩ := tn
    exact wpAny_pyIter_enum z q
  obj i h tn b hb := by
    obtain ⟨⟨_, z⟩, ⟨u, hu, _, du⟩, _⟩ := tn
    exact two_of (p := fun b => ∃ o, h.get? b = some o ∧ ∀ v, o.data ≠ .cell v) hb ⟨_, z, fun v q => by cases q⟩ ⟨u, hu, fun v q => by rw [du] at q; cases q⟩
  keep i h h' tn k := by
    obtain ⟨⟨old, z⟩, ti, ne⟩ := tn
    exact ⟨⟨old, k e (by simp) _ z⟩, ti.at fun o q => k it (by simp) o q, ne⟩
  item := by
    intro X hP hw hK calm i pins s σ H E I fp tn go
    subst hP hw hK
    obtain ⟨⟨old, z⟩, ti, ne⟩ := tn
    obtain ⟨xs, x, sq, hx⟩ := go
    obtain ⟨its, rv, tp, _⟩ := I.tuple sq
    have tp : s.heap.IsTuple a its.toArray := tp
    obtain ⟨u, hu, ru⟩ := rv.get hx
    have le : e < s.heap.objs.size := Heap.lt_size z
    have li : it < s.heap.objs.size := by
      obtain ⟨_, q, _⟩ := ti
      exact Heap.lt_size q
    have ati : a ≠ it := fun q => by
      obtain ⟨o1, h1, c1, _⟩ := ti
      obtain ⟨o2, h2, c2, _⟩ := tp
      rw [q, h1] at h2
      cases h2
      rw [c1] at c2
      injection c2 with c3
      exact absurd c3 (by decide)
    have ate : e ≠ a := fun q => by
      obtain ⟨o2, h2, c2, _⟩ := tp
      rw [← q, z] at h2
      cases h2
      injection c2 with c3
      exact absurd c3 (by decide)
    have hd1 : X.A.in1.handled = none := I.ok.hd calm
    have lt : i < its.toArray.size := by
      have := (List.getElem?_eq_some_iff.mp hu).1
      simpa using this
    have ni : e ∉ [it, a] := fun q => by
      rcases List.mem_cons.mp q with r | r
      · exact ne r
      · exact ate (List.mem_singleton.mp r)
    refine wpAny_pyNext_enum_itemD (Draws.tuple hd1 it a ati its.toArray) z ⟨ti, tp⟩ lt ne ni fun y h' tk hy zo st ht hz hk => ?_
    refine ⟨_, rfl, wpAny_letOwnedTupleGo_enum (s := { s with heap := h', toks := tk + 1 }) zo fun g zg sb => ?_⟩
    have ey : y = u := by
      have : its[i]? = some y := by simpa using hy
      exact Option.some.inj (this.symm.trans hu)
    subst ey
    have tg := (sb.2 _ (Nat.ne_of_gt le)).trans ht
    have ob : ObjOk X.prog X.w (upd H s.heap.objs.size (.tup [.int (i : Nat), x])) g s.heap.objs.size (.tup [.int (i : Nat), x]) := ⟨by show 2 ≤ sizeLine; decide, _, .cons ⟨tk, rfl⟩ (.cons ru .nil), _, tg, rfl, _, rfl⟩
    have I2 : Inv X pins σ (upd H s.heap.objs.size (.tup [.int (i : Nat), x])) { s with heap := g, toks := tk + 1 } := I.turnedNew (ch := [e, it]) (fun b o nb q => by
      have n1 : b ≠ e := fun r => nb (by simp [r])
      have n2 : b ≠ it := fun r => nb (by simp [r])
      exact (sb.2 b n1).trans (hk b o n1 n2 q)) fp (Nat.le_refl _) ob
    refine ⟨.ref s.heap.objs.size, _, I2, rfl, ⟨_, x, rfl, I.hok.fresh (Nat.le_refl _), rfl, fun ys hys => ?_⟩, ⟨⟨y, ?_⟩, st.1.at fun o q => (sb.2 it (Ne.symm ne)).trans q, ne⟩, fun b hb => ?_⟩
    · rw [I.tuple_inj hys sq]; exact hx
    · rw [show ((i + 1 : Nat) : Int) = (i : Int) + 1 by omega]; exact zg
    · have lb : b < s.heap.objs.size := two_of (p := fun b => b < s.heap.objs.size) hb le li
      rw [upd_ne (Nat.ne_of_lt lb)]
      exact (fp b hb).1
  done := by
    intro X hP hw hK calm i pins s σ H E I fp tn go
    subst hP hw hK
    obtain ⟨⟨old, z⟩, ti, ne⟩ := tn
    obtain ⟨xs, sq, hx⟩ := go
    obtain ⟨its, rv, tp, _⟩ := I.tuple sq
    have tp : s.heap.IsTuple a its.toArray := tp
    have ati : a ≠ it := fun q => by
      obtain ⟨o1, h1, c1, _⟩ := ti
      obtain ⟨o2, h2, c2, _⟩ := tp
      rw [q, h1] at h2
      cases h2
      rw [c1] at c2
      injection c2 with c3
      exact absurd c3 (by decide)
    have hd1 : X.A.in1.handled = none := I.ok.hd calm
    have hl := rv.length
    have ei : i = its.toArray.size := by simp; omega
    subst ei
    exact wpAny_pyNext_enum_endD (Draws.tuple hd1 it a ati its.toArray) z ⟨ti, tp⟩ fun h' eb => ⟨rfl, I.turnedL (t' := s.toks) (ch := [e, it]) (fun b o nb q => eb b o (fun r => nb (by simp [r])) q) fp⟩
/-- the walk over a pair of iterables' items -/
def iEnumT (K : PySem.W.Frag) (ta : TA) : TI := fun σ H R => ta σ H fun vs H1 => ∃ a xs, vs = [.ref a] ∧ SqT K H1 a xs ∧ R (IteT K a) H1
theorem pi_enumT {X : Cx} {e : Expr} {ta : TA} {p pos tpos : Pos} {elts : List Expr} {kk : Nat} (hg : Gl X "enumerate") (hm : X.mg "enumerate" = none) (ha : PA X [e] ta) (hs : starEach [e] X.env = [(false, eval e X.env)] := by rfl) :
    PI X (.Tuple elts kk tpos) (.Call (.Name "enumerate" p) [e] [] pos) (iEnumT X.K ta) := by
  refine ⟨fun pins s σ H R I h => Call_ (ld_blt I hg hm boot_enumerate (PyProof.Rows.callWith_type1 (thn (ha.run pos pins s σ H _ I h) fun us s1 ⟨vs, H1, I1, rv, a, xs, ev, sq, q⟩ => ?_) hs rfl))⟩
  subst ev
  obtain ⟨u, rfl, ru⟩ := vals1 rv
  cases ru
  obtain ⟨its, _, tp, _⟩ := I1.tuple sq
  have tp : s1.heap.IsTuple a its.toArray := tp
  refine call_enum1 (o := { cls := .type "tuple_iterator", data := .fields #[.ref a, .int 0 0] }) (fun P w A E Q s e q => ?_) rfl fun g eg z hit kk => wpAny_pyIter_enum z ?_
  · refine wpAny_pyIter_tuple (by rw [e]; exact tp) ?_
    rw [e]; exact q
  · have I2 : Inv X pins σ H1 { s1 with heap := g } := I1.kept (t' := s1.toks) kk
    refine ⟨s1.heap.objs.size + 1, [s1.heap.objs.size + 1, s1.heap.objs.size], _, _, H1, rfl, I2, turn_enumT a (s1.heap.objs.size + 1) s1.heap.objs.size, ⟨⟨_, z⟩, ⟨_, hit, rfl, rfl⟩, Nat.succ_ne_self _⟩, fun b hb => ?_, q⟩
    have le : s1.heap.objs.size ≤ b := two_of (p := fun b => s1.heap.objs.size ≤ b) hb (Nat.le_succ _) (Nat.le_refl _)
    exact I1.fpOk le (I1.hok.fresh le)
/-! ### the mirrors -/
def prs (xs : List D) : List D := ((List.range xs.length).zip xs).map fun p => .tup [.int (p.1 : Nat), p.2]
def zps (xs ys : List D) : List D := (xs.zip ys).map fun p => .tup [p.1, p.2]
def enumT : D → Option (List D)
  | .tup xs => if frzs xs then some (prs xs) else none
  | _ => none
def zipTT : D → D → Option (List D)
  | .tup xs, .tup ys => if frzs xs && frzs ys then some (zps xs ys) else none
  | _, _ => none
theorem enumT_some {d : D} {l : List D} (h : enumT d = some l) : ∃ xs, d = .tup xs ∧ frzs xs = true ∧ l = prs xs := by
  unfold enumT at h
  split at h
  · split at h
    · cases h; exact ⟨_, rfl, by assumption, rfl⟩
    · cases h
  · cases h
theorem zipTT_some {d e : D} {l : List D} (h : zipTT d e = some l) : ∃ xs ys, d = .tup xs ∧ e = .tup ys ∧ frzs xs = true ∧ frzs ys = true ∧ l = zps xs ys := by
  unfold zipTT at h
  split at h
  · split at h
    · rename_i hf
      simp only [Bool.and_eq_true] at hf
      cases h; exact ⟨_, _, rfl, rfl, hf.1, hf.2, rfl⟩
    · cases h
  · cases h
def iEnu (m : M D) : M (List D) := mBind m fun d => mOpt (enumT d)
def iZip2 (m n : M D) : M (List D) := mBind m fun d => mBind n fun e => mOpt (zipTT d e)
section
variable {mg : Ev} {B B1 H H' : Hp} {v w : V} {d e : D} {vs ws : List V} {xs ys : List D} {T : Addr}
/-- a new tuple of two that are frozen -/
theorem new_two (hb : ∀ a o, B1 a = some o → H a = some o) (o1 : Own mg B1 H v d []) (o2 : Own mg B1 H w e []) (hT : H T = none) : ∃ B2, Own mg B2 (upd H T (.tup [v, w])) (.ref T) (.tup [d, e]) [] ∧ Step B1 H [] B2 (upd H T (.tup [v, w])) [] := by
  have n := New.tup (mg := mg) (vs := [v, w]) (ds := [d, e]) hb (.cons (F := []) (G := []) o1 (.cons (F := []) (G := []) o2 .nil)) hT
  exact ⟨_, n.own, n.step⟩
theorem owns_at_nil (o : Owns mg B H vs xs []) {i : Nat} (hd : xs[i]? = some d) : ∃ v, vs[i]? = some v ∧ Own mg B H v d [] := by
  obtain ⟨v, F1, F', F2, hv, ow, e⟩ := o.get i hd
  have e' : F' = [] := (List.append_eq_nil_iff.mp (List.append_eq_nil_iff.mp e.symm).2).1
  subst e'
  exact ⟨v, hv, ow⟩
theorem itr_enumT {a : Addr} (h : ∀ H, (∀ a o, B a = some o → H a = some o) → SqT mg.K H a vs) (t : ∀ H, Owns mg B H vs xs []) : ItR mg B (IteT mg.K a) (((List.range xs.length).zip xs).map fun p => .tup [.int (p.1 : Nat), p.2]) where
  go i H hb hi := by
    simp at hi
    have hv : i < vs.length := by rw [(t H).len]; exact hi
    exact ⟨vs, vs[i], h H hb, List.getElem?_eq_getElem hv⟩
  stop H hb := ⟨vs, h H hb, by rw [(t H).len]; simp⟩
  yld i H x H' d B1 hb hb1 hd y := by
    obtain ⟨T, z, rfl, hT, rfl, k⟩ := y
    rw [List.getElem?_map] at hd
    cases hz : ((List.range xs.length).zip xs)[i]? with
    | none => rw [hz] at hd; cases hd
    | some p =>
      rw [hz] at hd; cases hd
      rw [List.getElem?_zip_eq_some] at hz
      obtain ⟨hz1, hz2⟩ := hz
      have hp : p.1 = i := by
        have := (List.getElem?_eq_some_iff.mp hz1).2
        simpa using this.symm
      have sq := h H fun a o q => hb1 a o (hb a o q)
      obtain ⟨v, hv, ow⟩ := owns_at_nil (t H) hz2
      have ez : z = v := Option.some.inj ((k vs sq).symm.trans hv)
      subst ez
      dsimp only
      rw [hp]
      exact new_two (v := .int (i : Nat)) (d := .int (i : Nat)) hb1 (.atom rfl) (ow.mono hb fun _ q => absurd q (by simp)) hT
theorem itr_enumL {a : Addr} (h : ∀ H, (∀ a o, B a = some o → H a = some o) → SqL mg.K H a vs) (u : ∀ H (zs : List V), (∀ a o, B a = some o → H a = some o) → SqL mg.K H a zs → zs = vs) (t : ∀ H, Owns mg B H vs xs []) : ItR mg B (Ite mg.K a) (((List.range xs.length).zip xs).map fun p => .tup [.int (p.1 : Nat), p.2]) where
  go i H hb hi := by
    simp at hi
    have hv : i < vs.length := by rw [(t H).len]; exact hi
    exact ⟨vs, vs[i], h H hb, List.getElem?_eq_getElem hv⟩
  stop H hb := ⟨vs, h H hb, by rw [(t H).len]; simp⟩
  yld i H x H' d B1 hb hb1 hd y := by
    obtain ⟨T, z, rfl, hT, rfl, k⟩ := y
    rw [List.getElem?_map] at hd
    cases hz : ((List.range xs.length).zip xs)[i]? with
    | none => rw [hz] at hd; cases hd
    | some p =>
      rw [hz] at hd; cases hd
      rw [List.getElem?_zip_eq_some] at hz
      obtain ⟨hz1, hz2⟩ := hz
      have hp : p.1 = i := by
        have := (List.getElem?_eq_some_iff.mp hz1).2
        simpa using this.symm
      have sq := h H fun a o q => hb1 a o (hb a o q)
      obtain ⟨v, hv, ow⟩ := owns_at_nil (t H) hz2
      have ez : z = v := Option.some.inj ((k vs sq).symm.trans hv)
      subst ez
      dsimp only
      rw [hp]
      exact new_two (v := .int (i : Nat)) (d := .int (i : Nat)) hb1 (.atom rfl) (ow.mono hb fun _ q => absurd q (by simp)) hT
theorem itr_zipT {a b : Addr} (h : ∀ H, (∀ a o, B a = some o → H a = some o) → SqT mg.K H a vs) (t : ∀ H, Owns mg B H vs xs []) (h' : ∀ H, (∀ a o, B a = some o → H a = some o) → SqT mg.K H b ws) (t' : ∀ H, Owns mg B H ws ys []) :
    ItR mg B (RZ.ItzT mg.K a b) ((xs.zip ys).map fun p => .tup [p.1, p.2]) where
  go i H hb hi := by
    simp at hi
    have hv : i < vs.length := by rw [(t H).len]; omega
    have hw : i < ws.length := by rw [(t' H).len]; omega
    exact ⟨vs, ws, vs[i], ws[i], h H hb, h' H hb, List.getElem?_eq_getElem hv, List.getElem?_eq_getElem hw⟩
  stop H hb := ⟨vs, ws, h H hb, h' H hb, by rw [(t H).len, (t' H).len]; simp; omega⟩
  yld i H x H' d B1 hb hb1 hd y := by
    obtain ⟨T, z, z', rfl, hT, rfl, k, k'⟩ := y
    rw [List.getElem?_map] at hd
    cases hz : (xs.zip ys)[i]? with
    | none => rw [hz] at hd; cases hd
    | some p =>
      rw [hz] at hd; cases hd
      rw [List.getElem?_zip_eq_some] at hz
      obtain ⟨hz1, hz2⟩ := hz
      have sq := h H fun a o q => hb1 a o (hb a o q)
      have sq' := h' H fun a o q => hb1 a o (hb a o q)
      obtain ⟨v, hv, ow⟩ := owns_at_nil (t H) hz1
      obtain ⟨v', hv', ow'⟩ := owns_at_nil (t' H) hz2
      obtain rfl : z = v := Option.some.inj ((k vs sq).symm.trans hv)
      obtain rfl : z' = v' := Option.some.inj ((k' ws sq').symm.trans hv')
      exact new_two hb1 (ow.mono hb fun _ q => absurd q (by simp)) (ow'.mono hb fun _ q => absurd q (by simp)) hT
end
section
variable {X : Cx} {W : WX} {a1 a2 s1 s2 : Bool} {ea eb : Expr} {ma mb : M D} {pos : Pos}
theorem tup_fro {mg : Ev} {B H : Hp} {v : V} {xs : List D} {F : List Addr} (o : Own mg B H v (.tup xs) F) (hf : frzs xs = true) : ∃ a vs, v = .ref a ∧ B a = some (.tup vs) ∧ ∀ H', Owns mg B H' vs xs [] := by
  have hF : F = [] := Own.nil_of o hf
  subst hF
  generalize hG : ([] : List Addr) = G at o
  cases o with
  | atom h => cases v <;> simp [Atom] at h
  | own h _ _ => cases h
  | @fro _ _ vs A _ ho hs ht he =>
    subst hG
    cases v <;> simp only [Shape] at hs
    rename_i a
    exact ⟨a, vs, rfl, hs.1, fun H' => ht.mono (fun _ _ h => h) fun _ h => absurd h (by simp)⟩
theorem lst_fro {mg : Ev} {B H : Hp} {v : V} {xs : List D} {F : List Addr} (o : Own mg B H v (.lst false xs) F) (hf : frzs xs = true) : ∃ a vs, v = .ref a ∧ B a = some (.lst vs) ∧ ∀ H', Owns mg B H' vs xs [] := by
  have hF : F = [] := Own.nil_of o hf
  subst hF
  generalize hG : ([] : List Addr) = G at o
  cases o with
  | atom h => cases v <;> simp [Atom] at h
  | own h _ _ => cases h
  | @fro _ _ vs A _ ho hs ht he =>
    subst hG
    cases v <;> simp only [Shape] at hs
    rename_i a
    exact ⟨a, vs, rfl, hs.1, fun H' => ht.mono (fun _ _ h => h) fun _ h => absurd h (by simp)⟩
theorem i_enuT {p tpos : Pos} {elts : List Expr} {kk : Nat} (h : PD X W a1 s1 ea ma) (hm : X.mg "enumerate" = none) (hg : Gl X "enumerate" := by rfl) (hs : starEach [ea] X.env = [(false, eval ea X.env)] := by rfl) : PDI X W (.Tuple elts kk tpos) (.Call (.Name "enumerate" p) [ea] [] pos) (iEnu ma) :=
  PI.weak (pi_enumT hg hm (pa_cons h pa_nil hs) hs) fun σ H R ⟨B, ρ, U, st, k⟩ => by
    refine ⟨B, ρ, U, st, ?_⟩
    dsimp only [iEnu, mBind] at k
    cases hm : ma ρ with
    | ok d ρ1 =>
      rw [hm] at k
      intro v B1 H1 U1 F p
      dsimp only [Res.bind] at k
      cases he : enumT d with
      | none => rw [he] at k; exact k.elim
      | some l =>
        rw [he] at k
        obtain ⟨xs, rfl, hf, rfl⟩ := enumT_some he
        obtain ⟨a, vs, rfl, hB, t⟩ := tup_fro p.own hf
        have sq : ∀ H, (∀ a o, B1 a = some o → H a = some o) → SqT X.K H a vs := fun H hb => .inl (.inl (hb _ _ hB))
        exact ⟨a, vs, rfl, sq H1 p.st.sub, k _ B1 H1 U1 p.toS (itr_enumT sq t)⟩
    | exc x ρ1 => rw [hm] at k; exact k
    | stuck => rw [hm] at k; exact k
theorem i_zipT {p tpos : Pos} {elts : List Expr} {kk : Nat} (ha : PD X W a1 s1 ea ma) (hb : PD X W a2 s2 eb mb) (hm : X.mg "zip" = none) (hg : Gl X "zip" := by rfl) (hs : starEach [ea, eb] X.env = (false, eval ea X.env) :: starEach [eb] X.env := by rfl)
    (hs2 : starEach [eb] X.env = [(false, eval eb X.env)] := by rfl) (hpl : (backTo pos (starEach [eb] X.env)).any (·.1) = false := by rfl) : PDI X W (.Tuple elts kk tpos) (.Call (.Name "zip" p) [ea, eb] [] pos) (iZip2 ma mb) :=
  PI.weak (RZ.pi_zipA hg hm (pa_cons ha (pa_cons hb pa_nil hs2) hs) hs hpl) fun σ H R ⟨B, ρ, U, st, k⟩ => by
    refine ⟨B, ρ, U, st, ?_⟩
    dsimp only [iZip2, mBind] at k
    cases hm : ma ρ with
    | ok d ρ1 =>
      rw [hm] at k
      intro v B1 H1 U1 F p
      refine ⟨B1, ρ1, U1, p.st, ?_⟩
      dsimp only [Res.bind, mBind] at k
      cases hm2 : mb ρ1 with
      | ok d2 ρ2 =>
        rw [hm2] at k
        intro v2 B2 H2 U2 F2 q
        dsimp only [Res.bind] at k
        cases he : zipTT d d2 with
        | none => rw [he] at k; exact k.elim
        | some l =>
          rw [he] at k
          obtain ⟨xs, ys, rfl, rfl, hf, hf2, rfl⟩ := zipTT_some he
          obtain ⟨a, vs, rfl, hB, t⟩ := tup_fro p.own hf
          obtain ⟨b, ws, rfl, hB2, t2⟩ := tup_fro q.own hf2
          have sq : ∀ H, (∀ a o, B2 a = some o → H a = some o) → SqT X.K H a vs := fun H hb => .inl (.inl (hb _ _ (q.step.bs _ _ hB)))
          have sq2 : ∀ H, (∀ a o, B2 a = some o → H a = some o) → SqT X.K H b ws := fun H hb => .inl (.inl (hb _ _ hB2))
          exact ⟨a, b, vs, ws, rfl, .inr ⟨sq H2 q.st.sub, sq2 H2 q.st.sub, k _ B2 H2 U2 (p.toS.trans q.toS) (itr_zipT sq (fun H' => (t H').mono q.step.bs fun _ h => absurd h (by simp)) sq2 t2)⟩⟩
      | exc x ρ2 => rw [hm2] at k; exact k.back p.step
      | stuck => rw [hm2] at k; exact k
    | exc x ρ1 => rw [hm] at k; exact k
    | stuck => rw [hm] at k; exact k
end
section
variable {ρ : Rho} {E : Exc → Rho → Prop} {QL : List D → Rho → Prop} {m n : M D} {xs ys : List D}
theorem w_enu (h : W m ρ E fun d ρ1 => ∃ xs, d = .tup xs ∧ frzs xs = true ∧ QL (prs xs) ρ1) : W (iEnu m) ρ E QL :=
  w_bind (h.imp (fun _ _ h => h) fun d _ h => by
    obtain ⟨xs, rfl, hf, q⟩ := h
    exact w_opt ⟨_, if_pos hf, q⟩)
theorem w_zip2 (h : W m ρ E fun d ρ1 => W n ρ1 E fun e ρ2 => ∃ xs ys, d = .tup xs ∧ e = .tup ys ∧ frzs xs = true ∧ frzs ys = true ∧ QL (zps xs ys) ρ2) : W (iZip2 m n) ρ E QL :=
  w_bind (h.imp (fun _ _ h => h) fun d _ h => w_bind (h.imp (fun _ _ h => h) fun e _ h => by
    obtain ⟨xs, ys, rfl, rfl, hf, hf2, q⟩ := h
    exact w_opt ⟨_, if_pos (by rw [hf, hf2]; rfl), q⟩))
end
end Eng
/-! Eng40: instances: fields read and stored. -/
namespace Eng
open PySem PySem.Spec PyProof.Rows L2
/-- a class of the program, as its instances need it -/
structure InsC (K : PySem.W.Frag) (mg : Str → Option Value) (c : Str) (fs : List Str) : Prop where
  ex : ∃ C, mg c = some (.ref C) ∧ L2.Cls K C ∧ ∀ f ∈ fs, NoAttr K C f
def insOf (c : Str) : D → Option (Bool × List (Str × D))
  | .ins o c' fs => if c' = c then some (o, fs) else none
  | _ => none
theorem insOf_some {c : Str} {d : D} {o : Bool} {fs : List (Str × D)} (h : insOf c d = some (o, fs)) : d = .ins o c fs := by
  unfold insOf at h
  split at h
  · split at h
    · rename_i e; cases h; rw [e]
    · cases h
  · cases h
def fldD (c f : Str) (d : D) : Option D := (insOf c d).bind fun p => p.2.lookup f
def eFld (c f : Str) (m : M D) : M D := mBind m fun d => mOpt (fldD c f d)
section
variable {mg : Ev} {B H : Hp} {v : V} {o : Bool} {c : Str} {fs : List (Str × D)} {F : List Addr}
theorem own_ins (hs : ∀ a u, B a = some u → H a = some u) (h : Own mg B H v (.ins o c fs) F) : ∃ a C dx vs G, v = .ref a ∧ H a = some (.ins C dx ((fs.map (·.1)).zip vs)) ∧ H dx = some (.own a) ∧ mg.mg c = some (.ref C) ∧ vs.length = fs.length ∧
    Owns mg B H vs (fs.map (·.2)) G ∧ (o = false → F = [] ∧ G = []) ∧ (o = true → F = dx :: a :: G) := by
  cases h with
  | atom h => cases v <;> simp [Atom] at h
  | @fro _ _ vs A F ho hq ht he =>
    cases v <;> simp only [Shape] at hq
    rename_i a
    obtain ⟨C, dx, h1, h2, h3, h4, _⟩ := hq
    have e : F = [] := he rfl
    subst e
    simp only [D.own] at ho
    exact ⟨a, C, dx, vs, [], rfl, hs _ _ h1, hs _ _ h2, h3, h4, ht, fun _ => ⟨rfl, rfl⟩, fun z => (by rw [z] at ho; cases ho)⟩
  | @own _ _ vs A F ho hq ht =>
    cases v <;> simp only [Shape] at hq
    rename_i a
    obtain ⟨C, dx, h1, h2, h3, h4, rfl⟩ := hq
    simp only [D.own] at ho
    exact ⟨a, C, dx, vs, F, rfl, h1, h2, h3, h4, ht, fun z => (by rw [ho] at z; cases z), fun _ => rfl⟩
theorem look_zip {f : Str} {d : D} : ∀ {fs : List (Str × D)} {vs : List V} {G : List Addr}, Owns mg B H vs (fs.map (·.2)) G → fs.lookup f = some d → ∃ v F', ((fs.map (·.1)).zip vs).lookup f = some v ∧ Own mg B H v d F' ∧ (∀ a ∈ F', a ∈ G) ∧ (G.Nodup → F'.Nodup)
  | [], _, _, _, h => by simp at h
  | (g, e) :: fs, _, _, .cons (v := w) (F := F1) (G := F2) a t, h => by
    rw [List.lookup_cons] at h
    simp only [List.map_cons, List.zip_cons_cons]
    rw [List.lookup_cons]
    by_cases q : (f == g) = true
    · rw [q] at h ⊢
      cases h
      exact ⟨w, F1, rfl, a, fun b hb => by simp [hb], fun nd => (List.nodup_append.mp nd).1⟩
    · rw [Bool.not_eq_true] at q
      rw [q] at h ⊢
      obtain ⟨v, F', e1, o1, sub, nd⟩ := look_zip t h
      exact ⟨v, F', e1, o1, fun b hb => by simp [sub b hb], fun n => nd (List.nodup_append.mp n).2.1⟩
theorem look_none {f : Str} : ∀ {fs : List (Str × D)} {vs : List V}, fs.lookup f = none → ((fs.map (·.1)).zip vs).lookup f = none
  | [], _, _ => by simp
  | (g, e) :: fs, [], _ => by simp
  | (g, e) :: fs, v :: vs, h => by
    rw [List.lookup_cons] at h
    simp only [List.map_cons, List.zip_cons_cons]
    rw [List.lookup_cons]
    by_cases q : (f == g) = true
    · rw [q] at h; cases h
    · rw [Bool.not_eq_true] at q
      rw [q] at h ⊢
      exact look_none h
end
section
variable {X : Cx} {W : WX} {alt sep : Bool} {e : Expr} {m : M D} {pos : Pos} {c f : Str} {gs : List Str}
/-- e.f, e an instance of the class c -/
theorem d_fld (hc : InsC X.K X.mg c gs) (h : PD X W alt sep e m) (hf : f ∈ gs := by decide) (hb : attributeBase e f X.env (eval e X.env) = eval e X.env := by rfl) : PD X W alt sep (.Attribute e f pos) (eFld c f m) := PE.weak (pe_fld h hb) fun σ H Q ⟨B, ρ, U, st, k⟩ => by
  refine ⟨B, ρ, U, st, ?_⟩
  dsimp only [eFld, mBind] at k
  cases hm : m ρ with
  | ok d ρ1 =>
    rw [hm] at k
    intro v B1 H1 U1 F p
    dsimp only [Res.bind, fldD] at k
    cases hi : insOf c d with
    | none => rw [hi] at k; exact k.elim
    | some q =>
      obtain ⟨o, fs⟩ := q
      rw [hi] at k
      obtain rfl := insOf_some hi
      dsimp only [Option.bind] at k
      cases hl : fs.lookup f with
      | none => rw [hl] at k; exact k.elim
      | some z =>
        rw [hl] at k
        obtain ⟨C, hC, cl, na⟩ := hc.ex
        obtain ⟨a, C', dx, vs, G, rfl, h1, h2, h3, h4, t, z1, z2⟩ := own_ins p.st.sub p.own
        have e1 : C' = C := by
          have := h3.symm.trans hC
          cases this; rfl
        subst e1
        obtain ⟨w, F', e2, ow, sub, nd⟩ := look_zip t hl
        have sub2 : ∀ b ∈ F', b ∈ F := fun b hb => by
          cases o with
          | false => have := sub b hb; rw [(z1 rfl).2] at this; simp at this
          | true => rw [z2 rfl]; simp [sub b hb]
        have nd2 : F.Nodup → F'.Nodup := fun n => by
          cases o with
          | false => exact nd (by rw [(z1 rfl).2]; exact List.nodup_nil)
          | true => rw [z2 rfl] at n; exact nd (List.nodup_cons.mp (List.nodup_cons.mp n).2).2
        refine ⟨a, C', dx, _, w, rfl, h1, cl, na f hf, e2, k w B1 H1 U1 F' ⟨p.st, ow, fun e => ?_, p.step, p.alt⟩⟩
        obtain ⟨k1, n1⟩ := p.sep e
        exact ⟨⟨nd2 k1.nd, fun a x => k1.dj a (sub2 a x), fun a x => k1.off a (sub2 a x)⟩, fun a x => n1 a (sub2 a x)⟩
  | exc x ρ1 => rw [hm] at k; exact k
  | stuck => rw [hm] at k; exact k
end
section
variable {ρ : Rho} {E : Exc → Rho → Prop} {Q : D → Rho → Prop} {m : M D} {c f : Str}
theorem w_fld (h : W m ρ E fun d ρ1 => WO (fldD c f d) fun z => Q z ρ1) : W (eFld c f m) ρ E Q := w_bind (h.imp (fun _ _ h => h) fun _ _ h => w_opt h)
end
end Eng
/-! Eng41: o.f = e, o a name that owns its instance. -/
namespace Eng
open PySem PySem.Spec PyProof.Rows L2
def putD (f : Str) (d : D) : List (Str × D) → List (Str × D)
  | [] => [(f, d)]
  | (g, x) :: r => if g = f then (g, d) :: r else (g, x) :: putD f d r
theorem put_zip {mg : Ev} {B H : Hp} {f : Str} {v : V} {d : D} {F : List Addr} (ow : Own mg B H v d F) : ∀ {fs : List (Str × D)} {vs : List V} {G : List Addr}, Owns mg B H vs (fs.map (·.2)) G → vs.length = fs.length → G.Nodup → F.Nodup → (∀ a ∈ G, a ∉ F) →
    ∃ vs' G', putF f v ((fs.map (·.1)).zip vs) = ((putD f d fs).map (·.1)).zip vs' ∧ vs'.length = (putD f d fs).length ∧ Owns mg B H vs' ((putD f d fs).map (·.2)) G' ∧ (∀ a ∈ G', a ∈ G ∨ a ∈ F) ∧ G'.Nodup
  | [], vs, G, t, hl, n1, n2, dj => by
    have : vs = [] := List.eq_nil_of_length_eq_zero (by simpa using hl)
    subst this
    exact ⟨[v], F ++ [], rfl, rfl, .cons ow .nil, fun a h => .inr (by simpa using h), by simpa using n2⟩
  | (g, e) :: fs, [], _, _, hl, _, _, _ => by simp at hl
  | (g, e) :: fs, w :: vs, _, .cons (F := F1) (G := F2) a t, hl, n1, n2, dj => by
    have nn := List.nodup_append.mp n1
    simp only [List.map_cons, List.zip_cons_cons]
    unfold putF putD
    by_cases q : g = f
    · rw [if_pos q, if_pos q]
      refine ⟨v :: vs, F ++ F2, rfl, by simpa using hl, .cons ow t, fun b h => ?_, List.nodup_append.mpr ⟨n2, nn.2.1, fun x hx y hy z => ?_⟩⟩
      · rcases List.mem_append.mp h with h | h
        · exact .inr h
        · exact .inl (by simp [h])
      · subst z; exact dj x (by simp [hy]) hx
    · rw [if_neg q, if_neg q]
      obtain ⟨vs', G', e1, e2, t', sub, nd⟩ := put_zip ow t (by simpa using hl) nn.2.1 n2 fun b h => dj b (by simp [h])
      refine ⟨w :: vs', F1 ++ G', by rw [e1]; rfl, by simp [e2], .cons a t', fun b h => ?_, List.nodup_append.mpr ⟨nn.1, nd, fun x hx y hy z => ?_⟩⟩
      · rcases List.mem_append.mp h with h | h
        · exact .inl (by simp [h])
        · rcases sub b h with h | h
          · exact .inl (by simp [h])
          · exact .inr h
      · subst z
        rcases sub x hy with h | h
        · exact nn.2.2 x hx x h rfl
        · exact dj x (by simp [hx]) h
def setF (i : Nat) (c f : Str) (d : D) (ρ : Rho) : Out := match ρ[i]? with
  | some (some (.ins true c' fs)) => if c' = c ∧ fs.length < 1000 then .nx (ρ.set i (some (.ins true c (putD f d fs)))) else .stuck
  | _ => .stuck
def sSetF (i : Nat) (c f : Str) (m : M D) : MS := fun ρ => ofRes (m ρ) fun d ρ1 => setF i c f d ρ1
theorem setF_some {i : Nat} {c f : Str} {d : D} {ρ : Rho} (P : Out → Prop) (hs : ¬ P .stuck) (h : P (setF i c f d ρ)) : ∃ fs, ρ[i]? = some (some (.ins true c fs)) ∧ fs.length < 1000 ∧ P (.nx (ρ.set i (some (.ins true c (putD f d fs))))) := by
  unfold setF at h
  split at h
  · split at h
    · rename_i e z
      obtain ⟨rfl, hl⟩ := z
      exact ⟨_, e, hl, h⟩
    · exact absurd h hs
  · exact absurd h hs
section
variable {X : Cx} {W : WX} {kp : List Nat} {alt : Bool} {x : Str} {e : Expr} {m : M D} {pos pos' pos2 : Pos} {c f : Str} {gs : List Str}
theorem s_fld (i : Nat) (hc : InsC X.K X.mg c gs) (h : PD X W alt true e m) (hf : f ∈ gs := by decide) (hN : X.N[i]? = some x := by rfl) (hv : Vis X.env.scope x := by first | exact Or.inl rfl | exact Or.inr (Or.inl rfl) | exact Or.inr (Or.inr rfl))
    (hd : (x == ("__debug__" : Str)) = false := by decide) (hcd : (x == ("__classdict__" : Str)) = false := by decide) (hs : swapsWith e (some (.Attribute (.Name x pos2) f pos')) pos.line X.env = pure false := by rfl) :
    PDS X W kp (.Assign [.Attribute (.Name x pos2) f pos'] e pos) (sSetF i c f m) := PS.weak (ps_fld (pe_var hN hv hd hcd) h hs) fun D σ H ⟨B, ρ, U, st, k⟩ => by
  refine ⟨B, ρ, U, st, ?_⟩
  dsimp only [sSetF] at k
  cases hm : m ρ with
  | exc x ρ1 => rw [hm] at k; exact excS.toW k
  | stuck => rw [hm] at k; exact k
  | ok d ρ1 =>
    rw [hm] at k
    intro v B1 H1 U1 F p
    dsimp only [ofRes] at k
    have k' : Wish X.ev W kp D (setF i c f d ρ1) σ B H U := k
    obtain ⟨fs, hr, hlen, kk⟩ := setF_some (fun o => Wish X.ev W kp D o σ B H U) (fun z => z) k'
    obtain ⟨v0, G, e1, o1, ndG, gF, fG, offG, mu⟩ := mut_slot p hr
    obtain ⟨C, hC, cl, na⟩ := hc.ex
    obtain ⟨a, C', dx, vs, G0, rfl, h1, h2, h3, h4, t, _, z2⟩ := own_ins p.st.sub o1
    have eC : C' = C := by
      have := h3.symm.trans hC
      cases this; rfl
    subst eC
    obtain rfl := z2 rfl
    have n1 := List.nodup_cons.mp ndG
    have n2 := List.nodup_cons.mp n1.2
    obtain ⟨vs', G', eP, lP, tP, subP, ndP⟩ := put_zip (f := f) p.own t h4 n2.2 (p.sep rfl).1.nd fun b hb => gF b (by simp [hb])
    have sub2 : ∀ b ∈ G', b ∈ dx :: a :: G0 ∨ b ∈ F := fun b hb => (subP b hb).imp (fun h => by simp [h]) id
    have nA : a ∉ G' := fun z => by
      rcases subP a z with z | z
      · exact n2.1 z
      · exact gF a (by simp) z
    have nD : dx ∉ G' := fun z => by
      rcases subP dx z with z | z
      · exact n1.1 (by simp [z])
      · exact gF dx (by simp) z
    have nDA : dx ≠ a := fun z => n1.1 (by rw [z]; simp)
    obtain ⟨U2, q⟩ := mu (upd H1 a (.ins C' dx (putF f v ((fs.map (·.1)).zip vs)))) (.ins true c (putD f d fs)) (dx :: a :: G') .non .non [] (fun b hb => upd_ne fun z => hb (by simp [z]))
      (.own (A := [dx, a]) (F := G') rfl ⟨C', dx, by rw [eP]; exact upd_same, by rw [upd_ne nDA]; exact h2, h3, lP, rfl⟩ (tP.mono (fun _ _ h => h) fun b hb => upd_ne fun z => nA (by rw [← z]; exact hb)))
      (.atom trivial) (fun b hb => by
        rw [List.append_nil] at hb
        rcases List.mem_cons.mp hb with rfl | hb
        · exact .inl (by simp)
        · rcases List.mem_cons.mp hb with rfl | hb
          · exact .inl (by simp)
          · exact sub2 b hb) (by
        rw [List.append_nil]
        exact List.nodup_cons.mpr ⟨fun z => by
          rcases List.mem_cons.mp z with z | z
          · exact nDA z
          · exact nD z, List.nodup_cons.mpr ⟨nA, ndP⟩⟩)
    exact ⟨_, e1, a, C', dx, _, rfl, h1, cl, na f hf, by simp; omega, kk σ B1 _ U2 ⟨q.st, q.step, fun _ _ => rfl⟩⟩
end
section
variable {ρ : Rho} {R : Out → Prop} {m : M D} {i : Nat} {c f : Str}
theorem w_setF (h : W m ρ (fun e ρ1 => R (.exc e ρ1)) fun d ρ1 => Get i ρ1 fun o => ∃ fs, o = .ins true c fs ∧ fs.length < 1000 ∧ Put i (some (.ins true c (putD f d fs))) ρ1 fun ρ2 => R (.nx ρ2)) : WS (sSetF i c f m) ρ R := by
  unfold WS sSetF
  unfold W at h
  cases hm : m ρ with
  | ok d ρ1 =>
    rw [hm] at h
    obtain ⟨o, e, fs, rfl, hl, q⟩ := h
    dsimp only [ofRes, setF]
    rw [e]
    dsimp only
    rw [if_pos ⟨rfl, hl⟩]
    exact q
  | exc e ρ1 => rw [hm] at h; exact h
  | stuck => rw [hm] at h; exact h.elim
end
end Eng
/-! Eng42: methods called, instances made. -/
namespace Eng
open PySem PySem.Spec PyProof.Rows L2
structure MetAt (K : PySem.W.Frag) (mg : Str → Option Value) (c m q : Str) (st : Stmt) : Prop where
  ex : ∃ C f fd, mg c = some (.ref C) ∧ L2.Cls K C ∧ Meth K C m f ∧ Fun K m q st f fd
structure IniAt (K : PySem.W.Frag) (mg : Str → Option Value) (c q : Str) (st : Stmt) : Prop where
  ex : ∃ C f fd, mg c = some (.ref C) ∧ Mk K C f ∧ Fun K "__init__" q st f fd
structure MetOk (P : Program) (w : World) (K : PySem.W.Frag) (mg : Str → Option Value) (base : Heap) (k np : Nat) (c m : Str) (ps : List Str) (g : List D → Fo) : Prop where
  ex : ∃ C f fd, mg c = some (.ref C) ∧ L2.Cls K C ∧ Meth K C m f ∧ Binds K fd ps [] ∧ FnOk P w K mg base (L2.CX P w) k f fd ps (spD ⟨mg, K, none⟩ np g)
  len : ∀ ds : List D, ds.length ≠ np → g ds = .stuck
structure IniOk (P : Program) (w : World) (K : PySem.W.Frag) (mg : Str → Option Value) (base : Heap) (k np : Nat) (c : Str) (ps : List Str) (g : List D → Fo) : Prop where
  ex : ∃ C f fd, mg c = some (.ref C) ∧ Mk K C f ∧ Binds K fd ps [] ∧ FnOk P w K mg base (L2.CX P w) k f fd ps (spD ⟨mg, K, none⟩ np g)
  len : ∀ ds : List D, ds.length ≠ np → g ds = .stuck
section
variable {P : Program} {w : World} {K : PySem.W.Frag} {mg : Str → Option Value} {base : Heap} {c m q : Str} {st : Stmt} {N ps : List Str} {k np nl : Nat} {kp : List Nat} {b : MS}
theorem met_ok (MA : MetAt K mg c m q st) (S : FnScope N ps (defScope st)) (hp : ps.length = np) (hN : N.length = np + nl)
    (hb : ∀ (kV doc pm : Value) (an : Option Addr) (cdv ct : Value) (us : List Value), us.length = ps.length → bindArgs (PySem.W.fnOf m q (defArgs st) (defBody st) (defScope st) .none kV doc pm an cdv ct) ⟨us, []⟩ = pure (ps.zip us))
    (body : ∀ (f : Addr) (cdv : Value) (A : Around) (outer : List Env) (s : Shared) (H : Hp) (E : XK), Room k (A.deeper (envOfC q (defScope st) s.heap.objs.size f cdv)) →
      PDSs (cxOf (L2.CX P w) P w K mg base N q (defScope st) f cdv A outer s H E) (fun cls d _ H => E cls d H) kp (defBody st) b) : MetOk P w K mg base (k + 1) np c m ps (runF kp np nl b) := by
  obtain ⟨C, f, fd, e, cl, me, F⟩ := MA.ex
  exact ⟨⟨C, f, fd, e, cl, me, F.binds hb, def_ok F S hp hN fun cdv A outer s H E hr => body f cdv A outer s H E hr⟩, fun ds h => runF_len ds h⟩
theorem ini_ok (MA : IniAt K mg c q st) (S : FnScope N ps (defScope st)) (hp : ps.length = np) (hN : N.length = np + nl)
    (hb : ∀ (kV doc pm : Value) (an : Option Addr) (cdv ct : Value) (us : List Value), us.length = ps.length → bindArgs (PySem.W.fnOf "__init__" q (defArgs st) (defBody st) (defScope st) .none kV doc pm an cdv ct) ⟨us, []⟩ = pure (ps.zip us))
    (body : ∀ (f : Addr) (cdv : Value) (A : Around) (outer : List Env) (s : Shared) (H : Hp) (E : XK), Room k (A.deeper (envOfC q (defScope st) s.heap.objs.size f cdv)) →
      PDSs (cxOf (L2.CX P w) P w K mg base N q (defScope st) f cdv A outer s H E) (fun cls d _ H => E cls d H) kp (defBody st) b) : IniOk P w K mg base (k + 1) np c ps (runF kp np nl b) := by
  obtain ⟨C, f, fd, e, mk, F⟩ := MA.ex
  exact ⟨⟨C, f, fd, e, mk, F.binds hb, def_ok F S hp hN fun cdv A outer s H E hr => body f cdv A outer s H E hr⟩, fun ds h => runF_len ds h⟩
end
/-! ### the machine's side -/
def tMe (C : Addr) (m : Str) (sp : Sp) (E : L2.St → XK) (ta : TE) (t : TA) : TE := fun σ H Q => ta σ H fun x H1 => ∃ a dx fs, x = .ref a ∧ H1 a = some (.ins C dx fs) ∧ fs.lookup m = none ∧ t σ H1 fun vs H2 => sp (x :: vs) H2 Q (E σ)
def tMk (C : Addr) (sp : Sp) (E : L2.St → XK) (t : TA) : TE := fun σ H Q => t σ H fun vs H1 => ∀ x dx, H1 x = none → H1 dx = none → dx ≠ x → sp (.ref x :: vs) (upd (upd H1 dx (.own x)) x (.ins C dx [])) (fun v H2 => v = .non ∧ Q (.ref x) H2) (E σ)
section
variable {X : Cx} {CX : CXT} {k : Nat} {f C : Addr} {fd : FuncData} {ps : List Str} {sp : Sp} {E : L2.St → XK} {x m : Str} {p pos apos : Pos} {e o : Expr} {es : List Expr} {ta : TE} {t : TA}
theorem e_meth {pl : Sem Bool} (he : PE X o ta) (c : L2.Cls X.K C) (hm : Meth X.K C m f) (F : FnOk X.prog X.w X.K X.mg X.base CX k f fd ps sp) (hr : Room k X.A) (hb : Binds X.K fd ps []) (hx : ∀ σ, PassesAt CX X σ (E σ)) (ha : PA X (e :: es) t)
    (hst : starEach (e :: es) X.env = (false, eval e X.env) :: starEach es X.env) (hpl : (backTo pos (starEach es X.env)).any (·.1) = false)
    (ht : eval (.Call (.Attribute o m apos) (e :: es) [] pos) X.env = (eval o X.env >>= fun ov => standAt apos.atName >>= fun _ => holding [ov] (getMethod ov m pl) >>= fun r => callWith pos r.1 r.2 (backTo pos (starEach (e :: es) X.env)) (backToKw pos (keywordEach [] X.env)))) :
    PE X (.Call (.Attribute o m apos) (e :: es) [] pos) (tMe C m sp E ta t) := ⟨fun pins s σ H Q I h => by
  refine PySem.W.methodCall_KW (pl := pl) (thn (he.run pins s σ H _ I h) fun u s1 ⟨y, H1, I1, ry, z⟩ => ?_) ht
  obtain ⟨a, dx, fs, rfl, ea, l, q⟩ := z
  cases (show u = Value.ref a from ry)
  refine getmeth_ok I1 ea c hm l (PySem.W.callWith_K (first := [.ref a]) (h₀ := X.base) I.ok.mod.kin hm.kp (thn (ha.run pos pins s1 σ H1 _ I1 q) fun us s2 ⟨vs, H2, I2, r, q2⟩ => ⟨I2.kIn, ?_⟩) hst hpl)
  exact run_fnS (us := .ref a :: us) (vs := .ref a :: vs) F hr hb (hx σ) I2 (.cons rfl r) q2⟩
theorem e_meth0 {pl : Sem Bool} (he : PE X o ta) (c : L2.Cls X.K C) (hm : Meth X.K C m f) (F : FnOk X.prog X.w X.K X.mg X.base CX k f fd ps sp) (hr : Room k X.A) (hb : Binds X.K fd ps []) (hx : ∀ σ, PassesAt CX X σ (E σ))
    (ht : eval (.Call (.Attribute o m apos) [] [] pos) X.env = (eval o X.env >>= fun ov => standAt apos.atName >>= fun _ => holding [ov] (getMethod ov m pl) >>= fun r => callWith pos r.1 r.2 (backTo pos (starEach [] X.env)) (backToKw pos (keywordEach [] X.env)))) :
    PE X (.Call (.Attribute o m apos) [] [] pos) (tMe C m sp E ta tNil) := ⟨fun pins s σ H Q I h => by
  refine PySem.W.methodCall_KW (pl := pl) (thn (he.run pins s σ H _ I h) fun u s1 ⟨y, H1, I1, ry, z⟩ => ?_) ht
  obtain ⟨a, dx, fs, rfl, ea, l, q⟩ := z
  cases (show u = Value.ref a from ry)
  refine getmeth_ok I1 ea c hm l (PySem.W.callWith_K0 (first := [.ref a]) I1.kIn hm.kp ?_)
  exact run_fnS (us := [.ref a]) (vs := [.ref a]) F hr hb (hx σ) I1 (.cons rfl .nil) q⟩
/-- C(..) runs -/
theorem run_mk {pins : List (Addr × Obj)} {σ : L2.St} {H : Hp} {s : Shared} {Q : VK} {us : List Value} {vs : List V} (M : Mk X.K C f) (F : FnOk X.prog X.w X.K X.mg X.base CX k f fd ps sp) (hr : Room (k + 1) X.A) (hb : Binds X.K fd ps []) (hx : PassesAt CX X σ (E σ))
    (I : Inv X pins σ H s) (r : Vals vs us) (h : ∀ x dx, H x = none → H dx = none → dx ≠ x → sp (.ref x :: vs) (upd (upd H dx (.own x)) x (.ins C dx [])) (fun v H2 => v = .non ∧ Q (.ref x) H2) (E σ)) :
    wpAny (model X.prog X.w) X.A (call (.ref C) us) (EP X pins σ Q) X.xe s := by
  have want := h (s.heap.objs.size + 1) s.heap.objs.size (I.hok.fresh (Nat.le_succ _)) (I.hok.fresh (Nat.le_refl _)) (Nat.ne_of_lt (Nat.lt_succ_self _))
  have J := Inv.made (C := C) I
  have rv : Vals (V.ref (s.heap.objs.size + 1) :: vs) (Value.ref (s.heap.objs.size + 1) :: us) := .cons rfl r
  have hl : (Value.ref (s.heap.objs.size + 1) :: us).length = ps.length := by
    rw [← rv.length]
    exact F.len _ _ _ _ want
  have bb := hb _ (Value.ref (s.heap.objs.size + 1) :: us) J.kIn (by rw [List.append_nil]; exact hl)
  rw [List.append_nil] at bb
  have go := F.run _ X.stack _ _ ⟨Value.ref (s.heap.objs.size + 1) :: us, []⟩ _ _ _ (E σ) (hr.make C us []) (J.env0.make C us []) bb rv want
  refine wpAny_call (make_map (f := f) I.kIn M.makes M.init (beq_iff_eq.mp M.fn) (codeAny_mono go fun res s' hq => ?_))
  cases res with
  | error e => exact hx pins _ _ e s' J hq
  | ok fl =>
    cases fl with
    | ret u =>
      obtain ⟨v, H', I3, rw', ev, q3⟩ := J.after hq
      cases ev
      exact ⟨rw', V.ref (s.heap.objs.size + 1), H', I3, rfl, q3⟩
    | next => exact hq.elim
    | brk => exact hq.elim
    | cont => exact hq.elim
theorem e_make (M : Mk X.K C f) (F : FnOk X.prog X.w X.K X.mg X.base CX k f fd ps sp) (hr : Room (k + 1) X.A) (hg : Gl X x) (hm : X.mg x = some (.ref C)) (hb : Binds X.K fd ps []) (hx : ∀ σ, PassesAt CX X σ (E σ))
    (ha : PA X (e :: es) t) (hdb : (x == ("__debug__" : Str)) = false) (he : starEach (e :: es) X.env = (false, eval e X.env) :: starEach es X.env) (hpl : (backTo pos (starEach es X.env)).any (·.1) = false) :
    PE X (.Call (.Name x p) (e :: es) [] pos) (tMk C sp E t) := ⟨fun pins s σ H Q I h => by
  refine wpAny_Call_Name_kw (ld_glob I hg hm (PySem.W.callWith_K (h₀ := X.base) I.ok.mod.kin M.kp (thn (ha.run pos pins s σ H _ I h) fun us s1 ⟨vs, H1, I1, r, q⟩ => ⟨I1.kIn, ?_⟩) he hpl) hdb)
  exact run_mk M F hr hb (hx σ) I1 r q⟩
theorem e_make0 (M : Mk X.K C f) (F : FnOk X.prog X.w X.K X.mg X.base CX k f fd ps sp) (hr : Room (k + 1) X.A) (hg : Gl X x) (hm : X.mg x = some (.ref C)) (hb : Binds X.K fd ps []) (hx : ∀ σ, PassesAt CX X σ (E σ))
    (hdb : (x == ("__debug__" : Str)) = false) : PE X (.Call (.Name x p) [] [] pos) (tMk C sp E tNil) := ⟨fun pins s σ H Q I h => by
  refine wpAny_Call_Name_kw (ld_glob I hg hm (PySem.W.callWith_K0 I.kIn M.kp ?_) hdb)
  exact run_mk (us := []) M F hr hb (hx σ) I .nil h⟩
end
end Eng
/-! Eng43: methods and makings, mirrored. -/
namespace Eng
open PySem PySem.Spec PyProof.Rows L2
/-- an instance of c that has no field m -/
def isIns (c m : Str) (d : D) : Bool := match insOf c d with
  | some (_, fs) => (fs.lookup m).isNone
  | none => false
theorem isIns_some {c m : Str} {d : D} (h : isIns c m d = true) : ∃ o fs, d = .ins o c fs ∧ fs.lookup m = none := by
  unfold isIns at h
  split at h
  · rename_i o fs e
    exact ⟨o, fs, insOf_some e, by simpa using h⟩
  · cases h
def eMeL (c m : Str) (g : List D → Fo) (i : Nat) (ms : M (List ArgV)) : M D := fun ρ => match ρ[i]? with
  | some (some d) => if isIns c m d then eCall g (aLend i ms) ρ else .stuck
  | _ => .stuck
def eIsI (c m : Str) (mo : M D) : M D := fun ρ => match mo ρ with
  | .ok d ρ1 => if isIns c m d then .ok d ρ1 else .stuck
  | .exc e ρ1 => .exc e ρ1
  | .stuck => .stuck
def eMeV (c m : Str) (g : List D → Fo) (mo : M D) (ms : M (List ArgV)) : M D := eCall g (aVal (eIsI c m mo) ms)
section
variable {mg : Ev} {B H : Hp} {v : V} {d : D} {F : List Addr} {c m : Str} {C : Addr}
theorem at_ins (hs : ∀ a u, B a = some u → H a = some u) (h : Own mg B H v d F) (hi : isIns c m d = true) (hC : mg.mg c = some (.ref C)) : ∃ a dx fs, v = .ref a ∧ H a = some (.ins C dx fs) ∧ fs.lookup m = none := by
  obtain ⟨o, fs, rfl, hl⟩ := isIns_some hi
  obtain ⟨a, C', dx, vs, G, rfl, h1, _, h3, _⟩ := own_ins hs h
  have e : C' = C := by
    have := h3.symm.trans hC
    cases this; rfl
  subst e
  exact ⟨a, dx, _, rfl, h1, look_none hl⟩
end
section
variable {X : Cx} {W : WX} {a1 a2 : Bool} {o e : Expr} {es : List Expr} {mo : M D} {ms : M (List ArgV)} {pos apos p : Pos} {c m x : Str} {ps : List Str} {g : List D → Fo} {k np : Nat}
theorem weakA (h : PDA X W a2 es ms) : PDA X W true es ms := PA.weak h fun σ H Q ⟨B, ρ, U, st, k⟩ => ⟨B, ρ, U, st, by
  cases hm : ms ρ with
  | ok as ρ' => rw [hm] at k; exact fun vs B' H' U' F q => k vs B' H' U' F (q.weak (fun h => by cases h) fun h => h)
  | exc e ρ' => rw [hm] at k; exact k
  | stuck => rw [hm] at k; exact k⟩
/-- the lent one: what is asked of a method's call -/
theorem lend_core {sp : Sp} {E : L2.St → XK} {C : Addr} {i : Nat} (hC : X.mg c = some (.ref C)) (hsp : sp = spD X.ev np g) (hE : E = WE W) (hnp : ∀ ds : List D, ds.length ≠ np → g ds = .stuck) : ∀ σ H Q, tE X.ev W true true (eMeL c m g i ms) σ H Q → tMe C m sp E (tVar i) (tAr X.ev W true ms) σ H Q := by
  intro σ H Q ⟨B, ρ, U, st, k⟩
  subst hsp hE
  dsimp only [eMeL] at k
  cases hr : ρ[i]? with
  | none => rw [hr] at k; exact k.elim
  | some oo =>
    cases oo with
    | none => rw [hr] at k; exact k.elim
    | some d =>
      rw [hr] at k
      dsimp only at k
      by_cases hi : isIns c m d = true
      case neg => rw [if_neg hi] at k; exact k.elim
      rw [if_pos hi] at k
      obtain ⟨_, Fs, _, _, kk⟩ := st.sl
      obtain ⟨v, F, e1, e2, ow⟩ := kk i d hr
      obtain ⟨a, dx, fs, rfl, h1, hl⟩ := at_ins st.sub ow hi hC
      have go := call_core (X := X) (W := W) (f := g) (np := np) (ms := aLend i ms) (t := fun σ' H' Q' => σ' = σ → H' = H → tMe C m (spD X.ev np g) (WE W) (tVar i) (tAr X.ev W true ms) σ' H' Q') (fun σ' H' Q' z es eh => by
        subst es eh
        refine ⟨.ref a, e1, a, dx, fs, rfl, h1, hl, ?_⟩
        obtain ⟨B2, ρ2, U2, st2, k2⟩ := z
        refine ⟨B2, ρ2, U2, st2, ?_⟩
        dsimp only [aLend] at k2
        cases hr2 : ρ2[i]? with
        | none => rw [hr2] at k2; exact k2.elim
        | some o2 =>
          cases o2 with
          | none => rw [hr2] at k2; exact k2.elim
          | some d2 =>
            rw [hr2] at k2
            dsimp only [mBind] at k2
            cases hm : ms ρ2 with
            | ok as ρ3 => rw [hm] at k2; exact fun vs B3 H3 U3 F3 q => k2 _ B3 H3 U3 F3 (q.rel fun h => .lend e1 h)
            | exc e ρ3 => rw [hm] at k2; exact k2
            | stuck => rw [hm] at k2; exact k2) hnp σ H Q ⟨B, ρ, U, st, k⟩
      exact go rfl rfl
theorem d_meL (i : Nat) {pl : Sem Bool} (Dd : MetOk X.prog X.w X.K X.mg X.base k np c m ps g) (hr : Room k X.A) (tk : Takes X W) (ha : PDA X W a2 (e :: es) ms) (hN : X.N[i]? = some x := by rfl) (hv : Vis X.env.scope x := by first | exact Or.inl rfl | exact Or.inr (Or.inl rfl) | exact Or.inr (Or.inr rfl))
    (hd : (x == ("__debug__" : Str)) = false := by decide) (hcd : (x == ("__classdict__" : Str)) = false := by decide)
    (hst : starEach (e :: es) X.env = (false, eval e X.env) :: starEach es X.env := by rfl) (hpl : (backTo pos (starEach es X.env)).any (·.1) = false := by rfl)
    (ht : eval (.Call (.Attribute (.Name x p) m apos) (e :: es) [] pos) X.env = (eval (.Name x p) X.env >>= fun ov => standAt apos.atName >>= fun _ => holding [ov] (getMethod ov m pl) >>= fun r => callWith pos r.1 r.2 (backTo pos (starEach (e :: es) X.env)) (backToKw pos (keywordEach [] X.env))) := by rfl) :
    PD X W true true (.Call (.Attribute (.Name x p) m apos) (e :: es) [] pos) (eMeL c m g i ms) := by
  obtain ⟨C, f, fd, hC, cl, me, hb, F⟩ := Dd.ex
  exact PE.weak (e_meth (pe_var (i := i) hN hv hd hcd) cl me F hr hb (fun σ => passAt tk σ) (weakA ha) hst hpl ht) (lend_core hC (by rw [ev_eq hr.hd]) rfl Dd.len)
theorem d_meL0 (i : Nat) {pl : Sem Bool} (Dd : MetOk X.prog X.w X.K X.mg X.base k np c m ps g) (hr : Room k X.A) (tk : Takes X W) (hN : X.N[i]? = some x := by rfl) (hv : Vis X.env.scope x := by first | exact Or.inl rfl | exact Or.inr (Or.inl rfl) | exact Or.inr (Or.inr rfl))
    (hd : (x == ("__debug__" : Str)) = false := by decide) (hcd : (x == ("__classdict__" : Str)) = false := by decide)
    (ht : eval (.Call (.Attribute (.Name x p) m apos) [] [] pos) X.env = (eval (.Name x p) X.env >>= fun ov => standAt apos.atName >>= fun _ => holding [ov] (getMethod ov m pl) >>= fun r => callWith pos r.1 r.2 (backTo pos (starEach [] X.env)) (backToKw pos (keywordEach [] X.env))) := by rfl) :
    PD X W true true (.Call (.Attribute (.Name x p) m apos) [] [] pos) (eMeL c m g i aNil) := by
  obtain ⟨C, f, fd, hC, cl, me, hb, F⟩ := Dd.ex
  refine PE.weak (e_meth0 (pe_var (i := i) hN hv hd hcd) cl me F hr hb (fun σ => passAt tk σ) ht) fun σ H Q h => ?_
  have h2 := lend_core (ms := aNil) (m := m) (E := WE W) hC (by rw [ev_eq hr.hd] : spD ⟨X.mg, X.K, none⟩ np g = spD X.ev np g) rfl Dd.len σ H Q h
  obtain ⟨v, e1, a, dx, fs, rfl, h1, hl, z⟩ := h2
  refine ⟨_, e1, a, dx, fs, rfl, h1, hl, ?_⟩
  obtain ⟨B2, ρ2, U2, st2, k2⟩ := z
  exact k2 [] B2 H U2 [] ⟨st2, .nil, fun _ => ⟨Sep.nil, fun _ h => absurd h (by simp)⟩, Step.refl st2.sub, fun h => by cases h⟩
/-- the given one -/
theorem val_core {sp : Sp} {E : L2.St → XK} {C : Addr} (hC : X.mg c = some (.ref C)) (hsp : sp = spD X.ev np g) (hE : E = WE W) (hnp : ∀ ds : List D, ds.length ≠ np → g ds = .stuck) : ∀ σ H Q, tE X.ev W true true (eMeV c m g mo ms) σ H Q → tMe C m sp E (tE X.ev W true true mo) (tAr X.ev W true ms) σ H Q := by
  subst hsp hE
  refine call_core (X := X) (W := W) (f := g) (np := np) (ms := aVal (eIsI c m mo) ms) (fun σ H Q z => ?_) hnp
  obtain ⟨B, ρ, U, st, k⟩ := z
  refine ⟨B, ρ, U, st, ?_⟩
  dsimp only [aVal, mBind, eIsI] at k
  cases hm : mo ρ with
  | exc e ρ1 => rw [hm] at k; exact k
  | stuck => rw [hm] at k; exact k
  | ok d ρ1 =>
    rw [hm] at k
    intro v B1 H1 U1 F1 p
    dsimp only at k
    by_cases hi : isIns c m d = true
    case neg => rw [if_neg hi] at k; exact k.elim
    rw [if_pos hi] at k
    dsimp only [Res.bind, mBind] at k
    obtain ⟨a, dx, fs, rfl, h1, hl⟩ := at_ins p.st.sub p.own hi hC
    refine ⟨a, dx, fs, rfl, h1, hl, B1, ρ1, U1, p.st, ?_⟩
    cases hm2 : ms ρ1 with
    | exc e ρ2 => rw [hm2] at k; exact k.back p.step
    | stuck => rw [hm2] at k; exact k
    | ok as ρ2 =>
      rw [hm2] at k
      intro vs B2 H2 U2 F2 q
      refine k _ B2 H2 U2 _ ((p.comb q (.inr rfl)).rel fun ⟨G1, G2, e, o1, o2⟩ => ?_)
      rw [e]
      exact .val o1 o2
theorem d_meV {pl : Sem Bool} (Dd : MetOk X.prog X.w X.K X.mg X.base k np c m ps g) (hr : Room k X.A) (tk : Takes X W) (ho : PD X W a1 true o mo) (ha : PDA X W a2 (e :: es) ms)
    (hst : starEach (e :: es) X.env = (false, eval e X.env) :: starEach es X.env := by rfl) (hpl : (backTo pos (starEach es X.env)).any (·.1) = false := by rfl)
    (ht : eval (.Call (.Attribute o m apos) (e :: es) [] pos) X.env = (eval o X.env >>= fun ov => standAt apos.atName >>= fun _ => holding [ov] (getMethod ov m pl) >>= fun r => callWith pos r.1 r.2 (backTo pos (starEach (e :: es) X.env)) (backToKw pos (keywordEach [] X.env))) := by rfl) :
    PD X W true true (.Call (.Attribute o m apos) (e :: es) [] pos) (eMeV c m g mo ms) := by
  obtain ⟨C, f, fd, hC, cl, me, hb, F⟩ := Dd.ex
  exact PE.weak (e_meth (ho.to (fun h => by cases h)) cl me F hr hb (fun σ => passAt tk σ) (weakA ha) hst hpl ht) (val_core hC (by rw [ev_eq hr.hd]) rfl Dd.len)
end
end Eng
/-! Eng44: C(..), mirrored. -/
namespace Eng
open PySem PySem.Spec PyProof.Rows L2
def eMk (c : Str) (g : List D → Fo) (ms : M (List ArgV)) : M D := mBind ms fun as ρ => match takeAll as ρ with
  | some (ds, ρ1) => match g (.ins true c [] :: ds) with
    | .ok .non (some d :: ps) => .ok d (putBack as ds ps ρ1)
    | .exc e (_ :: ps) => .exc e (putBack as ds ps ρ1)
    | _ => .stuck
  | none => .stuck
section
variable {X : Cx} {W : WX} {a2 : Bool} {e : Expr} {es : List Expr} {ms : M (List ArgV)} {pos p : Pos} {c x : Str} {ps : List Str} {g : List D → Fo} {k np : Nat}
/-- two new cells of an instance -/
theorem ins_new {mg : Ev} {B H : Hp} {C a dx : Addr} (hs : ∀ b o, B b = some o → H b = some o) (ha : H a = none) (hd : H dx = none) (ne : dx ≠ a) (hC : mg.mg c = some (.ref C)) :
    Own mg B (upd (upd H dx (.own a)) a (.ins C dx [])) (.ref a) (.ins true c []) [dx, a] ∧ Step B H [] B (upd (upd H dx (.own a)) a (.ins C dx [])) [] := by
  refine ⟨.own (A := [dx, a]) (F := []) (vs := []) rfl ⟨C, dx, upd_same, by rw [upd_ne ne, upd_same], hC, rfl, rfl⟩ .nil, ⟨fun b o h => ?_, fun _ _ h => h, fun b h _ => ?_, fun _ h => absurd h (by simp), fun _ h => .inl h⟩⟩
  · have hb := hs b o h
    have n1 : b ≠ a := fun z => by rw [z, ha] at hb; cases hb
    have n2 : b ≠ dx := fun z => by rw [z, hd] at hb; cases hb
    rw [upd_ne n1, upd_ne n2]; exact hb
  · have n1 : b ≠ a := fun z => h (by rw [z]; exact ha)
    have n2 : b ≠ dx := fun z => h (by rw [z]; exact hd)
    rw [upd_ne n1, upd_ne n2]
theorem make_core {sp : Sp} {E : L2.St → XK} {C : Addr} (hC : X.mg c = some (.ref C)) (hsp : sp = spD X.ev (np + 1) g) (hE : E = WE W) (hnp : ∀ ds : List D, ds.length ≠ np + 1 → g ds = .stuck) : ∀ σ H Q, tE X.ev W true true (eMk c g ms) σ H Q → tMk C sp E (tAr X.ev W true ms) σ H Q := fun σ H Q ⟨B, ρ, U, st, k⟩ => by
  subst hsp hE
  refine ⟨B, ρ, U, st, ?_⟩
  dsimp only [eMk, mBind] at k
  cases hm : ms ρ with
  | exc x ρ1 => rw [hm] at k; exact k
  | stuck => rw [hm] at k; exact k
  | ok as ρ1 =>
    rw [hm] at k
    intro vs B1 H1 U1 F p a dx ha hd ne
    dsimp only [Res.bind] at k
    cases ht : takeAll as ρ1 with
    | none => rw [ht] at k; exact k.elim
    | some q =>
      obtain ⟨ds, ρ2⟩ := q
      rw [ht] at k
      dsimp only at k
      obtain ⟨sp, nw⟩ := p.sep rfl
      obtain ⟨Ua, U2, sa, s2, dj, m1, m2⟩ := take_all p.own p.st sp ht
      have hl := takeAll_len ht
      by_cases hq : ds.length = np
      case neg => rw [hnp _ (by simp; omega)] at k; exact k.elim
      have hv : (V.ref a :: vs).length = np + 1 := by
        have := sa.len; simp at this
        simp [this, hq]
      obtain ⟨oi, si⟩ := ins_new (mg := X.ev) (c := c) p.st.sub ha hd ne hC
      have sa1 := sa.stepN si
      have s21 := s2.stepN si
      have nIn : ∀ b ∈ [dx, a], H1 b = none := fun b hb => by
        rcases List.mem_cons.mp hb with rfl | hb
        · exact hd
        · rw [List.mem_singleton.mp hb]; exact ha
      have sepI : Sep B1 [dx, a] Ua := ⟨by simp [ne], fun b hb z => sa.ex b z (nIn b hb), fun b hb => by
        cases e : B1 b with
        | none => rfl
        | some o => have := p.st.sub b o e; rw [nIn b hb] at this; cases this⟩
      have sP := sa1.push oi sepI
      have anew : ∀ b ∈ Ua, b ∈ U ∨ H b = none := fun b x => by
        rcases m1 b x with z | z
        · exact p.step.new b z
        · exact nw b z
      have fresh0 : ∀ b, H1 b = none → b ∉ U → H b = none := fun b hb hu => by
        by_cases y : H b = none
        · exact y
        · rw [p.step.keep b y hu] at hb; exact absurd hb y
      have notU : ∀ b ∈ [dx, a], b ∈ U ∨ H b = none := fun b hb => by
        by_cases hu : b ∈ U
        · exact .inl hu
        · exact .inr (fresh0 b (nIn b hb) hu)
      have dj2 : ∀ b ∈ [dx, a] ++ Ua, b ∉ U2 := fun b hb z => by
        rcases List.mem_append.mp hb with hb | hb
        · exact s2.ex b z (nIn b hb)
        · exact dj b hb z
      have big : ∀ {B' H' : Hp} {U'a U3 : List Addr}, Step B1 (upd (upd H1 dx (.own a)) a (.ins C dx [])) ([dx, a] ++ Ua) B' H' U'a → (∀ b ∈ U3, b ∈ U'a ∨ b ∈ U2) → Step B H U B' H' U3 := fun {B' H' U'a U3} sc m3 => by
        have s1 : Step B H U B1 H1 (Ua ++ U2) := p.step.weak (fun _ h => h) fun b x => by
          rcases List.mem_append.mp x with x | x
          · rcases anew b x with z | z
            · exact .inr (.inl z)
            · exact .inr (.inr z)
          · exact .inl (m2 b x)
        have sI : Step B1 H1 (Ua ++ U2) B1 (upd (upd H1 dx (.own a)) a (.ins C dx [])) (([dx, a] ++ Ua) ++ U2) := si.weak (fun _ h => absurd h (by simp)) fun b x => by
          rcases List.mem_append.mp x with x | x
          · rcases List.mem_append.mp x with x | x
            · exact .inr (.inr (nIn b x))
            · exact .inr (.inl (by simp [x]))
          · exact .inr (.inl (by simp [x]))
        have s3 : Step B1 (upd (upd H1 dx (.own a)) a (.ins C dx [])) (([dx, a] ++ Ua) ++ U2) B' H' U3 := sc.weak (fun b x => by simp at x ⊢; rcases x with h | h | h <;> simp [h]) fun b x => by
          rcases m3 b x with z | z
          · exact .inl z
          · exact .inr (.inl (by simp [z]))
        exact (s1.trans sI).trans s3
      have s2' : ∀ {B' H' : Hp} {U'a : List Addr}, Step B1 (upd (upd H1 dx (.own a)) a (.ins C dx [])) ([dx, a] ++ Ua) B' H' U'a → Sta X.ev B' H' σ ρ2 U2 := fun sc => s21.step sc fun b x y => dj2 b y x
      have dj' : ∀ {B' H' : Hp} {U'a : List Addr}, Step B1 (upd (upd H1 dx (.own a)) a (.ins C dx [])) ([dx, a] ++ Ua) B' H' U'a → ∀ b ∈ U'a, b ∉ U2 := fun sc b x y => by
        rcases sc.new b x with z | z
        · exact dj2 b z y
        · exact s21.ex b y z
      have args1 := p.own.step si (fun b _ h => absurd h (by simp))
      refine ⟨hv, B1, .ins true c [] :: ds, [dx, a] ++ Ua, sP, ?_⟩
      cases hf : g (.ins true c [] :: ds) with
      | ok d ps =>
        rw [hf] at k
        intro v B' H' U'a Fv sv ov spv nwv sc
        cases d with
        | non =>
          obtain ⟨rfl, rfl⟩ := own_non ov
          refine ⟨rfl, ?_⟩
          cases ps with
          | nil => exact k.elim
          | cons oo ps =>
            cases oo with
            | none => exact k.elim
            | some d' =>
              dsimp only at k
              obtain ⟨FI, UR, sR, spI, mI, hI⟩ := sv.pop
              obtain ⟨w, ew, ow⟩ := hI d' rfl
              cases ew
              obtain ⟨U3, s3, m3⟩ := put_back args1 sR (s2' sc) (fun b x => dj' sc b ((mI b).mpr (.inr x))) hl
              have m3' : ∀ b ∈ U3, b ∈ U'a ∨ b ∈ U2 := fun b x => (m3 b x).imp (fun z => (mI b).mpr (.inr z)) id
              have newI : ∀ b ∈ FI, b ∈ U ∨ H b = none := fun b x => by
                rcases sc.new b ((mI b).mpr (.inl x)) with z | z
                · rcases List.mem_append.mp z with z | z
                  · exact notU b z
                  · exact anew b z
                · have z1 : H1 b = none := by
                    by_cases y : H1 b = none
                    · exact y
                    · rw [si.keep b y (by simp)] at z; exact absurd z y
                  by_cases hu : b ∈ U
                  · exact .inl hu
                  · exact .inr (fresh0 b z1 hu)
              refine k (.ref a) B' H' U3 FI ⟨s3, ow, fun _ => ⟨⟨spI.nd, fun b x y => ?_, spI.off⟩, newI⟩, big sc m3', fun h => by cases h⟩
              rcases m3 b y with z | z
              · exact spI.dj b x z
              · exact dj' sc b ((mI b).mpr (.inl x)) z
        | _ => exact k.elim
      | exc e ps =>
        rw [hf] at k
        intro B' H' U'a cls dxx sv sc er
        cases ps with
        | nil => exact k.elim
        | cons oo ps =>
          dsimp only at k
          obtain ⟨FI, UR, sR, spI, mI, hI⟩ := sv.pop
          obtain ⟨U3, s3, m3⟩ := put_back args1 sR (s2' sc) (fun b x => dj' sc b ((mI b).mpr (.inr x))) hl
          exact k B' H' U3 cls dxx s3 (big sc fun b x => (m3 b x).imp (fun z => (mI b).mpr (.inr z)) id) er
      | stuck => rw [hf] at k; exact k.elim
theorem d_make (Dd : IniOk X.prog X.w X.K X.mg X.base k (np + 1) x ps g) (hr : Room (k + 1) X.A) (tk : Takes X W) (ha : PDA X W a2 (e :: es) ms) (hg : Gl X x := by rfl) (hdb : (x == ("__debug__" : Str)) = false := by decide)
    (he : starEach (e :: es) X.env = (false, eval e X.env) :: starEach es X.env := by rfl) (hpl : (backTo pos (starEach es X.env)).any (·.1) = false := by rfl) : PD X W true true (.Call (.Name x p) (e :: es) [] pos) (eMk x g ms) := by
  obtain ⟨C, f, fd, hC, mk, hb, F⟩ := Dd.ex
  exact PE.weak (e_make mk F (hr.mono (Nat.le_refl _)) hg hC hb (fun σ => passAt tk σ) (weakA ha) hdb he hpl) (make_core hC (by rw [ev_eq hr.hd]) rfl Dd.len)
end
end Eng
/-! Eng45: an own error class whose __init__ calls super().__init__(text) and stores one field. -/
namespace Eng
open PySem PySem.Spec PySem.Calls PyProof.Rows L2
/-- what the written part says of such a class: fl its field, C the class, fI its __init__ -/
structure SupC (P : Program) (K : PySem.W.Frag) (C fI : Addr) (fl : Str) (body : List Stmt) (q : Str) (params : Arguments) (scope : Scope) (me p : Str) (dV kV doc pm ct : Value) (an : Option Addr) (cda cc : Addr) : Prop where
  cls : OexC K C
  ini : PySem.W.excInitIn K C veMro "ValueError.__new__" = true
  fin : PySem.W.findIn K (.ref C) "__init__" = some (some (.ref fI))
  ffl : PySem.W.findIn K (.ref C) fl = some none
  fn : ∃ od osl, K.lookup fI = some ⟨.type "function", od, .func (PySem.W.ksFn "__init__" q params body scope dV kV doc pm an (.ref cda) ct cc), osl⟩
  code : PySem.W.codeIn K (.ref cda) q = true
  cod : ∃ ccl cdd vs ccs file tf, K.lookup cda = some ⟨ccl, cdd, .fields vs, ccs⟩ ∧ vs[2]? = some (.str file tf) ∧ ((P.main.file : Str) == file) = true
  cel : ∃ cl cld csl, K.lookup cc = some ⟨cl, cld, .cell (some (.ref C)), csl⟩
  sub : PySem.W.mroIn K C (.ref C) = some true
  glo : PySem.W.nsIn K mainGlobals "super" = some none
  top : (P.main.scope.names.lookup ("super" : Str)).isSome = false
  opq : PySem.W.nsIn K cStatics "thirdparty.any" = some none
  sup : PySem.W.ks_superIn K C C "__init__" = some (some (.builtin "ValueError.__init__"))
  exV : PySem.W.subIn K (.ref C) (.type "ValueError") = some true
  bod : ∃ p0 p1 p2 p3 p4 p5 p6 p7 p8 p9 txt j, (p2.endLine == p4.line) = true ∧ body = [.Expr (.Call (.Attribute (.Call (.Name "super" p0) [] [] p1) "__init__" p2) [.Constant (.str txt) j p3] [] p4) p5, .Assign [.Attribute (.Name me p6) fl p7] (.Name p p8) p9]
  par : ∃ ar, (params.posonlyargs ++ params.args).head? = some ar ∧ ar.arg = me
  bnd : ∀ (us : List Value), us.length = 2 → bindArgs (PySem.W.ksFn "__init__" q params body scope dV kV doc pm an (.ref cda) ct cc) ⟨us, []⟩ = pure (List.zip [me, p] us)
  sel : scope.names.lookup me = some .local
  pl : scope.names.lookup p = some .local
  ne : (me == p) = false
  dbs : (me == ("__debug__" : Str)) = false
  dbp : (p == ("__debug__" : Str)) = false
  hks : scope.names.lookup ("super" : Str) = some .globalImplicit
  hkc : scope.names.lookup ("__class__" : Str) = some .free
  nce : ∀ x ∈ scope.names, x.2 ≠ .cell
  co : scope.isCoroutine = false
  gen : scope.isGenerator = false
  kin : scope.kind = .function
section
variable {P : Program} {w : World} {K : PySem.W.Frag} {mg : Str → Option Value} {base : Heap} {C fI : Addr} {fl : Str} {body : List Stmt} {q : Str} {params : Arguments} {scope : Scope} {me p : Str} {dV kV doc pm ct : Value} {an : Option Addr} {cda cc : Addr}
theorem sup_call {p0 p1 p2 p3 p4 : Pos} {txt : Str} {j : Nat} {env : Env} (hl : (p2.endLine == p4.line) = true) :
    eval (.Call (.Attribute (.Call (.Name "super" p0) [] [] p1) "__init__" p2) [.Constant (.str txt) j p3] [] p4) env = (do
      let ov ← attributeBase (.Call (.Name "super" p0) [] [] p1) "__init__" env (eval (.Call (.Name "super" p0) [] [] p1) env)
      standAt p2.atName
      let (f, first) ← holding [ov] (getMethod ov "__init__" (do return (← importBound (.Call (.Name "super" p0) [] [] p1) env).getD true))
      callWith p4 f first (backTo p4 (starEach [.Constant (.str txt) j p3] env)) []) := by
  rw [arm_eval_Call]
  have e : ∀ ov, methodCall (.Call (.Name "super" p0) [] [] p1) "__init__" p2 p4 env ov ([Expr.Constant (.str txt) j p3].length + ([] : List Keyword).length) (backTo p4 (starEach [.Constant (.str txt) j p3] env)) (backToKw p4 (keywordEach [] env)) = (do
      let (f, first) ← holding [ov] (getMethod ov "__init__" (do return (← importBound (.Call (.Name "super" p0) [] [] p1) env).getD true))
      callWith p4 f first (backTo p4 (starEach [.Constant (.str txt) j p3] env)) []) := fun ov => by
    unfold methodCall methodCallPos
    rw [hl]
    rfl
  simp only [e]
theorem sup_run (S : SupC P K C fI fl body q params scope me p dV kV doc pm ct an cda cc) (M : Mod K mg base) {A : Around} {hp : Heap} (kb : ∀ b o, base.get? b = some o → hp.get? b = some o) {e t0 : Addr} (he : hp.get? e = some (PySem.HandSPX.excO C t0)) (hbe : base.get? e = none)
    (room : A.depth < recursionLimit) {u : Value} {g : Array GenState} {d : Drawn} {t : Nat} {os : OsState} {R : Result → Shared → Prop}
    (hq : ∀ h2 tk' dx t1, (∀ b o, b ≠ e → hp.get? b = some o → h2.get? b = some o) → hp.objs.size ≤ dx → dx ≠ e → h2.get? e = some ({ cls := .ref C, dict := some dx, data := .fields #[.ref t1, .none, .none, .none, .bool false, .none] } : Obj) →
      h2.Ns1 dx (fun y => if y = fl then some u else none) → R (.ok (.ret .none)) ⟨h2, g, d, tk', os⟩) :
    codeAny (model P w) A (.call (.ref fI) ⟨[.ref e, u], []⟩) R ⟨hp, g, d, t, os⟩ := by
  have X : K.In hp := M.kin.keeps kb
  obtain ⟨od, osl, hfn⟩ := S.fn
  obtain ⟨ccl, cdd, vs, ccs, file, tf, hcod, hvs, hfile⟩ := S.cod
  obtain ⟨cl, cld, csl, hcel⟩ := S.cel
  obtain ⟨p0, p1, p2, p3, p4, p5, p6, p7, p8, p9, txt, j, hline, rfl⟩ := S.bod
  obtain ⟨ar, hpar, harg⟩ := S.par
  refine PySem.ks_codeAny_call_defAt (binds := [(me, .ref e), (p, u)]) room (X _ _ hfn) rfl (M.nolimit.keeps kb) (PySem.W.codeRec_of X S.code) rfl (.of_eq (S.bnd [.ref e, u] rfl)) S.nce (fun x hx => ?_) (fun h1 hns hk1 => ?_) S.co S.gen S.kin
  · rcases List.mem_cons.mp hx with rfl | hx
    · exact S.sel
    · rw [List.mem_singleton.mp hx]; exact S.pl
  have bt : ∀ b o, base.get? b = some o → (PySem.W.hideAll hp [e]).get? b = some o := fun b o z => PySem.W.hideAll_get [e] (kb b o z) (fun y => by rw [List.mem_singleton.mp y, hbe] at z; cases z)
  have XG : K.In (PySem.W.hideAll hp [e]) := M.kin.keeps bt
  have eL : e ≠ hp.objs.size := Nat.ne_of_lt (Heap.lt_size he)
  have F1 : Fr (PySem.W.hideAll hp [e]) hp.objs.size h1 (fun x => List.lookup x (List.reverse [(me, .ref e), (p, u)])) := ⟨hns, fun b o z => hk1 b o (PySem.W.of_hideAll _ z), Nat.le_of_eq (PySem.W.hideAll_size _ _)⟩
  have N1 : News (PySem.W.hideAll hp [e]) hp.objs.size h1 [(e, PySem.W.excObj C t0 none .none)] := fun x hx => by
    rw [List.mem_singleton.mp hx]
    exact ⟨hk1 _ _ he, eL, PySem.W.hideAll_none _ (List.mem_singleton.mpr rfl)⟩
  have hme : (fun x => List.lookup x (List.reverse [(me, Value.ref e), (p, u)])) me = some (.ref e) := by
    show List.lookup me [(p, u), (me, Value.ref e)] = _
    rw [List.lookup_cons, S.ne]
    simp
  have hp' : (fun x => List.lookup x (List.reverse [(me, Value.ref e), (p, u)])) p = some u := by
    show List.lookup p [(p, u), (me, Value.ref e)] = _
    simp
  have hint : interactive (PySem.W.ksEnv q scope hp.objs.size fI (.ref cda) cc) = false := by
    show (scope.kind == .module && _) = false
    rw [S.kin]; rfl
  have X1 : K.In h1 := fun b o z => hk1 b o (X b o z)
  obtain ⟨cdC, hcC, _⟩ := PySem.W.any_some (show (PySem.W.clsIn K C).any (fun _ => true) = true by
    obtain ⟨nm, q', N, bs, bm, sn, sub, ab, col, dd, k0, k1, k2, k3, k5, hC, _⟩ := S.cls.cls
    unfold PySem.W.clsIn
    rw [hC]; rfl)
  obtain ⟨oC, hoC1, hoC2⟩ : ∃ o, h1.get? C = some o ∧ o.data = .cls cdC := by
    unfold PySem.W.clsIn at hcC
    split at hcC
    · rename_i c d' cd' sl ho
      cases hcC
      exact ⟨_, X1 _ _ ho, rfl⟩
    · cases hcC
  have hbk : ∀ b o, base.get? b = some o → h1.get? b = some o := fun b o z => hk1 b o (kb b o z)
  have kf : scope.kind = .function := S.kin
  have I1 : PySem.W.InstAt h1 e (PySem.W.excObj C t0 none .none) C none := ⟨hk1 _ _ he, rfl, rfl, trivial⟩
  refine PySem.ks_wpAt_execs_cons (PySem.ks_wpAt_Expr_any (PySem.ks_wpAt_MethodCall ?_ (sup_call hline)) hint)
  refine PySem.ks_wpAt_super_base (env := PySem.W.ksEnv q scope hp.objs.size fI (.ref cda) cc) S.hks S.hkc rfl rfl (X1 _ _ hfn) rfl hpar rfl (X1 _ _ hcod) rfl hvs hfile S.top ?_
  refine PySem.W.ks_loadName_global kf S.hks ?_
  obtain ⟨mb, hmb, hbo⟩ := M.blt
  refine loadGlobal_builtin (env := PySem.W.ksEnv q scope hp.objs.size fI (.ref cda) cc) (M.glob.keeps hbk) (PySem.W.mg_none_of M.kin M.glob S.glo) (hmb.keeps hbk) ((hbo _ (by decide +kernel)).trans (show bootBuiltins "super" = some (.type "super") by kernel_rfl)) ⟨rfl, ?_⟩
  refine wpAny_loadName_free kf S.hkc rfl ⟨_, X1 _ _ hcel, rfl⟩ ?_
  refine wpAny_loadName_local kf (by show scope.names.lookup ar.arg = _; rw [harg]; exact S.sel) hns (by rw [harg]; exact hme) ?_
  refine PySem.ks_wpAny_isType_cls hoC1 hoC2 ⟨rfl, ?_⟩
  refine PySem.ks_wpAny_call_super hoC1 hoC2 I1.at_ I1.cls (fun c z => by cases z) (PySem.W.looks_mroIn X1 S.sub) (fun h2 e2 k2 => ?_)
  obtain ⟨F2, N2, l2⟩ := PySem.W.ks_newsPush (s := ⟨h1, g, d, t, os⟩) F1 N1 rfl e2 k2
  refine PySem.W.kxs_method PySem.W.kxs_ValueError F2 XG N2 (List.mem_cons_self ..) (PySem.W.InstAt.of_exc0 (t := t0) (c2 := .none) N2 (by simp)) S.opq S.sup S.exV rfl (fun q2 h3 F3 N3 l3 => ?_)
  refine PySem.W.kxs_callWith1 (i := "ValueError.__init__") (x := e) N3 (List.mem_cons_self ..) ?_ rfl rfl
  show wpAny _ _ (spliced ((false, eval (.Constant (.str txt) j p3) _) :: [])) _ _ _
  refine spliced_cons (Constant_str (spliced_nil ⟨PySem.W.kxs_at N3 (List.mem_cons_self ..), ?_⟩))
  have n3 : q2 ≠ e := fun z => Nat.ne_of_lt (l3 (e, PySem.W.excObj C t0 none Value.none) (List.mem_cons_of_mem _ (List.mem_cons_self ..))) z.symm
  have n2 : h1.objs.size ≠ e := fun z => Nat.ne_of_lt (l2 (e, PySem.W.excObj C t0 none Value.none) (List.mem_cons_self ..)) z.symm
  have U : PySem.W.UpdF e (PySem.W.excObj C t0 none .none) [(q2, PySem.W.kxs_mw "ValueError.__init__" e), (h1.objs.size, PySem.W.ks_superObj C e C), (e, PySem.W.excObj C t0 none .none)] (fun o' => [(q2, PySem.W.kxs_mw "ValueError.__init__" e), (h1.objs.size, PySem.W.ks_superObj C e C), (e, o')]) := .tail (p := (q2, PySem.W.kxs_mw "ValueError.__init__" e)) n3 (.tail (p := (h1.objs.size, PySem.W.ks_superObj C e C)) n2 (.head (r := []) (by simp)))
  refine PySem.W.kxs_call (news := [(q2, PySem.W.kxs_mw "ValueError.__init__" e), (h1.objs.size, PySem.W.ks_superObj C e C), (e, PySem.W.excObj C t0 none .none)]) F3 XG N3 PySem.F.excBase_ValueError S.ini (List.mem_cons_self ..) U (by show 1 ≤ sizeLine; rw [sizeLine_eq]; omega) (fun t1 h4 F4 N4 l4 => ?_)
  have X4 : K.In h4 := XG.keeps F4.keep
  have he4 : h4.get? e = some (PySem.W.excObj C t1 none .none) := (N4 (e, PySem.W.excObj C t1 none .none) (by simp)).1
  have lk : scope.names.lookup me = some .local := S.sel
  refine PySem.ks_wpAt_execs_cons (wpAt_of_wpAny (plainObj_wpAny_Assign_Attribute (wpAny_Name (wpAny_loadName_local kf S.pl F4.ns hp' (wpAny_Name (wpAny_loadName_local kf S.sel F4.ns hme ?_) S.dbs)) S.dbp) rfl))
  obtain ⟨nm, q', N, bs, bm, sn, sub, ab, col, dd, k0, k1, k2', k3, k5, hC, hbm⟩ := S.cls.cls
  have hcl : PySem.W.clsIn K C = some { name := nm, bases := bs, mro := .ref C :: bm, ns := N, qualname := q', hasDict := true, slotNames := sn, subclasses := sub, abstract := ab, collection := col, hasDel := false } := by unfold PySem.W.clsIn; rw [hC] <;> rfl
  refine PySem.W.set_plain X4 (ox := PySem.W.excObj C t1 none .none) (od := none) ⟨he4, rfl, rfl, trivial⟩ S.cls.sa ?_
  refine PySem.HandSPX.exc_osa X4 he4 hcl (show PySem.HandSPX.refsVE (.ref C :: bm) = true from hbm) rfl S.ffl (fun h5 tk5 dx k dn dne hx hn => ?_)
  refine wpAt_of_wpAny (wpAny_execs_nil ?_)
  obtain ⟨oL, _, _, hL, _⟩ := F4.ns
  exact hq h5 tk5 dx t1 (fun b o nb z => k b o nb (F4.keep b o (PySem.W.hideAll_get [e] z (by simp [nb])))) (Nat.le_trans (Nat.le_of_lt (Heap.lt_size hL)) dn) dne hx hn
end
section
variable {X : Cx} {W : WX} {kp : List Nat} {C fI : Addr} {fl : Str} {body : List Stmt} {q : Str} {params : Arguments} {scope : Scope} {me pn : Str} {dV kV doc pm ct : Value} {an : Option Addr} {cda cc : Addr} {x : Str} {e : Expr} {es : List Expr} {ta : TA} {p pos pos' : Pos}
theorem mk_sup (S : SupC X.prog X.K C fI fl body q params scope me pn dV kV doc pm ct an cda cc) (hr : Room 1 X.A) (hg : Gl X x) (hm : X.mg x = some (.ref C)) (ha : PA X (e :: es) ta) (hdb : (x == ("__debug__" : Str)) = false)
    (he : starEach (e :: es) X.env = (false, eval e X.env) :: starEach es X.env) (hpl : (backTo pos (starEach es X.env)).any (·.1) = false) :
    PMk X (.Call (.Name x p) (e :: es) [] pos) (fun σ H Q => ta σ H fun vs H1 => ∃ v, vs = [v] ∧ ∀ d, H1 d = none → Q (.ref C) (some d) (upd H1 d (.xd [(fl, v)]))) := by
  intro pins s σ H Q I h
  obtain ⟨nm, q', N, bs, bm, sn, sub, ab, col, dd, k0, k1, k2, k3, k5, hC, hbm⟩ := S.cls.cls
  obtain ⟨od, osl, hfn⟩ := S.fn
  have tI : PySem.W.typeIn X.K (.ref fI) = some (.type "function") := by
    show (X.K.lookup fI).map (·.cls) = _
    rw [hfn]; rfl
  refine wpAny_Call_Name_kw (ld_glob I hg hm ?_ hdb)
  refine PySem.W.callWith_K (h₀ := X.base) I.ok.mod.kin S.cls.kC (thn (ha.run pos pins s σ H _ I h) fun us s1 ⟨vs, H1, I1, r1, v, ev, q1⟩ => ⟨I1.kIn, ?_⟩) he hpl
  subst ev
  obtain ⟨u, rfl, ru⟩ : ∃ u, us = [u] ∧ RelV v u := by
    cases r1 with
    | cons ru rn => cases rn; exact ⟨_, rfl, ru⟩
  show wpAny _ _ (call (.ref C) [u]) _ _ _
  obtain ⟨hp, g, dr, tk, os⟩ := s1
  have hsz : hp.objs.size ≤ hp.objs.size + 1 := Nat.le_succ _
  have hn : H1 (hp.objs.size + 1) = none := I1.hok.fresh hsz
  have kk : ∀ b o, hp.get? b = some o → ((hp.push (PySem.W.kdv_tup [u])).push (PySem.HandSPX.excO C hp.objs.size)).get? b = some o := fun b o z => Heap.get?_push_of_some _ (Heap.get?_push_of_some _ z)
  have hget : ((hp.push (PySem.W.kdv_tup [u])).push (PySem.HandSPX.excO C hp.objs.size)).get? (hp.objs.size + 1) = some (PySem.HandSPX.excO C hp.objs.size) := by heap_get
  have hsz2 : ((hp.push (PySem.W.kdv_tup [u])).push (PySem.HandSPX.excO C hp.objs.size)).objs.size = hp.objs.size + 1 + 1 := by rw [Heap.size_push, Heap.size_push]
  have kb : ∀ b o, X.base.get? b = some o → ((hp.push (PySem.W.kdv_tup [u])).push (PySem.HandSPX.excO C hp.objs.size)).get? b = some o := fun b o z => kk b o (I1.bk b o z)
  have hbe : X.base.get? (hp.objs.size + 1) = none := by
    cases z : X.base.get? (hp.objs.size + 1) with
    | none => rfl
    | some o =>
      have y : hp.objs.size + 1 < hp.objs.size := Heap.lt_size (I1.bk _ _ z)
      omega
  have I2 : Inv X pins σ (upd H1 (hp.objs.size + 1) (exo (hp.objs.size + 1) C none)) ⟨(hp.push (PySem.W.kdv_tup [u])).push (PySem.HandSPX.excO C hp.objs.size), g, dr, tk, os⟩ :=
    I1.laid (t' := tk) (a := hp.objs.size + 1) (o := exo (hp.objs.size + 1) C none) (h' := (hp.push (PySem.W.kdv_tup [u])).push (PySem.HandSPX.excO C hp.objs.size)) kk hsz (exo_ok hget)
  have ea2 : (upd H1 (hp.objs.size + 1) (exo (hp.objs.size + 1) C none)) (hp.objs.size + 1) = some (exo (hp.objs.size + 1) C none) := upd_same
  refine wpAny_call (PySem.HandSPX.call_own F.excBase_ValueError (fun Y => PySem.HandSPX.refsVE_contains Y bm hbm) (I1.kIn _ _ hC) (PySem.W.looks_findIn I1.kIn S.fin) (fun self => PySem.W.bind_fn I1.kIn self tI) (by show 1 ≤ sizeLine; rw [sizeLine_eq]; omega) ?_)
  refine sup_run S I1.ok.mod kb hget hbe (hr.make C [u] []).depth fun h2 tk2 dx t1 k dn dne hx hns => ⟨rfl, ?_⟩
  have hnd : (upd H1 (hp.objs.size + 1) (exo (hp.objs.size + 1) C none)) dx = none := I2.hok.fresh dn
  have hd1 : H1 dx = none := by rw [← hnd, upd_ne dne]
  have nd : ∀ {b : Addr} {o : Obj}, ((hp.push (PySem.W.kdv_tup [u])).push (PySem.HandSPX.excO C hp.objs.size)).get? b = some o → b ≠ dx := fun {b o} z => Nat.ne_of_lt (Nat.lt_of_lt_of_le (Heap.lt_size z) dn)
  have na : ∀ {b : Addr}, (upd H1 (hp.objs.size + 1) (exo (hp.objs.size + 1) C none)) b = none → b ≠ (hp.objs.size + 1) := fun {b} n z => by
    rw [z, ea2] at n
    cases n
  have Un1 : ∀ fs, Un fs [] (upd H1 (hp.objs.size + 1) (exo (hp.objs.size + 1) C none)) (upd (upd (upd H1 (hp.objs.size + 1) (exo (hp.objs.size + 1) C none)) dx (exd dx [(fl, v)])) (hp.objs.size + 1) (exo (hp.objs.size + 1) C (some dx))) ((hp.push (PySem.W.kdv_tup [u])).push (PySem.HandSPX.excO C hp.objs.size)) h2 := fun fs => {
    keep := fun b o z n _ _ => k b o (na n) z
    slot := fun b o z n _ _ => ⟨o.slots, k b o (na n) z⟩
    free := fun b o z n _ => by rw [upd_ne (na n), upd_ne (nd z)]; exact n
    there := fun b o z _ => by
      by_cases hb : b = (hp.objs.size + 1)
      · exact ⟨_, by rw [hb]; exact hx⟩
      · exact ⟨o, k b o hb z⟩
    tups := fun b xs z => by rw [upd_ne (at_ne ea2 z exo_tup), upd_ne (ne_of_none z hnd)]; exact z
    frzs := fun b o v z => by rw [upd_ne (at_ne ea2 z exo_frz), upd_ne (ne_of_none z hnd)]; exact z
    tbls := fun b ps z => ⟨#[], by rw [upd_ne (at_ne ea2 z exo_tbl), upd_ne (ne_of_none z hnd), z]; simp⟩ }
  have hok2 : HOk X.prog X.w (upd (upd (upd H1 (hp.objs.size + 1) (exo (hp.objs.size + 1) C none)) dx (exd dx [(fl, v)])) (hp.objs.size + 1) (exo (hp.objs.size + 1) C (some dx))) h2 := fun b o z => by
    by_cases hb : b = (hp.objs.size + 1)
    · subst hb
      rw [upd_same] at z
      cases z
      exact exo_ok hx
    · rw [upd_ne hb] at z
      by_cases hd : b = dx
      · subst hd
        rw [upd_same] at z
        cases z
        exact exd_ok hns (relO_put (fs := []) ru fun _ => True.intro)
      · rw [upd_ne hd] at z
        exact (I2.hok b o z).stay (fun c v hc y => k c v (by
            rcases hc with hc | hc
            · rw [hc]; exact hb
            · exact at_ne ea2 hc exo_own) y)
          (fun c hc => by rw [upd_ne (at_ne ea2 hc exo_own), upd_ne (ne_of_none hc hnd)]; exact hc) (fun c xs hc => by rw [upd_ne (at_ne ea2 hc exo_tup), upd_ne (ne_of_none hc hnd)]; exact hc)
  have fin := q1 dx hd1
  have eH : upd (del (upd (upd (upd H1 (hp.objs.size + 1) (exo (hp.objs.size + 1) C none)) dx (exd dx [(fl, v)])) (hp.objs.size + 1) (exo (hp.objs.size + 1) C (some dx))) (hp.objs.size + 1)) dx (.xd [(fl, v)]) = upd H1 dx (.xd [(fl, v)]) := by
    funext b
    by_cases hb : b = dx
    · rw [hb, upd_same, upd_same]
    · rw [upd_ne hb, upd_ne hb]
      by_cases hc : b = (hp.objs.size + 1)
      · rw [hc, del_same, hn]
      · rw [del_ne hc, upd_ne hc, upd_ne hb, upd_ne hc]
  refine mk_end (raises_own S.cls.exC S.cls.tyC) I1 (by omega) kk (Un1 _) hok2 rfl I1.bare upd_same (by rw [upd_ne dne, upd_same]) hd1 (by rw [eH]; exact fin)
end
end Eng
/-! Eng46: raise C(e), C an own error with one field; n.f of what was caught. -/
namespace Eng
open PySem PySem.Spec PyProof.Rows L2
structure SupAt (P : Program) (K : PySem.W.Frag) (mg : Str → Option Value) (x fl : Str) : Prop where
  ex : ∃ C fI body q params scope me pn dV kV doc pm ct an cda cc, mg x = some (.ref C) ∧ SupC P K C fI fl body q params scope me pn dV kV doc pm ct an cda cc
def sRaiseF (c fl : Str) (m : M D) : MS := fun ρ => ofRes (m ρ) fun d ρ1 => if d.frz then .exc ⟨c, [(fl, d)]⟩ ρ1 else .stuck
section
variable {X : Cx} {W : WX} {kp : List Nat} {alt sep : Bool} {x fl : Str} {e : Expr} {m : M D} {p q pos : Pos}
theorem step_xd {B H : Hp} {a : Addr} {fs : List (Str × V)} (hs : ∀ b o, B b = some o → H b = some o) (ha : H a = none) : Step B H [] (upd B a (.xd fs)) (upd H a (.xd fs)) [] := by
  have hb : B a = none := by
    cases z : B a with
    | none => rfl
    | some o => rw [hs _ _ z] at ha; cases ha
  refine ⟨fun b o h => ?_, fun b o h => by rw [upd_ne (ne_of_none h hb)]; exact h, fun b h _ => upd_ne (fun z => h (by rw [z]; exact ha)), fun _ h => absurd h (by simp), fun b h => ?_⟩
  · by_cases z : b = a
    · rw [z, upd_same] at h ⊢; exact h
    · rw [upd_ne z] at h ⊢; exact hs b o h
  · by_cases z : b = a
    · exact .inr (.inr (by rw [z]; exact ha))
    · rw [upd_ne z] at h; exact .inl h
theorem s_raiseF (T : SupAt X.prog X.K X.mg x fl) (hr : Room 1 X.A) (tk : Takes X W) (h : PD X W alt sep e m) (calm : X.calm = true := by rfl) (hg : Gl X x := by rfl) (hdb : (x == ("__debug__" : Str)) = false := by decide)
    (he : starEach (e :: []) X.env = (false, eval e X.env) :: starEach [] X.env := by rfl) (hpl : (backTo pos (starEach [] X.env)).any (·.1) = false := by rfl) :
    PDS X W kp (.Raise (some (.Call (.Name x p) [e] [] pos)) none q) (sRaiseF x fl m) := by
  obtain ⟨C, fI, body, qn, params, scope, me, pn, dV, kV, doc, pm, ct, an, cda, cc, hm, S⟩ := T.ex
  refine PS.weak (ps_raise calm tk (mk_sup S hr hg hm (pa_cons h pa_nil he) hdb he hpl)) fun D σ H ⟨B, ρ, U, st, k⟩ => ?_
  refine ⟨B, ρ, U, st, ?_⟩
  dsimp only [sRaiseF] at k
  cases hq : m ρ with
  | exc y ρ1 => rw [hq] at k; exact excS.toW k
  | stuck => rw [hq] at k; exact k
  | ok d ρ1 =>
    rw [hq] at k
    intro v B1 H1 U1 F p1
    dsimp only [ofRes] at k
    by_cases hf : d.frz = true
    case neg => rw [if_neg hf] at k; exact k.elim
    rw [if_pos hf] at k
    refine ⟨v, rfl, fun a ha => ?_⟩
    have own := p1.own
    obtain rfl := Own.nil_of own hf
    have sx := step_xd (fs := [(fl, v)]) p1.st.sub ha
    refine k σ _ _ U1 (.ref C) (some a) ⟨p1.st.stepN sx, p1.step.trans sx.none_of, fun _ _ => rfl⟩ ⟨C, hm, rfl, .inr ⟨a, [v], by simp, rfl, upd_same, ?_⟩⟩
    exact .cons (F := []) (G := []) (Own.step own sx fun _ h => absurd h (by simp)) .nil
end
/-! n.f -/
structure XfAt (K : PySem.W.Frag) (mg : Str → Option Value) (sub : Str → Str → Option Bool) (h f : Str) : Prop where
  ex : ∀ y C, sub y h = some true → mg y = some (.ref C) → XfC K C ∧ PySem.W.findIn K (.ref C) f = some none
def eXf (f : Str) (i : Nat) : M D := fun ρ => match ρ[i]? with
  | some (some (.exo _ fs)) => (match fs.lookup f with
    | some d => .ok d ρ
    | none => .stuck)
  | _ => .stuck
theorem flat_look {f : Str} {d : D} : ∀ {fs : List (Str × D)} {vs : List V}, FlatL vs (fs.map (·.2)) → fs.lookup f = some d → ∃ v, ((fs.map (·.1)).zip vs).lookup f = some v ∧ Flat v d
  | [], _, _, h => by simp at h
  | (g, e) :: fs, [], k, _ => by simp [FlatL] at k
  | (g, e) :: fs, w :: vs, k, h => by
    rw [List.lookup_cons] at h
    simp only [List.map_cons, List.zip_cons_cons]
    rw [List.lookup_cons]
    by_cases q : (f == g) = true
    · rw [q] at h ⊢
      cases h
      exact ⟨w, rfl, k.1⟩
    · rw [Bool.not_eq_true] at q
      rw [q] at h ⊢
      exact flat_look k.2 h
theorem flat_atom {mg : Ev} {B : Hp} {v : V} {d : D} (h : Flat v d) : Atom mg B v d := by
  cases v <;> cases d <;> simp only [Flat] at h <;> simp only [Atom] <;> exact h
section
variable {X : Cx} {sub : Str → Str → Option Bool} {h n f : Str} {e : Exc} {a : Addr} {ob : Obj} {k : Value} {d : Option Addr} {pn : List (Addr × Obj)} {p1 pos : Pos}
theorem d_xf (i : Nat) (T : XfAt X.K X.mg sub h f) (hz : Zc k d ob) (hv : ∃ vs, ob.data = .fields vs) (cg : Caught X sub h e k d)
    (hN : X.N[i]? = some n := by rfl) (hvs : Vis X.env.scope n := by first | exact Or.inl rfl | exact Or.inr (Or.inl rfl) | exact Or.inr (Or.inr rfl)) (hd : (n == ("__debug__" : Str)) = false := by decide)
    (hcd : (n == ("__classdict__" : Str)) = false := by decide) (hb : attributeBase (.Name n p1) f X.env (eval (.Name n p1) X.env) = eval (.Name n p1) X.env := by rfl) :
    PD (X.suite a ((a, ob) :: pn)) W0 false true (.Attribute (.Name n p1) f pos) (eXf f i) := by
  obtain ⟨C, hC, rfl, hs, hd0⟩ := cg
  obtain ⟨xc, hno⟩ := T.ex _ _ hs hC
  refine PE.weak (pe_xf (X := X) xc hno hz hv (pe_var (X := X.suite a ((a, ob) :: pn)) (pos := p1) hN hvs hd hcd) hb) fun σ H Q ⟨B, ρ, U, st, q⟩ => ?_
  unfold eXf at q
  cases hr : ρ[i]? with
  | none => rw [hr] at q; exact q.elim
  | some o1 =>
  cases o1 with
  | none => rw [hr] at q; exact q.elim
  | some dd =>
  cases dd with
  | exo c fs =>
    rw [hr] at q
    dsimp only at q
    obtain ⟨w, F, U', e1, o, _⟩ := st.take hr
    obtain ⟨rfl, hx⟩ := exo_val hz o
    cases hl : fs.lookup f with
    | none => rw [hl] at q; exact q.elim
    | some z =>
      rw [hl] at q
      rcases hx with rfl | ⟨dx, vs, e2, e3, fl⟩
      · simp at hl
      · obtain ⟨v, e4, fv⟩ := flat_look fl hl
        exact ⟨_, e1, rfl, rfl, dx, _, v, e2, st.sub _ _ e3, e4, q v B H U [] ((Post.start st).fin (New.flat st.sub (.atom (flat_atom fv))))⟩
  | _ => rw [hr] at q; exact q.elim
end
section
variable {ρ : Rho} {E : Exc → Rho → Prop} {Q : D → Rho → Prop} {R : Out → Prop} {m : M D} {c f fl : Str} {i : Nat}
theorem w_raiseF (h : W m ρ (fun e ρ1 => R (.exc e ρ1)) fun d ρ1 => IsFz d (R (.exc ⟨c, [(fl, d)]⟩ ρ1))) : WS (sRaiseF c fl m) ρ R := s_of (h.imp (fun _ _ h => h) fun d ρ1 h => by
  obtain ⟨h1, h2⟩ := h
  show R (if d.frz = true then _ else _)
  rw [if_pos h1]; exact h2)
theorem w_xf (h : Get i ρ fun d => ∃ c fs, d = .exo c fs ∧ WO (fs.lookup f) fun z => Q z ρ) : W (eXf f i) ρ E Q := by
  obtain ⟨d, e, c, fs, rfl, z, h1, h2⟩ := h
  unfold W eXf
  rw [e]
  dsimp only
  rw [h1]
  exact h2
end
end Eng
/-! Eng47: outcome rules for methods and makings. -/
namespace Eng
open PySem PySem.Spec PyProof.Rows L2
section
variable {ρ : Rho} {E : Exc → Rho → Prop} {Q : D → Rho → Prop} {mo : M D} {ms : M (List ArgV)} {c m : Str} {i : Nat} {g : List D → Fo}
theorem w_meL (h : Get i ρ fun d => isIns c m d = true ∧ W (eCall g (aLend i ms)) ρ E Q) : W (eMeL c m g i ms) ρ E Q := by
  obtain ⟨d, e, h1, h2⟩ := h
  unfold W eMeL
  rw [e]
  dsimp only
  rw [if_pos h1]
  exact h2
theorem w_isI (h : W mo ρ E fun d ρ1 => isIns c m d = true ∧ Q d ρ1) : W (eIsI c m mo) ρ E Q := by
  unfold W at h
  unfold W eIsI
  cases hm : mo ρ with
  | ok d ρ1 => rw [hm] at h; dsimp only at h ⊢; rw [if_pos h.1]; exact h.2
  | exc e ρ1 => rw [hm] at h; exact h
  | stuck => rw [hm] at h; exact h
theorem w_meV (h : W (eCall g (aVal (eIsI c m mo) ms)) ρ E Q) : W (eMeV c m g mo ms) ρ E Q := h
def MadeQ (Q : D → List (Option D) → Prop) : D → List (Option D) → Prop
  | .non, some d :: ps => Q d ps
  | _, _ => False
def MadeE (E : Exc → List (Option D) → Prop) : Exc → List (Option D) → Prop
  | e, _ :: ps => E e ps
  | _, _ => False
theorem w_mk (h : W ms ρ E fun vs ρ1 => Take vs ρ1 fun ds ρ2 => WF (g (.ins true c [] :: ds)) (MadeE fun e ps => Back vs ds ps ρ2 fun ρ3 => E e ρ3) (MadeQ fun d ps => Back vs ds ps ρ2 fun ρ3 => Q d ρ3)) : W (eMk c g ms) ρ E Q := by
  refine w_bind (h.imp (fun _ _ h => h) fun vs ρ1 h => ?_)
  unfold Take at h
  unfold W
  cases ht : takeAll vs ρ1 with
  | none => rw [ht] at h; exact h.elim
  | some x =>
    obtain ⟨ds, ρ2⟩ := x
    rw [ht] at h
    dsimp only at h ⊢
    unfold WF at h
    rw [ht]
    dsimp only
    cases hg : g (.ins true c [] :: ds) with
    | ok r ps =>
      rw [hg] at h
      dsimp only at h ⊢
      cases r with
      | non =>
        cases ps with
        | nil => exact h.elim
        | cons o ps =>
          cases o with
          | none => exact h.elim
          | some d => exact h
      | _ => exact h.elim
    | exc e ps =>
      rw [hg] at h
      dsimp only at h ⊢
      cases ps with
      | nil => exact h.elim
      | cons o ps => exact h
    | stuck => rw [hg] at h; exact h.elim
theorem md_q {Q : D → List (Option D) → Prop} {d : D} {ps : List (Option D)} (h : Q d ps) : MadeQ Q .non (some d :: ps) := h
theorem md_e {E : Exc → List (Option D) → Prop} {e : Exc} {o : Option D} {ps : List (Option D)} (h : E e ps) : MadeE E e (o :: ps) := h
end
end Eng
/-! Eng48: dicts: {}, sorted(d). -/
namespace Eng
open PySem PySem.Spec PyProof.Rows L2
theorem New.dic0 {mg : Ev} {B H : Hp} (hs : ∀ a o, B a = some o → H a = some o) {p : Addr} (hp : H p = none) : New mg B H (.ref p) (.dic true []) B (upd H p (.dK [])) [p] where
  own := .own (A := [p]) (F := []) (vs := []) rfl ⟨rfl, rfl, .inl ⟨[], rfl, (show upd H p (.dK []) p = _ from upd_same)⟩⟩ .nil
  step := ⟨fun a o h => by rw [upd_ne (ne_of_none (hs a o h) hp)]; exact hs a o h, fun _ _ h => h, fun a h _ => by rw [upd_ne (fun z => h (by rw [z]; exact hp))], fun _ h => absurd h (by simp), fun a h => .inl h⟩
  nd := by simp
  nw := fun a h => by
    simp at h; subst h
    refine ⟨hp, ?_⟩
    cases e : B a with
    | none => rfl
    | some o => rw [hs _ _ e] at hp; cases hp
theorem d_dic0 {X : Cx} {W : WX} {pos : Pos} : PD X W false true (.Dict [] [] pos) (eK (.dic true [])) :=
  PE.weak pe_dnewK fun σ H Q ⟨B, ρ, U, st, k⟩ => fun p hp => k _ B _ U [p] ((Post.start st).fin (New.dic0 st.sub hp))
/-! sorted(d) -/
def sortD : List D → Option D
  | [.dic _ kvs] => match strsOf (kvs.map (·.1)) with
    | some ys => if ys.length < 64 then some (.lst true ((isort leS ys).map D.str)) else none
    | none => none
  | xs => sortedD xs
theorem strs_eq : ∀ {xs : List D} {ys : List (List Nat)}, strsOf xs = some ys → xs = ys.map D.str
  | [], ys, h => by cases h; rfl
  | d :: ds, ys, h => by
    cases d <;> simp only [strsOf] at h <;> try (cases h; done)
    cases hz : strsOf ds with
    | none => rw [hz] at h; cases h
    | some zs =>
      rw [hz] at h
      cases h
      rw [strs_eq hz]; rfl
theorem keys_strs : ∀ {ks : List Key} {ys : List (List Nat)}, ks.map keyD = ys.map D.str → ∃ ss : List Str, ks = ss.map Sum.inr ∧ ss.map (fun x => x.cps.toList) = ys
  | [], [], _ => ⟨[], rfl, rfl⟩
  | [], y :: ys, h => by simp at h
  | k :: ks, [], h => by simp at h
  | k :: ks, y :: ys, h => by
    simp only [List.map_cons, List.cons.injEq] at h
    obtain ⟨ss, e1, e2⟩ := keys_strs h.2
    cases k with
    | inl i => simp [keyD] at h
    | inr x =>
      have hx := h.1
      simp only [keyD, D.str.injEq] at hx
      exact ⟨x :: ss, by rw [e1]; rfl, by simp [hx, e2]⟩
section
variable {X : Cx}
theorem fd_sort (calm : X.calm = true) : FnD X (.builtin "sorted") sortD := by
  intro pins s σ H xs us Q I r ⟨B, ds, F, z, hs, o, hf, q⟩
  unfold sortD at hf
  split at hf
  · rename_i oo kvs
    split at hf
    · rename_i ys hb
      split at hf <;> cases hf
      rename_i hl
      have hks := strs_eq hb
      obtain ⟨w, F', rfl, o1⟩ := owns_one o
      obtain ⟨a, ks, vs, G, rfl, rd, e, l1, l2, _⟩ := own_dic hs o1 (by rw [hks]; simp [isKeyD])
      obtain ⟨ss, rfl, rfl⟩ := keys_strs (e.symm.trans hks)
      refine call_sortedD calm pins s σ H _ us Q I r ⟨a, _, ss, rfl, rd, by rw [List.map_fst_zip (by omega)], by simpa using hl, fun zs p hp hz hn => ?_⟩
      have e : zs.map (fun x => x.cps.toList) = isort leS (ss.map fun x => x.cps.toList) := by
        refine srt_unique leS_anti ?_ (isort_srt leS_tot leS_tr _) ?_
        · cases zs with
          | nil => exact List.Pairwise.nil
          | cons x r => exact rising_srt x r hz
        · exact (hp.map fun x : Str => x.cps.toList).trans (isort_perm _).symm
      refine q _ _ _ _ (New.lst (vs := zs.map V.str) hs ?_ hn)
      rw [← e]
      clear hp hz e
      induction zs with
      | nil => exact .nil
      | cons y l ih => exact .cons (F := []) (G := []) (.atom rfl) ih
    · cases hf
  · exact fd_sortedS pins s σ H xs us Q I r ⟨B, ds, F, z, hs, o, hf, q⟩
end
section
variable {Q : D → Prop} {QL : List D → Prop} {o : Bool} {kvs : List (D × D)}
theorem wo_lend (hk : (kvs.map (·.1)).all isKeyD = true) (h : Q (.int kvs.length)) : WO (lenD [.dic o kvs]) Q := ⟨_, if_pos hk, h⟩
theorem wo_itd (hk : (kvs.map (·.1)).all isKeyD = true) (h : QL (kvs.map (·.1))) : WO (itD (.dic o kvs)) QL := ⟨_, if_pos hk, h⟩
end
end Eng
/-! Eng49: dict comprehensions. -/
namespace Eng
open PySem PySem.Spec PyProof.Rows L2
def keyV : D → Option (Int ⊕ List Nat)
  | .int i => some (.inl i)
  | .str s => some (.inr s)
  | _ => none
/-- a key that the pairs do not have as yet -/
def newKey (k : D) (acc : List (D × D)) : Bool := isKeyD k && acc.all fun p => decide (keyV p.1 ≠ keyV k)
theorem newKey_is {k : D} {acc : List (D × D)} (h : newKey k acc = true) : isKeyD k = true := by
  unfold newKey at h
  rw [Bool.and_eq_true] at h
  exact h.1
theorem key_val {mg : Ev} {B H : Hp} {v : V} {k : D} {F : List Addr} (o : Own mg B H v k F) (h : isKeyD k = true) : ∃ kk : Key, k = keyD kk ∧ v = kV kk ∧ F = [] := by
  cases k <;> simp only [isKeyD] at h <;> try (cases h; done)
  · obtain ⟨rfl, rfl⟩ := own_int o
    exact ⟨.inl _, rfl, rfl, rfl⟩
  · rename_i s
    obtain ⟨rfl, rfl⟩ := own_str o
    exact ⟨.inr (S s), by show _ = D.str (S s).cps.toList; rw [S_list], rfl, rfl⟩
theorem keyV_keyD (k : Key) : keyV (keyD k) = some (match k with | .inl i => .inl i | .inr x => .inr x.cps.toList) := by
  cases k <;> rfl
theorem newKey_no {k : D} {kk : Key} {acc : List (D × D)} {ks : List Key} {ws : List V} (h : newKey k acc = true) (ek : acc.map (·.1) = ks.map keyD) (e : k = keyD kk) (l : ks.length = ws.length) : valV (ks.zip ws) kk = none := by
  have hn : kk ∉ ks := fun hm => by
    unfold newKey at h
    rw [Bool.and_eq_true] at h
    have m : keyD kk ∈ acc.map (·.1) := by rw [ek]; exact List.mem_map_of_mem hm
    obtain ⟨p, hp, e2⟩ := List.mem_map.mp m
    have := List.all_eq_true.mp h.2 p hp
    rw [e2, e] at this
    simp at this
  cases z : valV (ks.zip ws) kk with
  | none => rfl
  | some y =>
    have := valV_in z
    rw [List.map_fst_zip (by omega)] at this
    exact absurd this hn
def dcL (g : D → Rho → Option Rho) (c : M Bool) (mk m : M D) (vs : List Nat) : List D → List (D × D) → Rho → Res (List (D × D))
  | [], acc, ρ => .ok acc ρ
  | x :: xs, acc, ρ => match g x ρ with
    | some ρ1 => (match c ρ1 with
      | .ok true ρ2 => (match mk ρ2 with
        | .ok k ρ3 => (match m ρ3 with
          | .ok d ρ4 => if newKey k acc = true ∧ acc.length < 16777216 then dcL g c mk m vs xs (acc ++ [(k, d)]) (wipeR ρ4 vs) else .stuck
          | _ => .stuck)
        | _ => .stuck)
      | .ok false ρ2 => dcL g c mk m vs xs acc (wipeR ρ2 vs)
      | _ => .stuck)
    | none => .stuck
def eDc (g : D → Rho → Option Rho) (mi : M (List D)) (c : M Bool) (mk m : M D) (vs : List Nat) : M D := fun ρ => match mi ρ with
  | .ok items ρ1 => (match dcL g c mk m vs items [] (wipeR ρ1 vs) with
    | .ok ds ρ2 => .ok (.dic true ds) (restR ρ1 ρ2 vs)
    | .exc e ρ2 => .exc e ρ2
    | .stuck => .stuck)
  | .exc e ρ1 => .exc e ρ1
  | .stuck => .stuck
section
variable {X : Cx} {W : WX} {kp : List Nat} {alt : Bool} {pos : Pos} {tg iter kx vx : Expr} {ifs : List Expr} {g : D → Rho → Option Rho} {mi : M (List D)} {c : Expr} {mc : M Bool} {m mk : M D}
theorem dc_read {vs : List Nat} {N : List Str} {σ : L2.St} {H : Hp} {Q : VK} (hlen : σ.length = N.length) (hkp : ∀ i, i < N.length → i ∉ vs → i ∈ kp) (hq : tE X.ev W true true (eDc g mi mc mk m vs) σ H Q) :
    tDc (tI X.ev W mi) (tG X.ev kp g) (tT X.ev W0 true mc) (tE X.ev W0 true true mk) (tE X.ev W0 true true m) vs σ H Q := by
  obtain ⟨B, ρ, U, st, k⟩ := hq
  refine ⟨B, ρ, U, st, ?_⟩
  dsimp only [eDc] at k
  cases hm : mi ρ with
  | exc x ρ1 => rw [hm] at k; exact k
  | stuck => rw [hm] at k; exact k
  | ok items ρ1 =>
  rw [hm] at k
  intro J B1 H1 U1 p it Dd hD
  dsimp only at k
  have stD := upd_new (o := .dK []) p.st.sub hD
  obtain ⟨Uw, sw, subw⟩ := (p.st.stepN stD).wiped vs
  have hBD : B1 Dd = none := by
    cases e : B1 Dd with
    | none => rfl
    | some o => rw [p.st.sub _ _ e] at hD; cases hD
  have hDU : Dd ∉ U1 := fun z => p.st.ex Dd z hD
  have key : ∀ (ds : List (D × D)) (ρ2 : Rho), (∀ v B' H' U' F, Post X.ev true true B H σ ρ U (restR ρ1 ρ2 vs) (oV X.ev v (.dic true ds)) B' H' U' F → Q v H') → ∀ (B2 H2 : Hp) (U2 Fa : List Addr) (ks : List Key) (ws : List V), Sta X.ev B2 H2 (wipe σ vs) ρ2 U2 → (∀ a o, B1 a = some o → B2 a = some o) → H2 Dd = some (.dK (ks.zip ws)) → ds.map (·.1) = ks.map keyD → Owns X.ev B2 H2 ws (ds.map (·.2)) Fa → Sep B2 (Dd :: Fa) U2 → Step B H U B2 H2 (U2 ++ (Dd :: Fa)) → Q (.ref Dd) H2 := by
    intro ds ρ2 kk B2 H2 U2 Fa ks ws s2 hb e2 ek o2 sp2 t2
    obtain ⟨U3, s3, sub3⟩ := p.st.restored hb vs s2.toOuter
    exact kk _ B2 H2 U3 (Dd :: Fa) ⟨s3, .own (A := [Dd]) rfl ⟨rfl, by rw [o2.len, List.length_map], .inl ⟨ks, ek, e2⟩⟩ o2, fun _ => ⟨sp2.mono sub3, fun a x => t2.new a (by simp at x ⊢; exact .inr x)⟩, t2.less fun a x => by simp [sub3 a x], fun h => by cases h⟩
  cases hr : dcL g mc mk m vs items [] (wipeR ρ1 vs) with
  | stuck => rw [hr] at k; exact k.elim
  | exc x ρ2 =>
    -- no exception comes out of the turns
    exfalso
    have : ∀ (xs : List D) (acc : List (D × D)) (ρ : Rho) x ρ2, dcL g mc mk m vs xs acc ρ ≠ .exc x ρ2 := by
      intro xs
      induction xs with
      | nil => intro acc ρ x ρ2 h; simp [dcL] at h
      | cons y ys ih =>
        intro acc ρ x ρ2 h
        unfold dcL at h
        split at h
        · split at h
          · split at h
            · split at h
              · split at h
                · exact ih _ _ _ _ h
                · cases h
              · cases h
            · cases h
          · exact ih _ _ _ _ h
          · cases h
        · cases h
    exact this _ _ _ _ _ hr
  | ok dsF ρF =>
  rw [hr] at k
  dsimp only at k
  have t0 : Step B H U B1 (upd H1 Dd (.dK [])) (Uw ++ [Dd]) := by
    have z := p.step.trans (stD.none_of (U := U1))
    refine z.weak (fun _ h => h) fun a x => ?_
    rcases List.mem_append.mp x with x | x
    · exact .inl (subw a x)
    · simp at x; subst x
      by_cases w : a ∈ U
      · exact .inr (.inl w)
      · refine .inr (.inr ?_)
        cases e : H a with
        | none => rfl
        | some o => rw [p.step.keep a (by rw [e]; simp) w, e] at hD; cases hD
  refine ⟨fun i n H2 => ∃ (B2 : Hp) (ρ2 : Rho) (U2 : List Addr) (acc : List (D × D)) (ks : List Key) (ws : List V) (Fa : List Addr), n = items.length - i ∧ i ≤ items.length ∧ Sta X.ev B2 H2 (wipe σ vs) ρ2 U2 ∧ (∀ a o, B1 a = some o → B2 a = some o) ∧ (H2 Dd = some (.dK (ks.zip ws)) ∧ acc.map (·.1) = ks.map keyD) ∧ Owns X.ev B2 H2 ws (acc.map (·.2)) Fa ∧ Sep B2 (Dd :: Fa) U2 ∧ Step B H U B2 H2 (U2 ++ (Dd :: Fa)) ∧ dcL g mc mk m vs (items.drop i) acc ρ2 = .ok dsF ρF,
    ⟨_, B1, wipeR ρ1 vs, Uw, [], [], [], [], rfl, Nat.zero_le _, sw, fun _ _ h => h, ⟨upd_same, rfl⟩, .nil, ⟨by simp, fun a x y => ?_, fun a x => by simp at x; rw [x]; exact hBD⟩, t0, hr⟩, fun i n H2 ⟨B2, ρ2, U2, acc, ks, ws, Fa, en, hile, s2, hb12, ⟨e2, ek⟩, o2, sp2, t2, l2⟩ => ?_⟩
  · simp at x; subst x; exact hDU (subw a y)
  have ground : ∀ a o, B1 a = some o → H2 a = some o := fun a o h => s2.sub a o (hb12 a o h)
  by_cases hil : i < items.length
  case neg =>
    obtain rfl : i = items.length := by omega
    rw [List.drop_length] at l2
    simp only [dcL, Res.ok.injEq] at l2
    obtain ⟨rfl, rfl⟩ := l2
    exact .inl ⟨it.stop H2 ground, key _ _ k B2 H2 U2 Fa ks ws s2 hb12 e2 ek o2 sp2 t2⟩
  refine .inr ⟨it.go i H2 ground hil, fun H3 => ∃ (B3 : Hp) (ρ3 : Rho) (U3 : List Addr) (acc : List (D × D)) (ks : List Key) (ws : List V) (Fa : List Addr), Sta X.ev B3 H3 (wipe σ vs) ρ3 U3 ∧ (∀ a o, B1 a = some o → B3 a = some o) ∧ (H3 Dd = some (.dK (ks.zip ws)) ∧ acc.map (·.1) = ks.map keyD) ∧ Owns X.ev B3 H3 ws (acc.map (·.2)) Fa ∧ Sep B3 (Dd :: Fa) U3 ∧ Step B H U B3 H3 (U3 ++ (Dd :: Fa)) ∧ dcL g mc mk m vs (items.drop (i + 1)) acc ρ3 = .ok dsF ρF,
    fun H3 ⟨B3, ρ3, U3, acc3, ks3, ws3, Fa3, h1, h2, h3, h4, h5, h6, h7⟩ => ⟨_, ?_, B3, ρ3, U3, acc3, ks3, ws3, Fa3, rfl, by omega, h1, h2, h3, h4, h5, h6, h7⟩, fun x H3 hy => ?_⟩
  · rw [en]; omega
  obtain ⟨B3, ox, stp⟩ := it.yld i H2 x H3 items[i] B2 hb12 s2.sub (List.getElem?_eq_getElem hil) hy
  have s3 := s2.stepN stp
  have thL : ∀ a ∈ Dd :: Fa, H2 a ≠ none := fun a z => by
    rcases List.mem_cons.mp z with rfl | z
    · rw [e2]; simp
    · exact o2.there a z
  have sp3 : Sep B3 (Dd :: Fa) U2 := sp2.step thL (stp.none_of (U := U2))
  have o3 := o2.step stp fun _ _ h => absurd h (by simp)
  have e3 : H3 Dd = some (.dK (ks.zip ws)) := by rw [stp.keep Dd (by rw [e2]; simp) (by simp)]; exact e2
  rw [List.drop_eq_getElem_cons hil] at l2
  unfold dcL at l2
  refine ⟨B3, ρ2, U2, items[i], [], s3, ox, Sep.nil, ?_⟩
  cases hgx : g items[i] ρ2 with
  | none => simp only [hgx] at l2; cases l2
  | some ρ3 =>
  simp only [hgx] at l2
  intro σ4 U4 s4 sub4 kp4 len4
  have hw : wipe σ4 vs = wipe σ vs := by
    have a1 : wipe σ4 vs = wipe (wipe σ vs) vs := wipe_eq len4 fun j hj => by
      by_cases hjn : j < N.length
      · exact kp4 j (hkp j hjn hj)
      · rw [List.getElem?_eq_none (by rw [len4, wipe_length, hlen]; omega), List.getElem?_eq_none (by rw [wipe_length, hlen]; omega)]
    rw [a1]
    exact wipe_eq (wipe_length σ vs) fun j hj => wipe_get hj
  have u42 : ∀ a ∈ U4, a ∈ U2 := fun a z => by
    rcases sub4 a z with y | y
    · exact y
    · simp at y
  refine ⟨hw, B3, ρ3, U4, s4, ?_⟩
  have back : ∀ {ρ5 : Rho} {B6 H6 : Hp} {U6 F6 : List Addr} {ks' : List Key} {ws' : List V} {acc' : List (D × D)}, Sta X.ev B6 H6 σ4 ρ5 U6 → Step B3 H3 U4 B6 H6 U6 → Sep B6 F6 U6 → (∀ a ∈ F6, a ∈ U4 ∨ H3 a = none) → (∀ a ∈ F6, H6 a ≠ none) → Owns X.ev B6 H6 ws' (acc'.map (·.2)) (Fa ++ F6) → acc'.map (·.1) = ks'.map keyD → ∀ (H7 : Hp), H7 = upd H6 Dd (.dK (ks'.zip ws')) → dcL g mc mk m vs (items.drop (i + 1)) acc' (wipeR ρ5 vs) = .ok dsF ρF →
      ∃ (B3 : Hp) (ρ3 : Rho) (U3 : List Addr) (acc : List (D × D)) (ks : List Key) (ws : List V) (Fa : List Addr), Sta X.ev B3 H7 (wipe σ vs) ρ3 U3 ∧ (∀ a o, B1 a = some o → B3 a = some o) ∧ (H7 Dd = some (.dK (ks.zip ws)) ∧ acc.map (·.1) = ks.map keyD) ∧ Owns X.ev B3 H7 ws (acc.map (·.2)) Fa ∧ Sep B3 (Dd :: Fa) U3 ∧ Step B H U B3 H7 (U3 ++ (Dd :: Fa)) ∧ dcL g mc mk m vs (items.drop (i + 1)) acc ρ3 = .ok dsF ρF := by
    intro ρ5 B6 H6 U6 F6 ks' ws' acc' s6 t36 sp6 new6 th6 o6 ek6 H7 e7 l7
    have spL : Sep B6 (Dd :: Fa) U6 := (sp3.mono u42).step (fun a z => by rw [stp.keep a (thL a z) (by simp)]; exact thL a z) t36
    have dF6 : ∀ a ∈ Dd :: Fa, a ∉ F6 := fun a z y => by
      rcases new6 a y with w | w
      · exact (sp3.mono u42).dj a z w
      · rw [stp.keep a (thL a z) (by simp)] at w; exact thL a z w
    have spA : Sep B6 (Dd :: (Fa ++ F6)) U6 := by
      have nd1 := spL.nd
      refine ⟨?_, fun a z => ?_, fun a z => ?_⟩
      · rw [← List.cons_append]
        exact List.nodup_append.mpr ⟨nd1, sp6.nd, fun a x b y e => by subst e; exact dF6 a x y⟩
      · rw [← List.cons_append] at z
        rcases List.mem_append.mp z with z | z
        · exact spL.dj a z
        · exact sp6.dj a z
      · rw [← List.cons_append] at z
        rcases List.mem_append.mp z with z | z
        · exact spL.off a z
        · exact sp6.off a z
    have hDn : Dd ∉ Fa ++ F6 := (List.nodup_cons.mp spA.nd).1
    have t6 : Step B H U B6 H6 (U6 ++ (Dd :: (Fa ++ F6))) := by
      have a3 : Step B2 H2 (U2 ++ (Dd :: Fa)) B3 H3 (U2 ++ (Dd :: Fa)) := stp.none_of
      have a4 : Step B3 H3 (U2 ++ (Dd :: Fa)) B6 H6 (U6 ++ (Dd :: (Fa ++ F6))) := t36.weak (fun a z => by simp [u42 a z]) fun a z => by
        rcases List.mem_append.mp z with z | z
        · exact .inl z
        · rw [← List.cons_append] at z
          rcases List.mem_append.mp z with z | z
          · exact .inr (.inl (List.mem_append.mpr (.inr z)))
          · rcases new6 a z with w | w
            · exact .inr (.inl (by simp [u42 a w]))
            · exact .inr (.inr w)
      exact (t2.trans a3).trans a4
    obtain ⟨U7, s7, sub7⟩ := (s6.step (upd_step (o := .dK (ks'.zip ws')) (U := [Dd]) (U' := []) s6.sub (spA.off Dd (by simp)) (by simp) (by simp)) fun a z y => by
      simp at y; subst y; exact spA.dj a (by simp) z).unwiped (σ0 := σ) vs (by rw [len4, wipe_length]) hw
    subst e7
    refine ⟨B6, wipeR ρ5 vs, U7, acc', ks', ws', Fa ++ F6, s7, fun a o h => t36.bs a o (stp.bs a o (hb12 a o h)), ⟨upd_same, ek6⟩, o6.mono (fun _ _ h => h) fun a z => by rw [upd_ne (fun y => hDn (by rw [← y]; exact z))], spA.mono sub7, ?_, l7⟩
    exact (t6.trans (upd_step (U := U6 ++ (Dd :: (Fa ++ F6))) (U' := U7 ++ (Dd :: (Fa ++ F6))) s6.sub (spA.off Dd (by simp)) (by simp) fun a z => by
      rcases List.mem_append.mp z with z | z
      · exact List.mem_append.mpr (.inl (sub7 a z))
      · exact List.mem_append.mpr (.inr z)))
  cases hmc : mc ρ3 with
  | exc x ρ4 => simp only [hmc] at l2; cases l2
  | stuck => simp only [hmc] at l2; cases l2
  | ok b ρ4 =>
  simp only [hmc] at l2
  intro B5 H5 U5 q
  cases b with
  | false =>
    simp only [Bool.false_eq_true, if_false] at l2 ⊢
    have dD5 : H5 Dd = some (.dK (ks.zip ws)) := by rw [q.step.keep Dd (by rw [e3]; simp) fun z => sp3.dj Dd (by simp) (u42 _ z)]; exact e3
    refine back q.st q.step Sep.nil (fun _ h => absurd h (by simp)) (fun _ h => absurd h (by simp)) (by
      rw [List.append_nil]; exact o3.step q.step fun a z y => sp3.dj a (by simp [z]) (u42 a y)) ek H5 ?_ l2
    funext a
    by_cases h : a = Dd
    · subst h; rw [upd_same]; exact dD5
    · rw [upd_ne h]
  | true =>
  simp only [if_true] at l2 ⊢
  refine ⟨B5, ρ4, U5, q.st, ?_⟩
  cases hmk : mk ρ4 with
  | exc x ρ5 => simp only [hmk] at l2; cases l2
  | stuck => simp only [hmk] at l2; cases l2
  | ok kd ρ5 =>
  simp only [hmk] at l2
  intro yk B6 H6 U6 F6 q6
  cases hme : m ρ5 with
  | exc x ρ6 => simp only [hme] at l2; cases l2
  | stuck => simp only [hme] at l2; cases l2
  | ok d ρ6 =>
  simp only [hme] at l2
  by_cases hnew : newKey kd acc = true ∧ acc.length < 16777216
  case neg => rw [if_neg hnew] at l2; cases l2
  rw [if_pos hnew] at l2
  obtain ⟨kk, ekk, evk, hF6⟩ := key_val q6.own (newKey_is hnew.1)
  subst hF6 evk
  refine ⟨B6, ρ5, U6, q6.st, ?_⟩
  rw [hme]
  intro y B7 H7 U7 F7 q7
  have qa := q.comb2 q6
  have qq := qa.comb2 q7
  obtain ⟨sp6, new6⟩ := qq.sep rfl
  have nU4 : ∀ a ∈ Dd :: Fa, a ∉ U4 := fun a z w => sp3.dj a z (u42 a w)
  have thL3 : ∀ a ∈ Dd :: Fa, H3 a ≠ none := fun a z => by rw [stp.keep a (thL a z) (by simp)]; exact thL a z
  have e6 : H7 Dd = some (.dK (ks.zip ws)) := by rw [qq.step.keep Dd (thL3 Dd (by simp)) (nU4 Dd (by simp))]; exact e3
  have o6 := o3.step qq.step fun a z => nU4 a (by simp [z])
  have lk : ks.length = ws.length := by
    have z1 := congrArg List.length ek
    have z2 := o6.len
    simp at z1 z2; omega
  refine ⟨ks.zip ws, kk, rfl, e6, by rw [List.length_zip, lk, Nat.min_self, o6.len, List.length_map]; exact Nat.lt_of_lt_of_le hnew.2 (by decide), ?_⟩
  have oy : Owns X.ev B7 H7 (ws ++ [y]) ((acc ++ [(kd, d)]).map (·.2)) (Fa ++ F7) := by
    have := o6.append (.cons q7.own .nil)
    simpa using this
  have pk : putK (ks.zip ws) kk y = (ks ++ [kk]).zip (ws ++ [y]) := by
    rw [putK_new y (newKey_no hnew.1 ek ekk lk), List.zip_append lk]; rfl
  rw [pk]
  exact back (ks' := ks ++ [kk]) qq.st qq.step sp6 new6 (fun a z => Own.there q7.own a z) oy (by rw [List.map_append, List.map_append, ek]; simp [ekk]) _ rfl l2
theorem d_dc {scope : Scope} {own : List (Str × Nat)} {vs : List Nat} (hc : X.calm = true) (hN : X.N.Nodup) (hi : PDI X W tg iter mi) (ok : BlkOk X.N X.env.scope scope own) (hv : own.map (·.2) = vs) (hkp : ∀ i, i < X.N.length → i ∉ vs → i ∈ kp)
    (hg : ∀ (s : Shared) (H : Hp) (C : Addr) (cl : List (Str × Addr)) (fp : List Addr), PDG (X.blk s H scope (compEnvC scope cl C X.env) fp) kp tg g)
    (ht : ∀ (s : Shared) (H : Hp) (C : Addr) (cl : List (Str × Addr)) (fp : List Addr), PDTs (X.blk s H scope (compEnvC scope cl C X.env) fp) W0 ifs mc)
    (hk : ∀ (s : Shared) (H : Hp) (C : Addr) (cl : List (Str × Addr)) (fp : List Addr), PD (X.blk s H scope (compEnvC scope cl C X.env) fp) W0 true true kx mk)
    (he : ∀ (s : Shared) (H : Hp) (C : Addr) (cl : List (Str × Addr)) (fp : List Addr), PD (X.blk s H scope (compEnvC scope cl C X.env) fp) W0 true true vx m)
    (hs : ∀ x, foldedSetIterable iter X.env x = pure x := by intro _; rfl) : PD X W true true (.DictComp kx vx [⟨tg, iter, ifs, 0⟩] scope pos) (eDc g mi mc mk m vs) := by
  have hpe := pe_dc (pos := pos) (g := tG X.ev kp g) (tt := tT X.ev W0 true mc) (tk := tE X.ev W0 true true mk) (tv := tE X.ev W0 true true m) hc hN hi ok (fun s H C cl fp => blk_g hc (hg s H C cl fp)) (fun s H C cl fp => blk_t hc (ht s H C cl fp)) (fun s H C cl fp => blk_e hc (hk s H C cl fp)) (fun s H C cl fp => blk_e hc (he s H C cl fp)) hs
  rw [hv] at hpe
  exact ⟨fun pins s σ H Q I h => hpe.run pins s σ H Q I (dc_read I.len hkp h)⟩
end
end Eng
/-! Eng50: d[k]; what is never evaluated. -/
namespace Eng
open PySem PySem.Spec PyProof.Rows L2
theorem d_no {X : Cx} {W : WX} {alt sep : Bool} {e : Expr} : PD X W alt sep e mStuck := ⟨fun pins s σ H Q I ⟨B, ρ, U, st, k⟩ => k.elim⟩
theorem keyD_inj {a b : Key} (h : keyV (keyD a) = keyV (keyD b)) : a = b := by
  rw [keyV_keyD, keyV_keyD] at h
  cases a <;> cases b <;> simp at h
  · rw [h]
  · rename_i x y
    cases x; cases y
    cases h; rfl
def lookD (kvs : List (D × D)) (k : D) : Option D := (kvs.find? fun p => decide (keyV p.1 = keyV k)).map (·.2)
def gixD : D → D → Option D
  | .dic _ kvs, k => if (kvs.map (·.1)).all isKeyD = true ∧ isKeyD k = true then lookD kvs k else none
  | d, e => idxD d e
section
variable {mg : Ev} {B H : Hp} {kk : Key} {d : D}
theorem look_some : ∀ {kvs : List (D × D)} {ks : List Key} {vs : List V} {G : List Addr}, Owns mg B H vs (kvs.map (·.2)) G → kvs.map (·.1) = ks.map keyD → lookD kvs (keyD kk) = some d →
    ∃ v F', valV (ks.zip vs) kk = some v ∧ Own mg B H v d F' ∧ (∀ a ∈ F', a ∈ G) ∧ (G.Nodup → F'.Nodup)
  | [], _, _, _, _, _, h => by simp [lookD] at h
  | p :: kvs, [], _, _, _, e, _ => by simp at e
  | p :: kvs, k :: ks, _, _, .cons (v := w) (F := F1) (G := F2) a t, e, h => by
    simp only [List.map_cons, List.cons.injEq] at e
    by_cases q : k = kk
    · refine ⟨w, F1, by rw [List.zip_cons_cons]; exact valV_pos q, ?_, fun b hb => by simp [hb], fun nd => (List.nodup_append.mp nd).1⟩
      unfold lookD at h
      rw [List.find?_cons, e.1, q] at h
      simp at h
      rw [← h]; exact a
    · have h2 : lookD kvs (keyD kk) = some d := by
        unfold lookD at h ⊢
        rw [List.find?_cons, e.1] at h
        have ne : decide (keyV (keyD k) = keyV (keyD kk)) = false := decide_eq_false fun z => q (keyD_inj z)
        rw [ne] at h
        exact h
      obtain ⟨v, F', e1, o1, sub, nd⟩ := look_some t e.2 h2
      exact ⟨v, F', by rw [List.zip_cons_cons, valV_neg q]; exact e1, o1, fun b hb => by simp [sub b hb], fun n => nd (List.nodup_append.mp n).2.1⟩
end
section
variable {X : Cx}
theorem ix_G (hu : X.A.units + 64 < cLine) : IxD X gixD := by
  intro value slice pins s σ H x y v u Q I rx ry ⟨B, d, e, F, G, z, hs, o1, o2, hf, q⟩ hsub
  cases d with
  | dic oo kvs =>
    unfold gixD at hf
    dsimp only at hf
    by_cases hk : (kvs.map (·.1)).all isKeyD = true ∧ isKeyD e = true
    case neg => rw [if_neg hk] at hf; cases hf
    rw [if_pos hk] at hf
    obtain ⟨a, ks, vs, G', rfl, rd, ek, l1, l2, t, z1, z2⟩ := own_dic hs o1 hk.1
    obtain ⟨kk, rfl, rfl, rfl⟩ := key_val o2 hk.2
    obtain ⟨w, F', e1, ow, sub, nd⟩ := look_some t ek hf
    cases (show v = Value.ref a from rx)
    have g : DGet H a (kV kk) (some w) := .inl ⟨_, kk, rd, rfl, e1.symm⟩
    have hT : s.TypeIs (.ref a) "dict" := dict_typeIs I g
    have sub2 : ∀ b ∈ F', b ∈ F := fun b hb => by
      cases oo with
      | false => have := sub b hb; rw [(z1 rfl).2.1] at this; simp at this
      | true => rw [(z2 rfl).1]; exact List.mem_cons_of_mem _ (sub b hb)
    have nd2 : F.Nodup → F'.Nodup := fun n => by
      cases oo with
      | false => exact nd (by rw [(z1 rfl).2.1]; exact List.nodup_nil)
      | true => rw [(z2 rfl).1] at n; exact nd (List.nodup_cons.mp n).2
    have h2 : wpAny (model X.prog X.w) X.A (getItem (.ref a) u) (EP X pins σ Q) X.xe s := d_getItem (by omega) I g ry fun w' s3 I3 rw' => ⟨w, H, I3, rw', q w F' ow sub2 nd2⟩
    unfold subscriptTail
    refine wpAny_bind ?_
    rw [getitemInPython_of_ne hT.not_modules]
    refine wpAny_bind (wpAny_specialOf hT PySem.F.slot_dict_getitem.lookup ?_)
    have fin : wpAny (model X.prog X.w) X.A (subscripted slice false (.ref a) u) (fun r s₃ => wpAny (model X.prog X.w) X.A (letTemporaryGo value (.ref a) r >>= fun _ => pure r) (EP X pins σ Q) X.xe s₃) X.xe s := by
      rw [hsub]
      exact wpAny_operating (wpAny_mono h2 (fun r s₃ h₃ => wpAny_bind (wpAny_letTemporaryGo (wpAny_pure h₃))) fun _ _ x => x)
    first
      | exact wpAny_pure (wpAny_bind fin)
      | exact wpAny_bind (wpAny_pure (wpAny_bind fin))
      | exact wpAny_bind fin
  | _ => exact ix_D value slice pins s σ H x y v u Q I rx ry ⟨B, _, e, F, G, z, hs, o1, o2, hf, q⟩ hsub
theorem d_gix {W : WX} {a1 a2 s1 s2 : Bool} {ea eb : Expr} {ma mb : M D} {pos : Pos} (hu : X.A.units + 64 < cLine) (ha : PD X W a1 s1 ea ma) (hb : PD X W a2 s2 eb mb) (hc : (!a2 || s1) = true := by decide) (hp : PlainIx eb := by exact fun _ _ => rfl) : PD X W (a1 || a2) s1 (.Subscript ea eb pos) (eOp gixD ma mb) := d_ixG (ix_G hu) ha hb hc hp
end
end Eng
/-! Eng51: k in d, k not in d. -/
namespace Eng
open PySem PySem.Spec PyProof.Rows L2
theorem look_is {kk : Key} : ∀ {kvs : List (D × D)} {ks : List Key} {vs : List V}, vs.length = kvs.length → kvs.map (·.1) = ks.map keyD → (valV (ks.zip vs) kk).isSome = (lookD kvs (keyD kk)).isSome
  | [], [], _, _, _ => by simp [lookD, valV]
  | [], k :: ks, _, _, e => by simp at e
  | p :: kvs, [], _, _, e => by simp at e
  | p :: kvs, k :: ks, [], l, _ => by simp at l
  | p :: kvs, k :: ks, w :: vs, l, e => by
    simp only [List.map_cons, List.cons.injEq] at e
    simp only [List.length_cons, Nat.add_right_cancel_iff] at l
    have ih := look_is (kk := kk) l e.2
    rw [List.zip_cons_cons]
    by_cases q : k = kk
    · rw [valV_pos q]
      unfold lookD
      rw [List.find?_cons, e.1, q]
      simp
    · rw [valV_neg q, ih]
      unfold lookD
      rw [List.find?_cons, e.1]
      have ne : decide (keyV (keyD k) = keyV (keyD kk)) = false := decide_eq_false fun z => q (keyD_inj z)
      rw [ne]
def dicIn : D → D → Option Bool
  | k, .dic _ kvs => if (kvs.map (·.1)).all isKeyD = true ∧ isKeyD k = true then some (lookD kvs k).isSome else none
  | _, _ => none
def ginD (k d : D) : Option D := match dicIn k d with
  | some b => some (.bl b)
  | none => inD k d
def gninD (k d : D) : Option D := match dicIn k d with
  | some b => some (.bl (!b))
  | none => ninD k d
section
variable {X : Cx} {mg : Ev} {B H : Hp} {x y : V} {d e : D} {F G : List Addr} {b : Bool}
theorem dic_get (hs : ∀ a o, B a = some o → H a = some o) (o1 : Own mg B H x d F) (o2 : Own mg B H y e G) (h : dicIn d e = some b) : ∃ a o, y = .ref a ∧ DGet H a x o ∧ o.isSome = b := by
  cases e with
  | dic oo kvs =>
    unfold dicIn at h
    dsimp only at h
    by_cases hk : (kvs.map (·.1)).all isKeyD = true ∧ isKeyD d = true
    case neg => rw [if_neg hk] at h; cases h
    rw [if_pos hk] at h
    cases h
    obtain ⟨a, ks, vs, G', rfl, rd, ek, l1, l2, _⟩ := own_dic hs o2 hk.1
    obtain ⟨kk, rfl, rfl, rfl⟩ := key_val o1 hk.2
    exact ⟨a, _, rfl, .inl ⟨_, kk, rd, rfl, rfl⟩, look_is l2 ek⟩
  | _ => simp [dicIn] at h
theorem od_gin (hu : X.A.units + 64 < cLine) : OpD X (compareOp .In) ginD := by
  intro pins s σ H x y v u Q I r1 r2 ⟨B, d, e, F, G, z, hs, o1, o2, hf, q⟩
  unfold ginD at hf
  cases hd : dicIn d e with
  | none => rw [hd] at hf; exact od_in pins s σ H x y v u Q I r1 r2 ⟨B, d, e, F, G, z, hs, o1, o2, hf, q⟩
  | some b =>
    rw [hd] at hf
    cases hf
    obtain ⟨a, o, rfl, g, rfl⟩ := dic_get hs o1 o2 hd
    cases (show u = Value.ref a from r2)
    exact d_in (by omega) I g r1 fun s3 I3 => ⟨.bl o.isSome, H, I3, rfl, q _ B H [] (New.flat hs (.atom rfl))⟩
theorem od_gnin (hu : X.A.units + 64 < cLine) : OpD X (compareOp .NotIn) gninD := by
  intro pins s σ H x y v u Q I r1 r2 ⟨B, d, e, F, G, z, hs, o1, o2, hf, q⟩
  unfold gninD at hf
  cases hd : dicIn d e with
  | none => rw [hd] at hf; exact od_nin pins s σ H x y v u Q I r1 r2 ⟨B, d, e, F, G, z, hs, o1, o2, hf, q⟩
  | some b =>
    rw [hd] at hf
    cases hf
    obtain ⟨a, o, rfl, g, rfl⟩ := dic_get hs o1 o2 hd
    cases (show u = Value.ref a from r2)
    exact d_notIn (by omega) I g r1 fun s3 I3 => ⟨.bl (!o.isSome), H, I3, rfl, q _ B H [] (New.flat hs (.atom rfl))⟩
end
end Eng
/-! Eng52: outcome rules for dicts. -/
namespace Eng
open PySem PySem.Spec PyProof.Rows L2
section
variable {ρ : Rho} {E : Exc → Rho → Prop} {Q : D → Rho → Prop} {R : D → Prop} {m mk : M D} {mc : M Bool} {d e : D} {o : Bool} {kvs : List (D × D)}
theorem w_dc {g : D → Rho → Option Rho} {vs : List Nat} {mi : M (List D)} (h : W mi ρ E fun xs ρ1 => ∃ ds ρ2, dcL g mc mk m vs xs [] (wipeR ρ1 vs) = .ok ds ρ2 ∧ Rest vs ρ1 ρ2 fun ρ3 => Q (.dic true ds) ρ3) : W (eDc g mi mc mk m vs) ρ E Q := by
  unfold W at h ⊢
  unfold eDc
  cases hi : mi ρ with
  | stuck => rw [hi] at h; exact h
  | exc x ρ1 => rw [hi] at h; exact h
  | ok xs ρ1 =>
    rw [hi] at h
    obtain ⟨ds, ρ2, e, q⟩ := h
    dsimp only
    rw [e]
    exact q
/-- no turn at all -/
theorem w_dc0 {g : D → Rho → Option Rho} {vs : List Nat} {mi : M (List D)} (h : W mi ρ E fun xs ρ1 => xs = [] ∧ Rest vs ρ1 (wipeR ρ1 vs) fun ρ3 => Q (.dic true []) ρ3) : W (eDc g mi mc mk m vs) ρ E Q :=
  w_dc (h.imp (fun _ _ h => h) fun xs ρ1 h => by
    obtain ⟨rfl, q⟩ := h
    exact ⟨[], _, rfl, q⟩)
theorem wo_gix (h : WO (idxD d e) R) (k : gixD d e = idxD d e := by rfl) : WO (gixD d e) R := by rw [k]; exact h
theorem wo_gixd (hk : (kvs.map (·.1)).all isKeyD = true) (he : isKeyD e = true) (h : WO (lookD kvs e) R) : WO (gixD (.dic o kvs) e) R := by
  unfold gixD
  dsimp only
  rw [if_pos ⟨hk, he⟩]; exact h
theorem wo_gind (hk : (kvs.map (·.1)).all isKeyD = true) (he : isKeyD e = true) (h : R (.bl (lookD kvs e).isSome)) : WO (ginD e (.dic o kvs)) R := by
  refine ⟨_, ?_, h⟩
  unfold ginD dicIn
  dsimp only
  rw [if_pos ⟨hk, he⟩]
theorem wo_gnind (hk : (kvs.map (·.1)).all isKeyD = true) (he : isKeyD e = true) (h : R (.bl (!(lookD kvs e).isSome))) : WO (gninD e (.dic o kvs)) R := by
  refine ⟨_, ?_, h⟩
  unfold gninD dicIn
  dsimp only
  rw [if_pos ⟨hk, he⟩]
theorem wo_gin (h : WO (inD e d) R) (k : dicIn e d = none := by rfl) : WO (ginD e d) R := by
  unfold ginD; rw [k]; exact h
theorem wo_gnin (h : WO (ninD e d) R) (k : dicIn e d = none := by rfl) : WO (gninD e d) R := by
  unfold gninD; rw [k]; exact h
end
end Eng
/-! Eng53: methods at no depth; a product of any size. -/
namespace Eng
open PySem PySem.Spec PyProof.Rows L2
section
variable {P : Program} {w : World} {K : PySem.W.Frag} {mg : Str → Option Value} {base : Heap} {c m q : Str} {st : Stmt} {ps : List Str} {k np : Nat}
theorem met_none (MA : MetAt K mg c m q st) (hp : ps.length = np)
    (hb : ∀ (kV doc pm : Value) (an : Option Addr) (cdv ct : Value) (us : List Value), us.length = ps.length → bindArgs (PySem.W.fnOf m q (defArgs st) (defBody st) (defScope st) .none kV doc pm an cdv ct) ⟨us, []⟩ = pure (ps.zip us)) : MetOk P w K mg base k np c m ps (fun _ => .stuck) := by
  obtain ⟨C, f, fd, e, cl, me, F⟩ := MA.ex
  refine ⟨⟨C, f, fd, e, cl, me, F.binds hb, ⟨fun vs H Q E h => by rw [hp]; exact h.1, fun A outer s H args us vs Q E hr E0 b v h => ?_⟩⟩, fun _ _ => rfl⟩
  obtain ⟨_, _, _, _, _, z⟩ := h
  exact z.elim
end
theorem uzm {k : Nat} {A : Around} {x : Option Value} (r : Room k A) : (A.mark x).units + 64 < cLine := by
  have h := uz r
  exact h
section
variable {Q : D → Prop} {i j : Int}
theorem log_wide {n : Nat} (h : n < 2 ^ 250) : n.log2 ≤ 250 := by
  by_cases z : n = 0
  · subst z; decide
  · exact Nat.le_of_lt ((Nat.log2_lt z).mpr h)
theorem wo_mulW (hi : -2 ^ 250 < i ∧ i < 2 ^ 250) (hj : -2 ^ 250 < j ∧ j < 2 ^ 250) (h : Q (.int (i * j))) : WO (mulD (.int i) (.int j)) Q := ⟨_, if_pos (by
  unfold IntMulE
  have h1 := log_wide (n := i.natAbs) (by omega)
  have h2 := log_wide (n := j.natAbs) (by omega)
  exact decide_eq_true (by omega)), h⟩
end
end Eng
/-! Eng54: the facts about classes with methods, from what the top has written. -/
namespace Eng
open PySem PySem.Spec PyProof.Rows L2
section
variable {K : PySem.W.Frag} {h : Heap} {mg : Str → Option Value} {c m q : Str} {st : Stmt} {C f : Addr} {oc : Value} {od an : Option Addr} {osl : Array (Option Value)} {kV doc pm cdv ct : Value}
theorem cls_mk (pg : PySem.W.plainGet K C Str.empty = true) (hd : PySem.W.hasDictIn K C = true) (po : PySem.W.plainOver K C = true) (sa : PySem.W.findIn K (.ref C) "__setattr__" = some (some (.builtin "object.__setattr__"))) : L2.Cls K C := ⟨pg, hd, po, sa⟩
theorem metAt_mk (X : K.In h) (G : h.Ns mainGlobals mg) (a : PySem.W.nsIn K mainGlobals c = some (some (.ref C))) (cl : L2.Cls K C) (i : PySem.W.findIn K (.ref C) m = some (some (.ref f))) (n : PySem.W.isFn K (.ref f) = true)
    (l : K.lookup f = some ⟨oc, od, .func (PySem.W.fnOf m q (defArgs st) (defBody st) (defScope st) .none kV doc pm an cdv ct), osl⟩) (cc : PySem.W.codeIn K cdv q = true) (k : PySem.W.keepIn K (.ref f) = true) : MetAt K mg c m q st :=
  ⟨⟨C, f, _, PySem.W.mg_of X G a, cl, ⟨i, n, k⟩, fun_mk l cc k⟩⟩
theorem iniAt_mk (X : K.In h) (G : h.Ns mainGlobals mg) (a : PySem.W.nsIn K mainGlobals c = some (some (.ref C))) (mk : PySem.W.makesIn K C = true) (kc : PySem.W.keepIn K (.ref C) = true) (i : PySem.W.findIn K (.ref C) "__init__" = some (some (.ref f))) (n : PySem.W.isFn K (.ref f) = true)
    (l : K.lookup f = some ⟨oc, od, .func (PySem.W.fnOf "__init__" q (defArgs st) (defBody st) (defScope st) .none kV doc pm an cdv ct), osl⟩) (cc : PySem.W.codeIn K cdv q = true) (k : PySem.W.keepIn K (.ref f) = true) : IniAt K mg c q st :=
  ⟨⟨C, f, _, PySem.W.mg_of X G a, ⟨mk, i, n, kc⟩, fun_mk l cc k⟩⟩
theorem insC_mk {fs : List Str} (X : K.In h) (G : h.Ns mainGlobals mg) (a : PySem.W.nsIn K mainGlobals c = some (some (.ref C))) (cl : L2.Cls K C) (n : ∀ g ∈ fs, PySem.W.findIn K (.ref C) g = some none) : InsC K mg c fs :=
  ⟨⟨C, PySem.W.mg_of X G a, cl, n⟩⟩
end
end Eng
/-! Eng55: the facts about own errors with a field. -/
namespace Eng
open PySem PySem.Spec PyProof.Rows L2
theorem refs_of_tail : ∀ l : List Value, PySem.W.excTail veMro l = true → PySem.HandSPX.refsVE l = true
  | [], e => by simp [PySem.W.excTail, veMro] at e
  | .ref c :: r, e => refs_of_tail r e
  | .none :: _, e => by simp [PySem.W.excTail, veMro] at e
  | .ellipsis :: _, e => by simp [PySem.W.excTail, veMro] at e
  | .notImplemented :: _, e => by simp [PySem.W.excTail, veMro] at e
  | .bool _ :: _, e => by simp [PySem.W.excTail, veMro] at e
  | .int _ _ :: _, e => by simp [PySem.W.excTail, veMro] at e
  | .float _ _ :: _, e => by simp [PySem.W.excTail, veMro] at e
  | .str _ _ :: _, e => by simp [PySem.W.excTail, veMro] at e
  | .bytes _ _ :: _, e => by simp [PySem.W.excTail, veMro] at e
  | .type _ :: _, e => e
  | .builtin _ :: _, e => by simp [PySem.W.excTail, veMro] at e
theorem oexC_mk {K : PySem.W.Frag} {C : Addr} (q : PySem.W.excInitIn K C veMro "ValueError.__new__" = true) (hd : PySem.W.hasDictIn K C = true) (sa : PySem.W.findIn K (.ref C) "__setattr__" = some (some (.builtin "object.__setattr__")))
    (exC : PySem.W.subIn K (.ref C) (.type "BaseException") = some true) (tyC : PySem.W.typeIn K (.ref C) = some (.type "type")) (kC : PySem.W.keepIn K (.ref C) = true) : OexC K C := by
  refine ⟨?_, sa, exC, tyC, kC⟩
  obtain ⟨cd0, hc0, hd0⟩ := PySem.W.any_some hd
  unfold PySem.W.excInitIn at q
  split at q
  · rename_i dd cd sl ho
    split at q
    · rename_i C' bm k0 k1 k2 k3 n k5 hm hs
      simp only [Bool.and_eq_true, beq_iff_eq, Bool.not_eq_true'] at q
      obtain ⟨⟨⟨rfl, rfl⟩, hdel⟩, ht⟩ := q
      unfold PySem.W.clsIn at hc0
      rw [ho] at hc0
      cases hc0
      obtain ⟨nm, bs, mro, ns, qn, hdc, sn, sub, ab, col, del⟩ := cd0
      dsimp only at hm hdel hd0
      subst hm hdel hd0
      have hsl : sl = #[k0, k1, k2, k3, some (.builtin "ValueError.__new__"), k5] := by
        obtain ⟨l⟩ := sl
        simp only at hs
        rw [hs]
      subst hsl
      exact ⟨nm, qn, ns, bs, bm, sn, sub, ab, col, dd, k0, k1, k2, k3, k5, ho, refs_of_tail _ ht⟩
    · cases q
  · cases q
theorem xf_mk {K : PySem.W.Frag} {mg : Str → Option Value} {sub : Str → Str → Option Bool} {hc f : Str} (ys : List (Str × Addr × Bool)) (hsub : ∀ y, sub y hc = some true → ∃ D b, (y, D, b) ∈ ys)
    (hy : ∀ t ∈ ys, mg t.1 = some (.ref t.2.1) ∧ XfC K t.2.1 ∧ PySem.W.findIn K (.ref t.2.1) f = some none) : XfAt K mg sub hc f := ⟨fun y C h1 h2 => by
  obtain ⟨D, b, m⟩ := hsub y h1
  obtain ⟨e, x, n⟩ := hy _ m
  rw [h2] at e
  cases e
  exact ⟨x, n⟩⟩
end Eng
/-! Eng56: comprehensions without changes, as maps; wide products. -/
namespace Eng
open PySem PySem.Spec PyProof.Rows L2
def Wip (vs : List Nat) (ρ : Rho) (Q : Rho → Prop) : Prop := Q (wipeR ρ vs)
theorem wip_nil {ρ : Rho} {Q : Rho → Prop} (h : Q ρ) : Wip [] ρ Q := h
theorem wip_cons {ρ : Rho} {i : Nat} {is : List Nat} {Q : Rho → Prop} (h : Put i none ρ fun ρ1 => Wip is ρ1 Q) : Wip (i :: is) ρ Q := h
/-- one element of a comprehension: its value, and nothing is changed -/
def Elt (f : D → D) (x : D) (vs : List Nat) (ρ : Rho) : D → Rho → Prop := fun d ρ3 => d = f x ∧ wipeR ρ3 vs = ρ
theorem lc_map {g : D → Rho → Option Rho} {mc : M Bool} {m : M D} {vs : List Nat} {f : D → D} {ρ : Rho} : ∀ (xs acc : List D), acc.length + xs.length < 16777216 →
    (∀ x ∈ xs, GNext g x ρ fun ρ1 => W mc ρ1 (fun _ _ => False) fun b ρ2 => Bif b (W m ρ2 (fun _ _ => False) (Elt f x vs ρ)) False) → lcL g mc m vs xs acc ρ = .ok (acc ++ xs.map f) ρ
  | [], acc, _, _ => by unfold lcL; simp
  | x :: xs, acc, hl, h => by
    obtain ⟨ρ1, e, q⟩ := h x (by simp)
    unfold lcL
    rw [e]
    dsimp only
    unfold W at q
    cases hc : mc ρ1 with
    | stuck => rw [hc] at q; exact q.elim
    | exc e ρ1 => rw [hc] at q; exact q.elim
    | ok b ρ2 =>
      rw [hc] at q
      cases b with
      | false => exact False.elim (show False from q)
      | true =>
        have q : W m ρ2 (fun _ _ => False) (Elt f x vs ρ) := q
        unfold W Elt at q
        dsimp only
        cases hm : m ρ2 with
        | stuck => rw [hm] at q; exact q.elim
        | exc e ρ1 => rw [hm] at q; exact q.elim
        | ok d ρ3 =>
          rw [hm] at q
          obtain ⟨rfl, q2⟩ := q
          simp only [List.length_cons] at hl
          dsimp only
          rw [if_pos (by omega), q2, lc_map xs (acc ++ [f x]) (by simp; omega) fun y hy => h y (by simp [hy])]
          simp
section
variable {ρ : Rho} {E : Exc → Rho → Prop} {Q : D → Rho → Prop} {mc : M Bool} {m : M D} {mi : M (List D)} {R : D → Prop}
theorem w_lcm {g : D → Rho → Option Rho} {vs : List Nat} (f : D → D) (h : W mi ρ E fun xs ρ1 => Wip vs ρ1 fun ρw => (∀ x ∈ xs, GNext g x ρw fun ρ2 => W mc ρ2 (fun _ _ => False) fun b ρ3 => Bif b (W m ρ3 (fun _ _ => False) (Elt f x vs ρw)) False) ∧ xs.length < 16777216 ∧
    Rest vs ρ1 ρw fun ρ3 => Q (.lst true (xs.map f)) ρ3) : W (eLc g mi mc m vs) ρ E Q :=
  w_lc (h.imp (fun _ _ h => h) fun xs ρ1 h => ⟨_, _, lc_map xs [] (by simpa using h.2.1) h.1, by simpa using h.2.2⟩)
theorem bls_true {α : Type} : ∀ xs : List α, blsOf (xs.map fun _ => D.bl true) = some (xs.map fun _ => true)
  | [] => rfl
  | x :: xs => by
    show (blsOf (xs.map fun _ => D.bl true)).map (true :: ·) = _
    rw [bls_true xs]; rfl
theorem all_true {α : Type} {o : Bool} (xs : List α) : allD [.lst o (xs.map fun _ => D.bl true)] = some (.bl true) := by
  show (blsOf _).map _ = _
  rw [bls_true]
  simp
theorem ints_map {α : Type} (f : α → Int) : ∀ xs : List α, intsOf (xs.map fun x => D.int (f x)) = some (xs.map f)
  | [] => rfl
  | x :: xs => by
    show (intsOf (xs.map fun x => D.int (f x))).map (f x :: ·) = _
    rw [ints_map f xs]; rfl
theorem sum_map {α : Type} {o : Bool} (f : α → Int) (xs : List α) : sumD [.lst o (xs.map fun x => D.int (f x))] = some (.int (xs.map f).sum) := by
  show (intsOf _).map _ = _
  rw [ints_map]; rfl
end
section
variable {Q : D → Prop} {i j : Int}
set_option exponentiation.threshold 1000 in
theorem log_wide2 {n : Nat} (h : n < 10 ^ 120) : n.log2 ≤ 400 := by
  by_cases z : n = 0
  · subst z; decide
  · exact Nat.le_of_lt ((Nat.log2_lt z).mpr (Nat.lt_of_lt_of_le h (by decide)))
theorem wo_mulX (hi : i.natAbs < 10 ^ 120) (hj : j.natAbs < 10 ^ 120) (h : Q (.int (i * j))) : WO (mulD (.int i) (.int j)) Q := ⟨_, if_pos (by
  unfold IntMulE
  have h1 := log_wide2 hi
  have h2 := log_wide2 hj
  exact decide_eq_true (by omega)), h⟩
set_option exponentiation.threshold 10000 in
theorem wo_fdivX (hj : 0 < j) (hb : j.natAbs < 10 ^ 120) (h : Q (.int (i / j))) : WO (fdivD (.int i) (.int j)) Q := ⟨_, if_pos ⟨hj, by
  have h0 : j.natAbs ≠ 0 := by omega
  have h1 := log_wide2 hb
  have : j.natAbs < 2 ^ 401 := (Nat.log2_lt h0).mp (by omega)
  exact (Nat.log2_lt h0).mpr (Nat.lt_of_lt_of_le this (Nat.pow_le_pow_right (by decide) (by decide)))⟩, h⟩
end
end Eng
/-! Eng57: isinstance of what is known, tests that are decided, loops over lists that are known. (a table printed by mkE57.py) -/
namespace Eng
open PySem PySem.Spec PyProof.Rows L2
theorem ib_non_int  : isiB .non "int" = some false := by
  show kitB "NoneType" "int" = _
  decide +kernel
theorem ib_non_str  : isiB .non "str" = some false := by
  show kitB "NoneType" "str" = _
  decide +kernel
theorem ib_non_bool  : isiB .non "bool" = some false := by
  show kitB "NoneType" "bool" = _
  decide +kernel
theorem ib_non_list  : isiB .non "list" = some false := by
  show kitB "NoneType" "list" = _
  decide +kernel
theorem ib_non_tuple  : isiB .non "tuple" = some false := by
  show kitB "NoneType" "tuple" = _
  decide +kernel
theorem ib_non_dict  : isiB .non "dict" = some false := by
  show kitB "NoneType" "dict" = _
  decide +kernel
theorem ib_bl_int {b : Bool} : isiB (.bl b) "int" = some true := by
  show kitB "bool" "int" = _
  decide +kernel
theorem ib_bl_str {b : Bool} : isiB (.bl b) "str" = some false := by
  show kitB "bool" "str" = _
  decide +kernel
theorem ib_bl_bool {b : Bool} : isiB (.bl b) "bool" = some true := by
  show kitB "bool" "bool" = _
  decide +kernel
theorem ib_bl_list {b : Bool} : isiB (.bl b) "list" = some false := by
  show kitB "bool" "list" = _
  decide +kernel
theorem ib_bl_tuple {b : Bool} : isiB (.bl b) "tuple" = some false := by
  show kitB "bool" "tuple" = _
  decide +kernel
theorem ib_bl_dict {b : Bool} : isiB (.bl b) "dict" = some false := by
  show kitB "bool" "dict" = _
  decide +kernel
theorem ib_int_int {i : Int} : isiB (.int i) "int" = some true := by
  show kitB "int" "int" = _
  decide +kernel
theorem ib_int_str {i : Int} : isiB (.int i) "str" = some false := by
  show kitB "int" "str" = _
  decide +kernel
theorem ib_int_bool {i : Int} : isiB (.int i) "bool" = some false := by
  show kitB "int" "bool" = _
  decide +kernel
theorem ib_int_list {i : Int} : isiB (.int i) "list" = some false := by
  show kitB "int" "list" = _
  decide +kernel
theorem ib_int_tuple {i : Int} : isiB (.int i) "tuple" = some false := by
  show kitB "int" "tuple" = _
  decide +kernel
theorem ib_int_dict {i : Int} : isiB (.int i) "dict" = some false := by
  show kitB "int" "dict" = _
  decide +kernel
theorem ib_str_int {s : List Nat} : isiB (.str s) "int" = some false := by
  show kitB "str" "int" = _
  decide +kernel
theorem ib_str_str {s : List Nat} : isiB (.str s) "str" = some true := by
  show kitB "str" "str" = _
  decide +kernel
theorem ib_str_bool {s : List Nat} : isiB (.str s) "bool" = some false := by
  show kitB "str" "bool" = _
  decide +kernel
theorem ib_str_list {s : List Nat} : isiB (.str s) "list" = some false := by
  show kitB "str" "list" = _
  decide +kernel
theorem ib_str_tuple {s : List Nat} : isiB (.str s) "tuple" = some false := by
  show kitB "str" "tuple" = _
  decide +kernel
theorem ib_str_dict {s : List Nat} : isiB (.str s) "dict" = some false := by
  show kitB "str" "dict" = _
  decide +kernel
theorem ib_lst_int {o : Bool} {xs : List D} : isiB (.lst o xs) "int" = some false := by
  show kitB "list" "int" = _
  decide +kernel
theorem ib_lst_str {o : Bool} {xs : List D} : isiB (.lst o xs) "str" = some false := by
  show kitB "list" "str" = _
  decide +kernel
theorem ib_lst_bool {o : Bool} {xs : List D} : isiB (.lst o xs) "bool" = some false := by
  show kitB "list" "bool" = _
  decide +kernel
theorem ib_lst_list {o : Bool} {xs : List D} : isiB (.lst o xs) "list" = some true := by
  show kitB "list" "list" = _
  decide +kernel
theorem ib_lst_tuple {o : Bool} {xs : List D} : isiB (.lst o xs) "tuple" = some false := by
  show kitB "list" "tuple" = _
  decide +kernel
theorem ib_lst_dict {o : Bool} {xs : List D} : isiB (.lst o xs) "dict" = some false := by
  show kitB "list" "dict" = _
  decide +kernel
theorem ib_tup_int {xs : List D} : isiB (.tup xs) "int" = some false := by
  show kitB "tuple" "int" = _
  decide +kernel
theorem ib_tup_str {xs : List D} : isiB (.tup xs) "str" = some false := by
  show kitB "tuple" "str" = _
  decide +kernel
theorem ib_tup_bool {xs : List D} : isiB (.tup xs) "bool" = some false := by
  show kitB "tuple" "bool" = _
  decide +kernel
theorem ib_tup_list {xs : List D} : isiB (.tup xs) "list" = some false := by
  show kitB "tuple" "list" = _
  decide +kernel
theorem ib_tup_tuple {xs : List D} : isiB (.tup xs) "tuple" = some true := by
  show kitB "tuple" "tuple" = _
  decide +kernel
theorem ib_tup_dict {xs : List D} : isiB (.tup xs) "dict" = some false := by
  show kitB "tuple" "dict" = _
  decide +kernel
theorem ib_dic_int {o : Bool} {kvs : List (D × D)} : isiB (.dic o kvs) "int" = some false := by
  show kitB "dict" "int" = _
  decide +kernel
theorem ib_dic_str {o : Bool} {kvs : List (D × D)} : isiB (.dic o kvs) "str" = some false := by
  show kitB "dict" "str" = _
  decide +kernel
theorem ib_dic_bool {o : Bool} {kvs : List (D × D)} : isiB (.dic o kvs) "bool" = some false := by
  show kitB "dict" "bool" = _
  decide +kernel
theorem ib_dic_list {o : Bool} {kvs : List (D × D)} : isiB (.dic o kvs) "list" = some false := by
  show kitB "dict" "list" = _
  decide +kernel
theorem ib_dic_tuple {o : Bool} {kvs : List (D × D)} : isiB (.dic o kvs) "tuple" = some false := by
  show kitB "dict" "tuple" = _
  decide +kernel
theorem ib_dic_dict {o : Bool} {kvs : List (D × D)} : isiB (.dic o kvs) "dict" = some true := by
  show kitB "dict" "dict" = _
  decide +kernel
section
variable {Q : D → Prop} {d : D} {n : String} {b : Bool} {A B : Prop} {p : Prop} {inst : Decidable p}
theorem wo_isi (h : isiB d n = some b) (q : Q (.bl b)) : WO (isiD [d, .ty n]) Q := ⟨.bl b, by show (isiB d n).map D.bl = _; rw [h]; rfl, q⟩
theorem bif_dT (h : p) (a : A) : Bif (decide p) A B := by
  unfold Bif
  rw [if_pos (decide_eq_true h)]; exact a
theorem bif_dF (h : ¬p) (a : B) : Bif (decide p) A B := by
  unfold Bif
  rw [if_neg (by simpa using h)]; exact a
end
section
variable {ρ : Rho} {R : Out → Prop} {n : MS} {g : D → Rho → Option Rho} {x : D} {xs : List D}
theorem for_nil (h : R (.nx ρ)) : R (forL g n [] ρ) := h
theorem for_cons (h : GNext g x ρ fun ρ1 => WS n ρ1 (Turn (fun ρ2 => R (forL g n xs ρ2)) R)) : R (forL g n (x :: xs) ρ) := by
  obtain ⟨ρ1, e, q⟩ := h
  unfold forL
  rw [e]
  dsimp only
  unfold WS Turn at q
  cases hb : n ρ1 <;> rw [hb] at q <;> exact q
/-! comprehensions over known lists -/
def Lcx (g : D → Rho → Option Rho) (mc : M Bool) (m : M D) (vs : List Nat) (xs acc : List D) (ρ : Rho) (K : List D → Rho → Prop) : Prop := ∃ ds ρ2, lcL g mc m vs xs acc ρ = .ok ds ρ2 ∧ K ds ρ2
theorem lcx_nil {mc : M Bool} {m : M D} {vs : List Nat} {acc : List D} {K : List D → Rho → Prop} (h : K acc ρ) : Lcx g mc m vs [] acc ρ K := ⟨acc, ρ, rfl, h⟩
theorem lcx_cons {mc : M Bool} {m : M D} {vs : List Nat} {acc : List D} {K : List D → Rho → Prop}
    (h : GNext g x ρ fun ρ1 => W mc ρ1 (fun _ _ => False) fun b ρ2 => Bif b (W m ρ2 (fun _ _ => False) fun d ρ3 => acc.length < 16777216 ∧ Wip vs ρ3 fun ρ4 => Lcx g mc m vs xs (acc ++ [d]) ρ4 K) (Wip vs ρ2 fun ρ4 => Lcx g mc m vs xs acc ρ4 K)) : Lcx g mc m vs (x :: xs) acc ρ K := by
  obtain ⟨ρ1, e, q⟩ := h
  unfold Lcx lcL
  rw [e]
  dsimp only
  unfold W at q
  cases hc : mc ρ1 with
  | stuck => rw [hc] at q; exact q.elim
  | exc e ρ1 => rw [hc] at q; exact q.elim
  | ok b ρ2 =>
    rw [hc] at q
    cases b with
    | false => exact q
    | true =>
      have q : W m ρ2 (fun _ _ => False) fun d ρ3 => acc.length < 16777216 ∧ Wip vs ρ3 fun ρ4 => Lcx g mc m vs xs (acc ++ [d]) ρ4 K := q
      unfold W at q
      dsimp only
      cases hm : m ρ2 with
      | stuck => rw [hm] at q; exact q.elim
      | exc e ρ1 => rw [hm] at q; exact q.elim
      | ok d ρ3 =>
        rw [hm] at q
        dsimp only
        rw [if_pos q.1]
        exact q.2
theorem w_lcx {mc : M Bool} {m : M D} {vs : List Nat} {mi : M (List D)} {E : Exc → Rho → Prop} {Q : D → Rho → Prop} (h : W mi ρ E fun xs ρ1 => Wip vs ρ1 fun ρ2 => Lcx g mc m vs xs [] ρ2 fun ds ρ3 => Rest vs ρ1 ρ3 fun ρ4 => Q (.lst true ds) ρ4) : W (eLc g mi mc m vs) ρ E Q := w_lc h
theorem w_dcW {mc : M Bool} {mk m : M D} {vs : List Nat} {mi : M (List D)} {E : Exc → Rho → Prop} {Q : D → Rho → Prop} (h : W mi ρ E fun xs ρ1 => xs = [] ∧ Wip vs ρ1 fun ρw => Rest vs ρ1 ρw fun ρ3 => Q (.dic true []) ρ3) : W (eDc g mi mc mk m vs) ρ E Q := w_dc0 h
theorem ws_imp {R' : Out → Prop} (h : WS n ρ R') (k : ∀ o, R' o → R o) : WS n ρ R := k _ h
end
end Eng
/-! Eng58: places within what a slot owns: paths of kids. -/
namespace Eng
open PySem PySem.Spec PyProof.Rows L2
def setV {α : Type} : List (α × D) → Nat → D → List (α × D)
  | [], _, _ => []
  | (k, _) :: r, 0, e => (k, e) :: r
  | p :: r, j + 1, e => p :: setV r j e
theorem setV_fst {α : Type} : ∀ (l : List (α × D)) (j : Nat) (e : D), (setV l j e).map (·.1) = l.map (·.1)
  | [], _, _ => rfl
  | (k, _) :: r, 0, e => rfl
  | p :: r, j + 1, e => by simp [setV, setV_fst r j e]
theorem setV_snd {α : Type} : ∀ (l : List (α × D)) (j : Nat) (e : D), (setV l j e).map (·.2) = (l.map (·.2)).set j e
  | [], _, _ => rfl
  | (k, _) :: r, 0, e => rfl
  | p :: r, j + 1, e => by simp [setV, setV_snd r j e]
theorem setV_len {α : Type} (l : List (α × D)) (j : Nat) (e : D) : (setV l j e).length = l.length := by
  have := congrArg List.length (setV_fst l j e); simpa using this
def D.setKid : D → Nat → D → D
  | .lst o xs, j, e => .lst o (xs.set j e)
  | .tup xs, j, e => .tup (xs.set j e)
  | .dic o kvs, j, e => .dic o (setV kvs j e)
  | .ins o c fs, j, e => .ins o c (setV fs j e)
  | d, _, _ => d
def kidAt (d : D) (j : Nat) : Option D := if (d.own || d.isTup) = true then d.kids[j]? else none
def getAt : D → List Nat → Option D
  | d, [] => some d
  | d, j :: π => match kidAt d j with
    | some k => getAt k π
    | none => none
def putAt : D → List Nat → D → D
  | _, [], e => e
  | d, j :: π, e => match kidAt d j with
    | some k => d.setKid j (putAt k π e)
    | none => d
theorem kidAt_some {d dk : D} {j : Nat} (h : kidAt d j = some dk) : d.kids[j]? = some dk ∧ (d.own = true ∨ d.isTup = true) := by
  unfold kidAt at h
  split at h
  · rename_i z; exact ⟨h, by simpa using z⟩
  · cases h
theorem getAt_snoc : ∀ (π : List Nat) (d : D) (j : Nat), getAt d (π ++ [j]) = (getAt d π).bind (kidAt · j)
  | [], d, j => by
    show (match kidAt d j with | some k => some k | none => none) = kidAt d j
    cases kidAt d j <;> rfl
  | i :: π, d, j => by
    show (match kidAt d i with | some k => getAt k (π ++ [j]) | none => none) = _
    simp only [getAt]
    cases kidAt d i with
    | none => rfl
    | some k => exact getAt_snoc π k j
theorem putAt_snoc : ∀ (π : List Nat) (d dm dk : D) (j : Nat) (e : D), getAt d π = some dm → kidAt dm j = some dk → putAt d (π ++ [j]) e = putAt d π (dm.setKid j e)
  | [], d, dm, dk, j, e, h, hk => by
    cases h
    show (match kidAt d j with | some k => d.setKid j e | none => d) = _
    rw [hk]; rfl
  | i :: π, d, dm, dk, j, e, h, hk => by
    show (match kidAt d i with | some k => d.setKid i (putAt k (π ++ [j]) e) | none => d) = (match kidAt d i with | some k => d.setKid i (putAt k π (dm.setKid j e)) | none => d)
    simp only [getAt] at h
    cases hi : kidAt d i with
    | none => rfl
    | some k =>
      rw [hi] at h
      dsimp only
      rw [putAt_snoc π k dm dk j e h hk]
theorem setKid_own (d : D) (j : Nat) (e : D) : (d.setKid j e).own = d.own := by cases d <;> rfl
theorem setKid_tup (d : D) (j : Nat) (e : D) : (d.setKid j e).isTup = d.isTup := by cases d <;> rfl
theorem setKid_kids (d : D) (j : Nat) (e : D) : (d.setKid j e).kids = d.kids.set j e := by
  cases d <;> simp [D.setKid, D.kids, setV_snd]
section
variable {mg : Ev} {B B' B1 B2 H H' H1 H2 X : Hp} {v v0 w : V} {d d0 dm dk e : D} {vs : List V} {ds : List D} {A F F' G U U' U1 : List Addr} {σ : L2.St} {ρ ρ1 : Rho} {i j : Nat} {π : List Nat}
theorem shape_setKid (h : Shape mg X v d vs A) : Shape mg X v (d.setKid j e) vs A := by
  cases v <;> cases d <;> simp only [Shape, D.setKid] at h ⊢
  · exact h
  · exact h
  · rw [setV_fst, setV_len]; exact h
  · rw [setV_fst, setV_len]; exact h
theorem owns_kid : ∀ {vs : List V} {ds : List D} {F : List Addr} (j : Nat), Owns mg B H vs ds F → ds[j]? = some dk → ∃ w F1 F2 F3, vs[j]? = some w ∧ Own mg B H w dk F2 ∧ F = F1 ++ (F2 ++ F3) ∧
    ∀ (B2 H2 : Hp) (d2 : D) (G2 : List Addr), (∀ a o, B a = some o → B2 a = some o) → (∀ x ∈ F1 ++ F3, H2 x = H x) → Own mg B2 H2 w d2 G2 → Owns mg B2 H2 vs (ds.set j d2) (F1 ++ (G2 ++ F3))
  | _, _, _, j, .nil, h => by simp at h
  | _, _, _, 0, .cons (v := w) (F := F) (G := G) a b, h => by
    simp at h; subst h
    exact ⟨w, [], F, G, rfl, a, rfl, fun B2 H2 d2 G2 hB hH o => by
      rw [List.nil_append]
      exact .cons o (b.mono hB fun x hx => hH x (by simpa using hx))⟩
  | _, _, _, j + 1, .cons (v := w) (F := F) (G := G) a b, h => by
    obtain ⟨w', F1, F2, F3, e1, o1, e2, re⟩ := owns_kid j b (by simpa using h)
    refine ⟨w', F ++ F1, F2, F3, by simpa using e1, o1, by rw [e2, List.append_assoc], fun B2 H2 d2 G2 hB hH o => ?_⟩
    rw [List.append_assoc]
    exact .cons (a.mono hB fun x hx => hH x (by simp [hx])) (re B2 H2 d2 G2 hB (fun x hx => hH x (by simp at hx ⊢; rcases hx with z | z <;> simp [z])) o)
/-- the place of a datum within what stands in a slot -/
structure Foc (mg : Ev) (B H : Hp) (v0 : V) (d0 : D) (F : List Addr) (π : List Nat) (v : V) (d : D) (F' : List Addr) : Prop where
  at_ : getAt d0 π = some d
  own : Own mg B H v d F'
  re : ∃ C, F.Perm (F' ++ C) ∧ ∀ (B2 H2 : Hp) (d2 : D) (G2 : List Addr), (∀ a o, B a = some o → B2 a = some o) → (∀ x ∈ C, H2 x = H x) → Own mg B2 H2 v d2 G2 → ∃ G', Own mg B2 H2 v0 (putAt d0 π d2) G' ∧ G'.Perm (G2 ++ C)
theorem Foc.start (o : Own mg B H v d F) : Foc mg B H v d F [] v d F := ⟨rfl, o, [], by simp, fun B2 H2 d2 G2 _ _ o2 => ⟨G2, o2, by simp⟩⟩
theorem Foc.kid (f : Foc mg B H v0 d0 F π v dm F') (hk : kidAt dm j = some dk) :
    ∃ vs A w F'', Shape mg (cond dm.own H B) v dm vs A ∧ vs.length = dm.kids.length ∧ vs[j]? = some w ∧ Foc mg B H v0 d0 F (π ++ [j]) w dk F'' := by
  obtain ⟨hk1, hk2⟩ := kidAt_some hk
  obtain ⟨C, pm, re⟩ := f.re
  have at2 : getAt d0 (π ++ [j]) = some dk := by rw [getAt_snoc, f.at_]; exact hk
  have ps : ∀ d2, putAt d0 (π ++ [j]) d2 = putAt d0 π (dm.setKid j d2) := fun d2 => putAt_snoc π d0 dm dk j d2 f.at_ hk
  have own := f.own
  cases own with
  | atom h =>
    rw [atom_kids h] at hk1; simp at hk1
  | fro ho s t hz =>
    rename_i vs A
    have ht : dm.isTup = true := by
      rcases hk2 with z | z
      · rw [ho] at z; cases z
      · exact z
    obtain ⟨w, F1, F2, F3, e1, o1, e2, re2⟩ := owns_kid j t hk1
    refine ⟨vs, A, w, F2, by rw [ho]; exact s, t.len, e1, at2, o1, F1 ++ F3 ++ C, ?_, fun B2 H2 d2 G2 hB hH o2 => ?_⟩
    · refine pm.trans ?_
      rw [e2]
      exact List.perm_iff_count.mpr fun a => by simp only [List.count_append]; omega
    · have t2 := re2 B2 H2 d2 G2 hB (fun x hx => hH x (by simp at hx ⊢; rcases hx with z | z <;> simp [z])) o2
      have on : Own mg B2 H2 v (dm.setKid j d2) (F1 ++ (G2 ++ F3)) := .fro (by rw [setKid_own]; exact ho) ((shape_setKid s).mono hB) (by rw [setKid_kids]; exact t2) (fun z => by rw [setKid_tup, ht] at z; cases z)
      obtain ⟨G', o', p'⟩ := re B2 H2 _ _ hB (fun x hx => hH x (by simp [hx])) on
      exact ⟨G', by rw [ps]; exact o', p'.trans (List.perm_iff_count.mpr fun a => by simp only [List.count_append]; omega)⟩
  | own ho s t =>
    rename_i vs A F0
    obtain ⟨w, F1, F2, F3, e1, o1, e2, re2⟩ := owns_kid j t hk1
    refine ⟨vs, A, w, F2, by rw [ho]; exact s, t.len, e1, at2, o1, A ++ F1 ++ F3 ++ C, ?_, fun B2 H2 d2 G2 hB hH o2 => ?_⟩
    · refine pm.trans ?_
      rw [e2]
      exact List.perm_iff_count.mpr fun a => by simp only [List.count_append]; omega
    · have t2 := re2 B2 H2 d2 G2 hB (fun x hx => hH x (by simp at hx ⊢; rcases hx with z | z <;> simp [z])) o2
      have on : Own mg B2 H2 v (dm.setKid j d2) (A ++ (F1 ++ (G2 ++ F3))) := .own (by rw [setKid_own]; exact ho) ((shape_setKid s).at (by rw [setKid_own]; exact ho) fun a ha => hH a (by simp [ha])) (by rw [setKid_kids]; exact t2)
      obtain ⟨G', o', p'⟩ := re B2 H2 _ _ hB (fun x hx => hH x (by simp [hx])) on
      exact ⟨G', by rw [ps]; exact o', p'.trans (List.perm_iff_count.mpr fun a => by simp only [List.count_append]; omega)⟩
theorem Foc.mono (f : Foc mg B H v0 d0 F π v d F') (hB : ∀ a o, B a = some o → B' a = some o) (hH : ∀ x ∈ F, H' x = H x) : Foc mg B' H' v0 d0 F π v d F' := by
  obtain ⟨C, pm, re⟩ := f.re
  exact ⟨f.at_, f.own.mono hB fun x hx => hH x (pm.mem_iff.mpr (by simp [hx])), C, pm, fun B2 H2 d2 G2 hB2 hH2 o2 => re B2 H2 d2 G2 (fun a o h => hB2 a o (hB a o h)) (fun x hx => by rw [hH2 x hx]; exact hH x (pm.mem_iff.mpr (by simp [hx]))) o2⟩
end
end Eng
/-! Eng59: where an expression points within a slot; what stands there is changed. -/
namespace Eng
open PySem PySem.Spec PyProof.Rows L2
def getR (i : Nat) (π : List Nat) (ρ : Rho) : Option D := match ρ[i]? with
  | some (some d) => getAt d π
  | _ => none
def putR (i : Nat) (π : List Nat) (e : D) (ρ : Rho) : Rho := match ρ[i]? with
  | some (some d) => ρ.set i (some (putAt d π e))
  | _ => ρ
theorem getR_some {i : Nat} {π : List Nat} {ρ : Rho} {dm : D} (h : getR i π ρ = some dm) : ∃ d, ρ[i]? = some (some d) ∧ getAt d π = some dm := by
  unfold getR at h
  split at h
  · exact ⟨_, by assumption, h⟩
  · cases h
section
variable {mg : Ev} {B B' B1 H H' H1 : Hp} {v : V} {d0 dm : D} {F F' G U U' U1 : List Addr} {σ : L2.St} {ρ ρ1 : Rho} {i : Nat} {π : List Nat} {alt : Bool} {r : Rel mg}
structure Loc (mg : Ev) (B H : Hp) (σ : L2.St) (ρ : Rho) (U : List Addr) (i : Nat) (π : List Nat) (v : V) (dm : D) : Prop where
  ex : ∃ v0 d0 G U' F', σ[i]? = some (some v0) ∧ ρ[i]? = some (some d0) ∧ Own mg B H v0 d0 G ∧ Sep B G U' ∧ Sta mg B H σ (ρ.set i none) U' ∧ (∀ a, a ∈ U ↔ a ∈ G ∨ a ∈ U') ∧ Foc mg B H v0 d0 G π v dm F'
theorem Loc.mono (l : Loc mg B H σ ρ U i π v dm) (s : Step B H [] B' H' []) : Loc mg B' H' σ ρ U i π v dm := by
  obtain ⟨v0, d0, G, U', F', e1, e2, o, sp, st, mem, f⟩ := l.ex
  refine ⟨v0, d0, G, U', F', e1, e2, o.step s fun _ _ h => absurd h (by simp), sp.step o.there (s.none_of (U := U')), st.stepN s, mem, f.mono s.bs fun x hx => s.keep x (o.there x hx) (by simp)⟩
theorem Loc.own (l : Loc mg B H σ ρ U i π v dm) : ∃ F, Own mg B H v dm F := by
  obtain ⟨v0, d0, G, U', F', e1, e2, o, sp, st, mem, f⟩ := l.ex
  exact ⟨F', f.own⟩
theorem loc_slot (st : Sta mg B H σ ρ U) (h : ρ[i]? = some (some d0)) : ∃ v, σ[i]? = some (some v) ∧ Loc mg B H σ ρ U i [] v d0 := by
  obtain ⟨v, F, U', e, o, sp, st', mem⟩ := st.take h
  exact ⟨v, e, v, d0, F, U', F, e, h, o, sp, st', mem, Foc.start o⟩
theorem Loc.kid {j : Nat} {dk : D} (l : Loc mg B H σ ρ U i π v dm) (hk : kidAt dm j = some dk) :
    ∃ vs A w, Shape mg (cond dm.own H B) v dm vs A ∧ vs.length = dm.kids.length ∧ vs[j]? = some w ∧ Loc mg B H σ ρ U i (π ++ [j]) w dk := by
  obtain ⟨v0, d0, G, U', F', e1, e2, o, sp, st, mem, f⟩ := l.ex
  obtain ⟨vs, A, w, F'', s, ln, e, f2⟩ := f.kid hk
  exact ⟨vs, A, w, s, ln, e, v0, d0, G, U', F'', e1, e2, o, sp, st, mem, f2⟩
/-- what stands at a place is changed -/
theorem mut_path (p : Post mg alt true B H σ ρ U ρ1 r B1 H1 U1 F) (l : Loc mg B1 H1 σ ρ1 U1 i π v dm) :
    ∃ Gm, Own mg B1 H1 v dm Gm ∧ Gm.Nodup ∧ (∀ x ∈ Gm, x ∉ F) ∧ (∀ x ∈ F, x ∉ Gm) ∧ (∀ x ∈ Gm, B1 x = none) ∧
      ∀ (H2 : Hp) (d2 : D) (G2 : List Addr) (w : V) (e : D) (Fr : List Addr), (∀ x, x ∉ Gm → H2 x = H1 x) → Own mg B1 H2 v d2 G2 → Own mg B1 H2 w e Fr → (∀ x ∈ G2 ++ Fr, x ∈ Gm ∨ x ∈ F) → (G2 ++ Fr).Nodup →
        ∃ U2, Post mg true true B H σ ρ U (putR i π d2 ρ1) (oV mg w e) B1 H2 U2 Fr := by
  obtain ⟨v0, d0, G, U', F', e0, hi, o0, sp, st', mem, f⟩ := l.ex
  obtain ⟨k, n⟩ := p.sep rfl
  obtain ⟨C, pm, re⟩ := f.re
  have thF := r.there p.own
  have hlt : i < ρ1.length := (List.getElem?_eq_some_iff.mp hi).1
  have inG : ∀ x, x ∈ G ↔ x ∈ F' ∨ x ∈ C := fun x => by rw [pm.mem_iff, List.mem_append]
  have ndG := List.nodup_append.mp (pm.nodup_iff.mp sp.nd)
  have dG : ∀ x ∈ G, x ∉ F := fun x hx hf => k.dj x hf ((mem x).mpr (.inl hx))
  refine ⟨F', f.own, ndG.1, fun x hx => dG x ((inG x).mpr (.inl hx)), fun x hf hx => dG x ((inG x).mpr (.inl hx)) hf, fun x hx => sp.off x ((inG x).mpr (.inl hx)), fun H2 d2 Gm2 w e Fr hk om ow hsub hnd => ?_⟩
  obtain ⟨G2, o2, p2⟩ := re B1 H2 d2 Gm2 (fun _ _ h => h) (fun x hx => hk x fun z => ndG.2.2 x z x hx rfl) om
  have in2 : ∀ x, x ∈ G2 ↔ x ∈ Gm2 ∨ x ∈ C := fun x => by rw [p2.mem_iff, List.mem_append]
  have hkG : ∀ x, x ∉ G → H2 x = H1 x := fun x hx => hk x fun z => hx ((inG x).mpr (.inl z))
  have hsubG : ∀ x ∈ G2 ++ Fr, x ∈ G ∨ x ∈ F := fun x hx => by
    rcases List.mem_append.mp hx with hx | hx
    · rcases (in2 x).mp hx with z | z
      · exact (hsub x (by simp [z])).imp (fun y => (inG x).mpr (.inl y)) id
      · exact .inl ((inG x).mpr (.inr z))
    · exact (hsub x (by simp [hx])).imp (fun y => (inG x).mpr (.inl y)) id
  have ndm := List.nodup_append.mp hnd
  have cOut : ∀ x ∈ C, ∀ y, (y ∈ Gm2 ∨ y ∈ Fr) → x ≠ y := fun x hx y hy e => by
    subst e
    rcases hsub x (by rcases hy with z | z <;> simp [z]) with z | z
    · exact ndG.2.2 x z x hx rfl
    · exact dG x ((inG x).mpr (.inr hx)) z
  have nd2 : (G2 ++ Fr).Nodup := by
    refine List.nodup_append.mpr ⟨p2.nodup_iff.mpr (List.nodup_append.mpr ⟨ndm.1, ndG.2.1, fun x hx y hy e => cOut y hy x (.inl hx) e.symm⟩), ndm.2.1, fun x hx y hy e => ?_⟩
    rcases (in2 x).mp hx with z | z
    · exact ndm.2.2 x z y hy e
    · exact cOut x z y (.inr hy) e
  have hsubB : ∀ a o, B1 a = some o → H2 a = some o := fun a o h => by
    rw [hkG a fun z => by rw [sp.off a z] at h; cases h]
    exact p.st.sub a o h
  have st1 : Step B1 H1 G B1 H2 [] := ⟨hsubB, fun _ _ h => h, fun a _ x => hkG a x, fun _ h => absurd h (by simp), fun _ h => .inl h⟩
  have st2 := st'.step st1 fun a x y => sp.dj a y x
  have nd3 := List.nodup_append.mp nd2
  have gU : ∀ x ∈ G, x ∈ U1 := fun x h => (mem x).mpr (.inl h)
  have offG : ∀ x, x ∈ G ∨ x ∈ F → B1 x = none := fun x h => h.elim (sp.off x) (k.off x)
  have djU : ∀ x, x ∈ G ∨ x ∈ F → x ∉ U' := fun x h y => h.elim (fun h => sp.dj x h y) (fun h => k.dj x h ((mem x).mpr (.inr y)))
  have sp2 : Sep B1 G2 U' := ⟨nd3.1, fun x h => djU x (hsubG x (by simp [h])), fun x h => offG x (hsubG x (by simp [h]))⟩
  obtain ⟨U'', st3, sub3⟩ := st2.put (i := i) (by simpa using hlt) o2 sp2
  rw [set_self e0, List.set_set] at st3
  have newF : ∀ x ∈ F, x ∈ U ∨ H x = none := n
  have newG : ∀ x ∈ U1, x ∈ U ∨ H x = none := p.step.new
  have ep : putR i π d2 ρ1 = ρ1.set i (some (putAt d0 π d2)) := by
    unfold putR; rw [hi]
  rw [ep]
  refine ⟨G2 ++ U'', st3, ow, fun _ => ⟨⟨nd3.2.1, fun x h y => ?_, fun x h => offG x (hsubG x (by simp [h]))⟩, fun x h => ?_⟩, ?_, fun h => by cases h⟩
  · rcases List.mem_append.mp y with y | y
    · exact nd3.2.2 x y x h rfl
    · exact djU x (hsubG x (by simp [h])) (sub3 x y)
  · rcases hsubG x (by simp [h]) with z | z
    · exact newG x (gU x z)
    · exact newF x z
  · refine ⟨hsubB, p.step.bs, fun x hx hn => ?_, fun x h => ?_, p.step.bnew⟩
    · have e1 := p.step.keep x hx hn
      rw [hkG x, e1]
      intro z
      rcases newG x (gU x z) with y | y
      · exact hn y
      · exact hx y
    · rcases List.mem_append.mp h with h | h
      · rcases hsubG x (by simp [h]) with z | z
        · exact newG x (gU x z)
        · exact newF x z
      · exact newG x ((mem x).mpr (.inr (sub3 x h)))
end
/-! ### expressions that point -/
abbrev MP := Rho → Option (List Nat)
def tPath (mg : Ev) (i : Nat) (mp : MP) : TE := fun σ H Q => ∃ B ρ U, Sta mg B H σ ρ U ∧ ∃ π dm, mp ρ = some π ∧ getR i π ρ = some dm ∧
  ∀ v B' H', Sta mg B' H' σ ρ U → Step B H [] B' H' [] → Loc mg B' H' σ ρ U i π v dm → Q v H'
def PP (X : Cx) (i : Nat) (e : Expr) (mp : MP) : Prop := PE X e (tPath X.ev i mp)
def pN : MP := fun _ => some []
/-- the kid that an item names -/
def keyIx (kvs : List (D × D)) (k : D) : Option Nat := kvs.findIdx? fun p => decide (keyV p.1 = keyV k)
def kidIx : D → D → Option Nat
  | .lst true xs, .int k => ixN xs.length k
  | .tup xs, .int k => ixN xs.length k
  | .dic true kvs, k => if (kvs.map (·.1)).all isKeyD = true ∧ isKeyD k = true then keyIx kvs k else none
  | _, _ => none
def pIx (i : Nat) (mp : MP) (mk : M D) : MP := fun ρ => match mp ρ with
  | some π => (match getR i π ρ, mk ρ with
    | some dm, .ok k _ => (kidIx dm k).map fun j => π ++ [j]
    | _, _ => none)
  | none => none
def fldIx (fs : List (Str × D)) (f : Str) : Option Nat := fs.findIdx? fun p => p.1 == f
def pFld (i : Nat) (mp : MP) (c f : Str) : MP := fun ρ => match mp ρ with
  | some π => (match getR i π ρ with
    | some (.ins true c' fs) => if c' = c then (fldIx fs f).map fun j => π ++ [j] else none
    | _ => none)
  | none => none
section
variable {X : Cx} {W : WX} {kp : List Nat} {alt sep a1 s1 : Bool} {i : Nat} {e ea eb : Expr} {m mb : M D} {mp : MP} {x : Str} {pos apos cpos : Pos}
theorem p_name (i : Nat) (hN : X.N[i]? = some x := by rfl) (hv : Vis X.env.scope x := by first | exact Or.inl rfl | exact Or.inr (Or.inl rfl) | exact Or.inr (Or.inr rfl)) (hd : (x == ("__debug__" : Str)) = false := by decide)
    (hcd : (x == ("__classdict__" : Str)) = false := by decide) : PP X i (.Name x pos) pN := PE.weak (pe_var (i := i) hN hv hd hcd) fun σ H Q ⟨B, ρ, U, st, π, dm, h1, h2, k⟩ => by
  cases h1
  obtain ⟨d, hr, hd⟩ := getR_some h2
  cases hd
  obtain ⟨v, e, l⟩ := loc_slot st hr
  exact ⟨v, e, k v B H st (Step.refl st.sub) l⟩
theorem lookup_idx {α : Type} : ∀ {fs : List (Str × α)} {f : Str} {j : Nat}, (fs.findIdx? fun p => p.1 == f) = some j → ∃ p, fs[j]? = some p ∧ fs.lookup f = some p.2
  | [], _, _, h => by simp at h
  | q :: fs, f, j, h => by
    rw [List.findIdx?_cons] at h
    by_cases e : q.1 == f
    · rw [if_pos e] at h; cases h
      refine ⟨q, rfl, ?_⟩
      rw [List.lookup_cons]
      have : f == q.1 := by
        have := beq_iff_eq.mp e
        exact beq_iff_eq.mpr this.symm
      rw [this]
    · rw [if_neg e] at h
      cases z : (fs.findIdx? fun p => p.1 == f) with
      | none => rw [z] at h; cases h
      | some j' =>
        rw [z] at h; cases h
        obtain ⟨p, h1, h2⟩ := lookup_idx z
        refine ⟨p, by simpa using h1, ?_⟩
        rw [List.lookup_cons]
        have : (f == q.1) = false := by
          cases w : (f == q.1) with
          | false => rfl
          | true => exact absurd (beq_iff_eq.mpr (beq_iff_eq.mp w).symm) e
        rw [this]; exact h2
/-- e.f -/
theorem p_fld {c f : Str} {gs : List Str} (hc : InsC X.K X.mg c gs) (h : PP X i e mp) (hf : f ∈ gs := by decide) (hb : attributeBase e f X.env (eval e X.env) = eval e X.env := by rfl) : PP X i (.Attribute e f pos) (pFld i mp c f) := PE.weak (pe_fld h hb) fun σ H Q ⟨B, ρ, U, st, π, dm, h1, h2, k⟩ => by
  unfold pFld at h1
  split at h1
  · rename_i π0 hm0
    split at h1
    · rename_i c' fs hg
      split at h1
      · rename_i ec
        subst ec
        cases hj : fldIx fs f with
        | none => rw [hj] at h1; cases h1
        | some j =>
          rw [hj] at h1; cases h1
          refine ⟨B, ρ, U, st, π0, _, hm0, hg, fun v B' H' st' sp l => ?_⟩
          obtain ⟨p, hp1, hp2⟩ := lookup_idx hj
          have hk : kidAt (.ins true c' fs) j = some p.2 := by
            show (fs.map (·.2))[j]? = _
            rw [List.getElem?_map, hp1]; rfl
          obtain ⟨d0, hr0, hd0⟩ := getR_some h2
          obtain ⟨d1, hr1, hd1⟩ := getR_some hg
          rw [hr0] at hr1; cases hr1
          rw [getAt_snoc, hd1] at hd0
          have hd0 : kidAt (.ins true c' fs) j = some dm := hd0
          rw [hk] at hd0; cases hd0
          obtain ⟨vs, A, w, s, ln, e1, l2⟩ := l.kid hk
          obtain ⟨C, hC, cl, na⟩ := hc.ex
          cases v <;> simp only [Shape] at s
          rename_i a
          obtain ⟨C', dx, s1, s2, s3, s4, s5⟩ := s
          have eC : C' = C := by
            have := s3.symm.trans hC
            cases this; rfl
          subst eC
          refine ⟨a, C', dx, _, w, rfl, s1, cl, na f hf, ?_, k w B' H' st' sp l2⟩
          have hz : ((fs.map (·.1)).zip vs).findIdx? (fun p => p.1 == f) = some j := by
            have : ∀ (fs : List (Str × D)) (vs : List V), vs.length = fs.length → ((fs.map (·.1)).zip vs).findIdx? (fun p => p.1 == f) = fs.findIdx? (fun p => p.1 == f) := by
              intro fs
              induction fs with
              | nil => intro vs _; simp
              | cons q fs ih =>
                intro vs hl
                cases vs with
                | nil => cases hl
                | cons y vs =>
                  simp only [List.map_cons, List.zip_cons_cons, List.findIdx?_cons]
                  rw [ih vs (by simpa using hl)]
            rw [this fs vs s4]; exact hj
          obtain ⟨p2, hp3, hp4⟩ := lookup_idx hz
          rw [hp4]
          have : (fs.map (·.1)).zip vs = (fs.map (·.1)).zip vs := rfl
          have hw : p2.2 = w := by
            have e2 := List.getElem?_zip_eq_some.mp hp3
            have := e2.2
            rw [e1] at this
            exact (Option.some.inj this).symm
          rw [hw]
      · cases h1
    · cases h1
  · cases h1
end
end Eng
/-! Eng60: outcome rules as instances (printed by mkE60.py). -/
namespace Eng
open PySem PySem.Spec PyProof.Rows L2
class Stp (P : Prop) (Q : outParam Prop) : Prop where
 imp : Q → P
instance i_w_pk {ρ : Rho} {E : Exc → Rho → Prop} {Q : D → Rho → Prop} {i : Nat} : Stp (W (ePk i) ρ E Q) (Get i ρ fun d => Q d ρ) := ⟨fun h => w_pk h⟩
instance i_w_k {ρ : Rho} {E : Exc → Rho → Prop} {Q : D → Rho → Prop} {d : D} : Stp (W (eK d) ρ E Q) (Q d ρ) := ⟨fun h => w_k h⟩
instance i_w_op {ρ : Rho} {E : Exc → Rho → Prop} {Q : D → Rho → Prop} {ma mb : M D} {f : D → D → Option D} : Stp (W (eOp f ma mb) ρ E Q) (W ma ρ E fun a ρ1 => W mb ρ1 E fun b ρ2 => WO (f a b) fun c => Q c ρ2) := ⟨fun h => w_op h⟩
instance i_w_lcons {ρ : Rho} {E : Exc → Rho → Prop} {QL : List D → Rho → Prop} {m : M D} {ms : M (List D)} : Stp (W (lCons m ms) ρ E QL) (W m ρ E fun d ρ1 => W ms ρ1 E fun ds ρ2 => QL (d :: ds) ρ2) := ⟨fun h => w_lcons h⟩
instance i_w_lnil {ρ : Rho} {E : Exc → Rho → Prop} {QL : List D → Rho → Prop} : Stp (W lNil ρ E QL) (QL [] ρ) := ⟨fun h => w_lnil h⟩
instance i_w_fn {ρ : Rho} {E : Exc → Rho → Prop} {Q : D → Rho → Prop} {ms : M (List D)} {f : List D → Option D} : Stp (W (eFn f ms) ρ E Q) (W ms ρ E fun a ρ1 => WO (f a) fun c => Q c ρ1) := ⟨fun h => w_fn h⟩
instance i_w_set {ρ : Rho} {R : Out → Prop} {m : M D} {i : Nat} : Stp (WS (sSet i m) ρ R) (W m ρ (fun e ρ1 => R (.exc e ρ1)) fun d ρ1 => Put i (some d) ρ1 fun ρ2 => R (.nx ρ2)) := ⟨fun h => w_set h⟩
instance i_w_ret {ρ : Rho} {R : Out → Prop} {m : M D} : Stp (WS (sRet m) ρ R) (W m ρ (fun e ρ1 => R (.exc e ρ1)) fun d ρ1 => R (.rt d ρ1)) := ⟨fun h => w_ret h⟩
instance i_w_sex {ρ : Rho} {R : Out → Prop} {m : M D} : Stp (WS (sEx m) ρ R) (W m ρ (fun e ρ1 => R (.exc e ρ1)) fun d ρ1 => R (.nx ρ1)) := ⟨fun h => w_sex h⟩
instance i_w_sif {ρ : Rho} {R : Out → Prop} {mc : M Bool} {n n' : MS} : Stp (WS (sIf mc n n') ρ R) (W mc ρ (fun e ρ1 => R (.exc e ρ1)) fun b ρ1 => Bif b (WS n ρ1 R) (WS n' ρ1 R)) := ⟨fun h => w_sif h⟩
instance i_w_mb {ρ : Rho} {E : Exc → Rho → Prop} {QB : Bool → Rho → Prop} {m : M D} : Stp (W (mB m) ρ E QB) (W m ρ E fun d ρ1 => IsBl d fun b => QB b ρ1) := ⟨fun h => w_mb h⟩
instance i_w_mand {ρ : Rho} {E : Exc → Rho → Prop} {QB : Bool → Rho → Prop} {mc md : M Bool} : Stp (W (mAnd mc md) ρ E QB) (W mc ρ E fun b ρ1 => Bif b (W md ρ1 E QB) (QB false ρ1)) := ⟨fun h => w_mand h⟩
instance i_w_mor {ρ : Rho} {E : Exc → Rho → Prop} {QB : Bool → Rho → Prop} {mc md : M Bool} : Stp (W (mOr mc md) ρ E QB) (W mc ρ E fun b ρ1 => Bif b (QB true ρ1) (W md ρ1 E QB)) := ⟨fun h => w_mor h⟩
instance i_w_not {ρ : Rho} {E : Exc → Rho → Prop} {QB : Bool → Rho → Prop} {mc : M Bool} : Stp (W (mNot mc) ρ E QB) (W mc ρ E fun b ρ1 => QB (!b) ρ1) := ⟨fun h => w_not h⟩
instance i_w_bo {ρ : Rho} {E : Exc → Rho → Prop} {Q : D → Rho → Prop} {mc : M Bool} : Stp (W (eBo mc) ρ E Q) (W mc ρ E fun b ρ1 => Q (.bl b) ρ1) := ⟨fun h => w_bo h⟩
instance i_w_if {ρ : Rho} {E : Exc → Rho → Prop} {Q : D → Rho → Prop} {ma mb : M D} {mc : M Bool} : Stp (W (eIf mc ma mb) ρ E Q) (W mc ρ E fun b ρ1 => Bif b (W ma ρ1 E Q) (W mb ρ1 E Q)) := ⟨fun h => w_if h⟩
instance i_w_fz {ρ : Rho} {E : Exc → Rho → Prop} {Q : D → Rho → Prop} {m : M D} : Stp (W (eFz m) ρ E Q) (W m ρ E fun d ρ1 => IsFz d (Q d ρ1)) := ⟨fun h => w_fz h⟩
instance i_w_un {ρ : Rho} {E : Exc → Rho → Prop} {Q : D → Rho → Prop} {m : M D} {f : D → Option D} : Stp (W (eUn f m) ρ E Q) (W m ρ E fun a ρ1 => WO (f a) fun c => Q c ρ1) := ⟨fun h => w_un h⟩
instance i_w_lst {ρ : Rho} {E : Exc → Rho → Prop} {Q : D → Rho → Prop} {ms : M (List D)} : Stp (W (eLst ms) ρ E Q) (W ms ρ E fun ds ρ1 => ds.length ≤ 100000 ∧ Q (.lst true ds) ρ1) := ⟨fun h => w_lst h⟩
instance i_w_tup {ρ : Rho} {E : Exc → Rho → Prop} {Q : D → Rho → Prop} {ms : M (List D)} : Stp (W (eTup ms) ρ E Q) (W ms ρ E fun ds ρ1 => ds.length ≤ 100000 ∧ Q (.tup ds) ρ1) := ⟨fun h => w_tup h⟩
instance i_w_mt {ρ : Rho} {E : Exc → Rho → Prop} {Q : D → Rho → Prop} {m : M D} {ms : M (List D)} {f : List Nat → List D → Option D} : Stp (W (eMt f m ms) ρ E Q) (W m ρ E fun d ρ1 => ∃ s, d = .str s ∧ W ms ρ1 E fun ds ρ2 => WO (f s ds) fun c => Q c ρ2) := ⟨fun h => w_mt h⟩
instance i_w_onone {ρ : Rho} {E : Exc → Rho → Prop} {QO : Option Int → Rho → Prop} : Stp (W oNone ρ E QO) (QO none ρ) := ⟨fun h => w_onone h⟩
instance i_w_osome {ρ : Rho} {E : Exc → Rho → Prop} {QO : Option Int → Rho → Prop} {m : M D} : Stp (W (oSome m) ρ E QO) (W m ρ E fun d ρ1 => ∃ i, d = .int i ∧ QO (some i) ρ1) := ⟨fun h => w_osome h⟩
instance i_w_sl {ρ : Rho} {E : Exc → Rho → Prop} {Q : D → Rho → Prop} {m : M D} {lo hi : M (Option Int)} : Stp (W (eSl m lo hi) ρ E Q) (W m ρ E fun d ρ1 => W lo ρ1 E fun l ρ2 => W hi ρ2 E fun u ρ3 => WO (slD d l u) fun c => Q c ρ3) := ⟨fun h => w_sl h⟩
instance i_w_mov {ρ : Rho} {E : Exc → Rho → Prop} {Q : D → Rho → Prop} {i : Nat} : Stp (W (eMov i) ρ E Q) (Get i ρ fun d => Put i none ρ fun ρ1 => Q d ρ1) := ⟨fun h => w_mov h⟩
instance i_w_yes {ρ : Rho} {E : Exc → Rho → Prop} {QB : Bool → Rho → Prop} : Stp (W mYes ρ E QB) (QB true ρ) := ⟨fun h => w_yes h⟩
instance i_s_seq {ρ : Rho} {R : Out → Prop} {n n' : MS} : Stp (WS (sSeq n n') ρ R) (WS n ρ (Then n' R)) := ⟨fun h => s_seq h⟩
instance i_th_nx {ρ : Rho} {R : Out → Prop} {n : MS} : Stp (Then n R (.nx ρ)) (WS n ρ R) := ⟨fun h => th_nx h⟩
instance i_th_rt {ρ : Rho} {R : Out → Prop} {n : MS} {d : D} : Stp (Then n R (.rt d ρ)) (R (.rt d ρ)) := ⟨fun h => th_rt h⟩
instance i_w_next {ρ : Rho} {R : Out → Prop} : Stp (WS sNext ρ R) (R (.nx ρ)) := ⟨fun h => w_next h⟩
instance i_w_aug {ρ : Rho} {R : Out → Prop} {m : M D} {i : Nat} {f : D → D → Option D} : Stp (WS (sAug i f m) ρ R) (GetF i ρ fun a => W m ρ (fun e ρ1 => R (.exc e ρ1)) fun b ρ1 => WO (f a b) fun c => Put i (some c) ρ1 fun ρ2 => R (.nx ρ2)) := ⟨fun h => w_aug h⟩
instance i_w_app {ρ : Rho} {E : Exc → Rho → Prop} {Q : D → Rho → Prop} {m : M D} {i : Nat} : Stp (W (eApp i m) ρ E Q) (GetL i ρ fun _ => W m ρ E fun d ρ1 => GetL i ρ1 fun xs => xs.length < 16777216 ∧ Put i (some (.lst true (xs ++ [d]))) ρ1 fun ρ2 => Q .non ρ2) := ⟨fun h => w_app h⟩
instance i_w_pop {ρ : Rho} {E : Exc → Rho → Prop} {Q : D → Rho → Prop} {i : Nat} : Stp (W (ePop i) ρ E Q) (GetL i ρ fun xs => ∃ y, xs[xs.length - 1]? = some y ∧ Put i (some (.lst true xs.dropLast)) ρ fun ρ2 => Q y ρ2) := ⟨fun h => w_pop h⟩
instance i_w_setix {ρ : Rho} {R : Out → Prop} {i : Nat} {mi mv : M D} : Stp (WS (sSetIx i mi mv) ρ R) (GetL i ρ fun _ => W mv ρ (fun e ρ1 => R (.exc e ρ1)) fun d ρ1 => W mi ρ1 (fun e ρ1 => R (.exc e ρ1)) fun k ρ2 => GetL i ρ2 fun xs => ∃ (kk : Int) (j : Nat), k = .int kk ∧ ixN xs.length kk = some j ∧ Put i (some (.lst true (xs.set j d))) ρ2 fun ρ3 => R (.nx ρ3)) := ⟨fun h => w_setix h⟩
instance i_w_aval {ρ : Rho} {E : Exc → Rho → Prop} {QA : List ArgV → Rho → Prop} {m : M D} {as : M (List ArgV)} : Stp (W (aVal m as) ρ E QA) (W m ρ E fun d ρ1 => W as ρ1 E fun ds ρ2 => QA (.val d :: ds) ρ2) := ⟨fun h => w_aval h⟩
instance i_w_alend {ρ : Rho} {E : Exc → Rho → Prop} {QA : List ArgV → Rho → Prop} {as : M (List ArgV)} {i : Nat} : Stp (W (aLend i as) ρ E QA) (Get i ρ fun _ => W as ρ E fun ds ρ2 => QA (.lend i :: ds) ρ2) := ⟨fun h => w_alend h⟩
instance i_w_anil {ρ : Rho} {E : Exc → Rho → Prop} {QA : List ArgV → Rho → Prop} : Stp (W aNil ρ E QA) (QA [] ρ) := ⟨fun h => w_anil h⟩
instance i_w_call {ρ : Rho} {E : Exc → Rho → Prop} {Q : D → Rho → Prop} {as : M (List ArgV)} {g : List D → Fo} : Stp (W (eCall g as) ρ E Q) (W as ρ E fun vs ρ1 => Take vs ρ1 fun ds ρ2 => WF (g ds) (fun e ps => Back vs ds ps ρ2 fun ρ3 => E e ρ3) fun d ps => Back vs ds ps ρ2 fun ρ3 => Q d ρ3) := ⟨fun h => w_call h⟩
instance i_tk_nil {ρ : Rho} {Q : List D → Rho → Prop} : Stp (Take [] ρ Q) (Q [] ρ) := ⟨fun h => tk_nil h⟩
instance i_tk_val {ρ : Rho} {d : D} {vs : List ArgV} {Q : List D → Rho → Prop} : Stp (Take (.val d :: vs) ρ Q) (Take vs ρ fun ds ρ1 => Q (d :: ds) ρ1) := ⟨fun h => tk_val h⟩
instance i_tk_lendO {ρ : Rho} {i : Nat} {vs : List ArgV} {Q : List D → Rho → Prop} : Stp (Take (.lend i :: vs) ρ Q) (Get i ρ fun d => d.frz = false ∧ Put i none ρ fun ρ1 => Take vs ρ1 fun ds ρ2 => Q (d :: ds) ρ2) := ⟨fun h => tk_lendO h⟩
instance i_bk_nil {ρ : Rho} {Q : Rho → Prop} {ds ps} : Stp (Back [] ds ps ρ Q) (Q ρ) := ⟨fun h => bk_nil h⟩
instance i_bk_val {ρ : Rho} {d : D} {Q : Rho → Prop} {vs ds ps p} {d' : D} : Stp (Back (.val d' :: vs) (d :: ds) (p :: ps) ρ Q) (Back vs ds ps ρ Q) := ⟨fun h => bk_val h⟩
instance i_w_ival {ρ : Rho} {E : Exc → Rho → Prop} {QL : List D → Rho → Prop} {m : M D} : Stp (W (iVal m) ρ E QL) (W m ρ E fun d ρ1 => WO (itD d) fun xs => QL xs ρ1) := ⟨fun h => w_ival h⟩
instance i_is_bl {b : Bool} {Q : Bool → Prop} : Stp (IsBl (.bl b) Q) (Q b) := ⟨fun h => is_bl h⟩
instance i_bif_t {A B : Prop} : Stp (Bif true A B) (A) := ⟨fun h => bif_t h⟩
instance i_bif_f {A B : Prop} : Stp (Bif false A B) (B) := ⟨fun h => bif_f h⟩
instance i_bif_n {b : Bool} {A B : Prop} : Stp (Bif (!b) A B) (Bif b B A) := ⟨fun h => bif_n h⟩
instance i_w_for {ρ : Rho} {R : Out → Prop} {n : MS} {mi : M (List D)} {g : D → Rho → Option Rho} : Stp (WS (sFor g mi n) ρ R) (W mi ρ (fun e ρ1 => R (.exc e ρ1)) fun xs ρ1 => R (forL g n xs ρ1)) := ⟨fun h => w_for h⟩
instance i_g_n {ρ : Rho} {i : Nat} {x : D} {Q : Rho → Prop} : Stp (GNext (gN i) x ρ Q) (Put i (some x) ρ Q) := ⟨fun h => g_n h⟩
instance i_tn_nx {ρ : Rho} {R : Out → Prop} {I : Rho → Prop} : Stp (Turn I R (.nx ρ)) (I ρ) := ⟨fun h => tn_nx h⟩
instance i_tn_rt {ρ : Rho} {R : Out → Prop} {d : D} {I : Rho → Prop} : Stp (Turn I R (.rt d ρ)) (R (.rt d ρ)) := ⟨fun h => tn_rt h⟩
instance i_w_retn {ρ : Rho} {R : Out → Prop} : Stp (WS sRetN ρ R) (R (.rt .non ρ)) := ⟨fun h => w_retn h⟩
instance i_w_brk {ρ : Rho} {R : Out → Prop} : Stp (WS sBrk ρ R) (R (.bk ρ)) := ⟨fun h => w_brk h⟩
instance i_w_cnt {ρ : Rho} {R : Out → Prop} : Stp (WS sCnt ρ R) (R (.ct ρ)) := ⟨fun h => w_cnt h⟩
instance i_tn_bk {ρ : Rho} {R : Out → Prop} {I : Rho → Prop} : Stp (Turn I R (.bk ρ)) (R (.nx ρ)) := ⟨fun h => tn_bk h⟩
instance i_tn_ct {ρ : Rho} {R : Out → Prop} {I : Rho → Prop} : Stp (Turn I R (.ct ρ)) (I ρ) := ⟨fun h => tn_ct h⟩
instance i_th_bk {ρ : Rho} {R : Out → Prop} {n : MS} : Stp (Then n R (.bk ρ)) (R (.bk ρ)) := ⟨fun h => th_bk h⟩
instance i_th_ct {ρ : Rho} {R : Out → Prop} {n : MS} : Stp (Then n R (.ct ρ)) (R (.ct ρ)) := ⟨fun h => th_ct h⟩
instance i_getL {ρ : Rho} {i : Nat} {Q : List D → Prop} : Stp (GetL i ρ Q) (Get i ρ fun d => ∃ xs, d = .lst true xs ∧ Q xs) := ⟨fun h => getL h⟩
instance i_rest_nil {ρ : Rho} {ρ0 : Rho} {Q : Rho → Prop} : Stp (Rest [] ρ0 ρ Q) (Q ρ) := ⟨fun h => rest_nil h⟩
instance i_w_rg1 {ρ : Rho} {E : Exc → Rho → Prop} {m : M D} {QL : List D → Rho → Prop} : Stp (W (iRg1 m) ρ E QL) (W m ρ E fun d ρ1 => IsRg d fun xs => QL xs ρ1) := ⟨fun h => w_rg1 h⟩
instance i_w_try {ρ : Rho} {R : Out → Prop} {sub : Str → Str → Option Bool} {hs : List Han} {mb : MS} : Stp (WS (sTry sub mb hs) ρ R) (WS mb ρ (Tried sub hs R)) := ⟨fun h => w_try h⟩
instance i_w_raise {ρ : Rho} {R : Out → Prop} {c : Str} : Stp (WS (sRaise c) ρ R) (R (.exc ⟨c, []⟩ ρ)) := ⟨fun h => w_raise h⟩
instance i_td_nx {ρ : Rho} {R : Out → Prop} {sub : Str → Str → Option Bool} {hs : List Han} : Stp (Tried sub hs R (.nx ρ)) (R (.nx ρ)) := ⟨fun h => td_nx h⟩
instance i_td_rt {ρ : Rho} {R : Out → Prop} {sub : Str → Str → Option Bool} {hs : List Han} {d : D} : Stp (Tried sub hs R (.rt d ρ)) (R (.rt d ρ)) := ⟨fun h => td_rt h⟩
instance i_td_exc {ρ : Rho} {R : Out → Prop} {sub : Str → Str → Option Bool} {hs : List Han} {e : Exc} : Stp (Tried sub hs R (.exc e ρ)) (R (tryH sub hs e ρ)) := ⟨fun h => td_exc h⟩
instance i_th_exc {ρ : Rho} {R : Out → Prop} {e : Exc} {n : MS} : Stp (Then n R (.exc e ρ)) (R (.exc e ρ)) := ⟨fun h => th_exc h⟩
instance i_tn_exc {ρ : Rho} {R : Out → Prop} {I : Rho → Prop} {e : Exc} : Stp (Turn I R (.exc e ρ)) (R (.exc e ρ)) := ⟨fun h => tn_exc h⟩
instance i_w_rgN {ρ : Rho} {E : Exc → Rho → Prop} {QL : List D → Rho → Prop} {ma mb mc : M D} : Stp (W (iRgN ma mb mc) ρ E QL) (W ma ρ E fun a ρ1 => W mb ρ1 E fun b ρ2 => W mc ρ2 E fun c ρ3 => WO (dnL a b c) fun ds => QL ds ρ3) := ⟨fun h => w_rgN h⟩
instance i_w_rg2 {ρ : Rho} {E : Exc → Rho → Prop} {QL : List D → Rho → Prop} {ma mb : M D} : Stp (W (iRg2 ma mb) ρ E QL) (W ma ρ E fun a ρ1 => W mb ρ1 E fun b ρ2 => WO (rgL a b) fun ds => QL ds ρ2) := ⟨fun h => w_rg2 h⟩
instance i_w_ch {ρ : Rho} {E : Exc → Rho → Prop} {Q : D → Rho → Prop} {ma mb mc : M D} {f g : D → D → Option D} : Stp (W (eCh f g ma mb mc) ρ E Q) (W ma ρ E fun a ρ1 => W mb ρ1 E fun b ρ2 => WO (f a b) fun c => IsBl c fun v => Bif v (W mc ρ2 E fun d ρ3 => WO (g b d) fun z => Q z ρ3) (Q (.bl false) ρ2)) := ⟨fun h => w_ch h⟩
instance i_w_asg {ρ : Rho} {R : Out → Prop} {g : D → Rho → Option Rho} {m : M D} : Stp (WS (sAsg g m) ρ R) (W m ρ (fun e ρ1 => R (.exc e ρ1)) fun d ρ1 => Tgt g d ρ1 fun ρ2 => R (.nx ρ2)) := ⟨fun h => w_asg h⟩
instance i_tg_n {ρ : Rho} {d : D} {Q : Rho → Prop} {i : Nat} : Stp (Tgt (gN i) d ρ Q) (Put i (some d) ρ Q) := ⟨fun h => tg_n h⟩
instance i_tg_t {ρ : Rho} {gs : List D → Rho → Option Rho} {ds : List D} {Q : Rho → Prop} : Stp (Tgt (gT gs) (.tup ds) ρ Q) (Tgs gs ds ρ Q) := ⟨fun h => tg_t h⟩
instance i_ts_nil_ {ρ : Rho} {Q : Rho → Prop} : Stp (Tgs gNl [] ρ Q) (Q ρ) := ⟨fun h => ts_nil' h⟩
instance i_ts_cons {ρ : Rho} {g : D → Rho → Option Rho} {gs : List D → Rho → Option Rho} {d : D} {ds : List D} {Q : Rho → Prop} : Stp (Tgs (gCs g gs) (d :: ds) ρ Q) (Tgt g d ρ fun ρ1 => Tgs gs ds ρ1 Q) := ⟨fun h => ts_cons h⟩
instance i_gn_t {ρ : Rho} {gs : List D → Rho → Option Rho} {ds : List D} {Q : Rho → Prop} : Stp (GNext (gT gs) (.tup ds) ρ Q) (Tgs gs ds ρ Q) := ⟨fun h => gn_t h⟩
instance i_w_enu {ρ : Rho} {E : Exc → Rho → Prop} {QL : List D → Rho → Prop} {m : M D} : Stp (W (iEnu m) ρ E QL) (W m ρ E fun d ρ1 => ∃ xs, d = .tup xs ∧ frzs xs = true ∧ QL (prs xs) ρ1) := ⟨fun h => w_enu h⟩
instance i_w_zip2 {ρ : Rho} {E : Exc → Rho → Prop} {QL : List D → Rho → Prop} {m n : M D} : Stp (W (iZip2 m n) ρ E QL) (W m ρ E fun d ρ1 => W n ρ1 E fun e ρ2 => ∃ xs ys, d = .tup xs ∧ e = .tup ys ∧ frzs xs = true ∧ frzs ys = true ∧ QL (zps xs ys) ρ2) := ⟨fun h => w_zip2 h⟩
instance i_w_popI {ρ : Rho} {E : Exc → Rho → Prop} {Q : D → Rho → Prop} {i : Nat} {m : M D} : Stp (W (ePopI i m) ρ E Q) (GetL i ρ fun _ => W m ρ E fun k ρ1 => GetL i ρ1 fun xs => ∃ (kk : Int) (j : Nat) (y : D), k = .int kk ∧ ixN xs.length kk = some j ∧ xs[j]? = some y ∧ frzs xs = true ∧ xs.length < 4611686018427387904 ∧ Put i (some (.lst true (xs.eraseIdx j))) ρ1 fun ρ2 => Q y ρ2) := ⟨fun h => w_popI h⟩
instance i_w_fld {ρ : Rho} {E : Exc → Rho → Prop} {Q : D → Rho → Prop} {m : M D} {c f : Str} : Stp (W (eFld c f m) ρ E Q) (W m ρ E fun d ρ1 => WO (fldD c f d) fun z => Q z ρ1) := ⟨fun h => w_fld h⟩
instance i_w_setF {ρ : Rho} {R : Out → Prop} {m : M D} {i : Nat} {c f : Str} : Stp (WS (sSetF i c f m) ρ R) (W m ρ (fun e ρ1 => R (.exc e ρ1)) fun d ρ1 => Get i ρ1 fun o => ∃ fs, o = .ins true c fs ∧ fs.length < 1000 ∧ Put i (some (.ins true c (putD f d fs))) ρ1 fun ρ2 => R (.nx ρ2)) := ⟨fun h => w_setF h⟩
instance i_wip_nil {ρ : Rho} {Q : Rho → Prop} : Stp (Wip [] ρ Q) (Q ρ) := ⟨fun h => wip_nil h⟩
instance i_wip_cons {ρ : Rho} {i : Nat} {is : List Nat} {Q : Rho → Prop} : Stp (Wip (i :: is) ρ Q) (Put i none ρ fun ρ1 => Wip is ρ1 Q) := ⟨fun h => wip_cons h⟩
instance i_w_meL {ρ : Rho} {E : Exc → Rho → Prop} {Q : D → Rho → Prop} {ms : M (List ArgV)} {c m : Str} {i : Nat} {g : List D → Fo} : Stp (W (eMeL c m g i ms) ρ E Q) (Get i ρ fun d => isIns c m d = true ∧ W (eCall g (aLend i ms)) ρ E Q) := ⟨fun h => w_meL h⟩
instance i_w_isI {ρ : Rho} {E : Exc → Rho → Prop} {Q : D → Rho → Prop} {mo : M D} {c m : Str} : Stp (W (eIsI c m mo) ρ E Q) (W mo ρ E fun d ρ1 => isIns c m d = true ∧ Q d ρ1) := ⟨fun h => w_isI h⟩
instance i_w_meV {ρ : Rho} {E : Exc → Rho → Prop} {Q : D → Rho → Prop} {mo : M D} {ms : M (List ArgV)} {c m : Str} {g : List D → Fo} : Stp (W (eMeV c m g mo ms) ρ E Q) (W (eCall g (aVal (eIsI c m mo) ms)) ρ E Q) := ⟨fun h => w_meV h⟩
instance i_w_mk {ρ : Rho} {E : Exc → Rho → Prop} {Q : D → Rho → Prop} {ms : M (List ArgV)} {c : Str} {g : List D → Fo} : Stp (W (eMk c g ms) ρ E Q) (W ms ρ E fun vs ρ1 => Take vs ρ1 fun ds ρ2 => WF (g (.ins true c [] :: ds)) (MadeE fun e ps => Back vs ds ps ρ2 fun ρ3 => E e ρ3) (MadeQ fun d ps => Back vs ds ps ρ2 fun ρ3 => Q d ρ3)) := ⟨fun h => w_mk h⟩
instance i_md_q {Q : D → List (Option D) → Prop} {d : D} {ps : List (Option D)} : Stp (MadeQ Q .non (some d :: ps)) (Q d ps) := ⟨fun h => md_q h⟩
instance i_md_e {E : Exc → List (Option D) → Prop} {e : Exc} {o : Option D} {ps : List (Option D)} : Stp (MadeE E e (o :: ps)) (E e ps) := ⟨fun h => md_e h⟩
instance i_w_raiseF {ρ : Rho} {R : Out → Prop} {m : M D} {c fl : Str} : Stp (WS (sRaiseF c fl m) ρ R) (W m ρ (fun e ρ1 => R (.exc e ρ1)) fun d ρ1 => IsFz d (R (.exc ⟨c, [(fl, d)]⟩ ρ1))) := ⟨fun h => w_raiseF h⟩
instance i_w_xf {ρ : Rho} {E : Exc → Rho → Prop} {Q : D → Rho → Prop} {f : Str} {i : Nat} : Stp (W (eXf f i) ρ E Q) (Get i ρ fun d => ∃ c fs, d = .exo c fs ∧ WO (fs.lookup f) fun z => Q z ρ) := ⟨fun h => w_xf h⟩
instance i_w_var {ρ : Rho} {E : Exc → Rho → Prop} {Q : D → Rho → Prop} {i : Nat} : Stp (W (eVar i) ρ E Q) (GetF i ρ fun d => Q d ρ) := ⟨fun h => w_var h⟩
instance i_wo_add {i j : Int} {Q : D → Prop} : Stp (WO (addD (.int i) (.int j)) Q) (Q (.int (i + j))) := ⟨fun h => wo_add h⟩
instance i_wo_sub {i j : Int} {Q : D → Prop} : Stp (WO (subD (.int i) (.int j)) Q) (Q (.int (i - j))) := ⟨fun h => wo_sub h⟩
instance i_wo_iadd {i j : Int} {Q : D → Prop} : Stp (WO (iaddD (.int i) (.int j)) Q) (Q (.int (i + j))) := ⟨fun h => wo_iadd h⟩
instance i_wo_eqi {i j : Int} {Q : D → Prop} : Stp (WO (eqD (.int i) (.int j)) Q) (Q (.bl (decide (i = j)))) := ⟨fun h => wo_eqi h⟩
instance i_wo_nei {i j : Int} {Q : D → Prop} : Stp (WO (neD (.int i) (.int j)) Q) (Q (.bl (!decide (i = j)))) := ⟨fun h => wo_nei h⟩
instance i_wo_lt {i j : Int} {Q : D → Prop} : Stp (WO (ltD (.int i) (.int j)) Q) (Q (.bl (decide (i < j)))) := ⟨fun h => wo_lt h⟩
instance i_wo_le {i j : Int} {Q : D → Prop} : Stp (WO (leD (.int i) (.int j)) Q) (Q (.bl (decide (i ≤ j)))) := ⟨fun h => wo_le h⟩
instance i_wo_gt {i j : Int} {Q : D → Prop} : Stp (WO (gtD (.int i) (.int j)) Q) (Q (.bl (decide (i > j)))) := ⟨fun h => wo_gt h⟩
instance i_wo_ge {i j : Int} {Q : D → Prop} : Stp (WO (geD (.int i) (.int j)) Q) (Q (.bl (decide (i ≥ j)))) := ⟨fun h => wo_ge h⟩
instance i_wo_neg {i : Int} {Q : D → Prop} : Stp (WO (negD (.int i)) Q) (Q (.int (-i))) := ⟨fun h => wo_neg h⟩
instance i_wo_int {i : Int} {Q : D → Prop} : Stp (WO (intD [.int i]) Q) (Q (.int i)) := ⟨fun h => wo_int h⟩
instance i_wo_abs {i : Int} {Q : D → Prop} : Stp (WO (absD [.int i]) Q) (Q (.int (if i < 0 then -i else i))) := ⟨fun h => wo_abs h⟩
instance i_fz_int {i : Int} {P : Prop} : Stp (IsFz (.int i) P) (P) := ⟨fun h => fz_int h⟩
instance i_fz_str {s : List Nat} {P : Prop} : Stp (IsFz (.str s) P) (P) := ⟨fun h => fz_str h⟩
instance i_fz_bl {P : Prop} {b : Bool} : Stp (IsFz (.bl b) P) (P) := ⟨fun h => fz_bl h⟩
instance i_get_0 {x : D} {r : Rho} {Q : D → Prop} : Stp (Get 0 (some x :: r) Q) (Q x) := ⟨fun h => get_0 h⟩
instance i_get_1 {x : D} {r : Rho} {Q : D → Prop} {a0 : Option D} : Stp (Get 1 (a0 :: some x :: r) Q) (Q x) := ⟨fun h => get_1 h⟩
instance i_get_2 {x : D} {r : Rho} {Q : D → Prop} {a0 a1 : Option D} : Stp (Get 2 (a0 :: a1 :: some x :: r) Q) (Q x) := ⟨fun h => get_2 h⟩
instance i_get_3 {x : D} {r : Rho} {Q : D → Prop} {a0 a1 a2 : Option D} : Stp (Get 3 (a0 :: a1 :: a2 :: some x :: r) Q) (Q x) := ⟨fun h => get_3 h⟩
instance i_get_4 {x : D} {r : Rho} {Q : D → Prop} {a0 a1 a2 a3 : Option D} : Stp (Get 4 (a0 :: a1 :: a2 :: a3 :: some x :: r) Q) (Q x) := ⟨fun h => get_4 h⟩
instance i_get_5 {x : D} {r : Rho} {Q : D → Prop} {a0 a1 a2 a3 a4 : Option D} : Stp (Get 5 (a0 :: a1 :: a2 :: a3 :: a4 :: some x :: r) Q) (Q x) := ⟨fun h => get_5 h⟩
instance i_get_6 {x : D} {r : Rho} {Q : D → Prop} {a0 a1 a2 a3 a4 a5 : Option D} : Stp (Get 6 (a0 :: a1 :: a2 :: a3 :: a4 :: a5 :: some x :: r) Q) (Q x) := ⟨fun h => get_6 h⟩
instance i_get_7 {x : D} {r : Rho} {Q : D → Prop} {a0 a1 a2 a3 a4 a5 a6 : Option D} : Stp (Get 7 (a0 :: a1 :: a2 :: a3 :: a4 :: a5 :: a6 :: some x :: r) Q) (Q x) := ⟨fun h => get_7 h⟩
instance i_get_8 {x : D} {r : Rho} {Q : D → Prop} {a0 a1 a2 a3 a4 a5 a6 a7 : Option D} : Stp (Get 8 (a0 :: a1 :: a2 :: a3 :: a4 :: a5 :: a6 :: a7 :: some x :: r) Q) (Q x) := ⟨fun h => get_8 h⟩
instance i_get_9 {x : D} {r : Rho} {Q : D → Prop} {a0 a1 a2 a3 a4 a5 a6 a7 a8 : Option D} : Stp (Get 9 (a0 :: a1 :: a2 :: a3 :: a4 :: a5 :: a6 :: a7 :: a8 :: some x :: r) Q) (Q x) := ⟨fun h => get_9 h⟩
instance i_get_10 {x : D} {r : Rho} {Q : D → Prop} {a0 a1 a2 a3 a4 a5 a6 a7 a8 a9 : Option D} : Stp (Get 10 (a0 :: a1 :: a2 :: a3 :: a4 :: a5 :: a6 :: a7 :: a8 :: a9 :: some x :: r) Q) (Q x) := ⟨fun h => get_10 h⟩
instance i_get_11 {x : D} {r : Rho} {Q : D → Prop} {a0 a1 a2 a3 a4 a5 a6 a7 a8 a9 a10 : Option D} : Stp (Get 11 (a0 :: a1 :: a2 :: a3 :: a4 :: a5 :: a6 :: a7 :: a8 :: a9 :: a10 :: some x :: r) Q) (Q x) := ⟨fun h => get_11 h⟩
instance i_get_12 {x : D} {r : Rho} {Q : D → Prop} {a0 a1 a2 a3 a4 a5 a6 a7 a8 a9 a10 a11 : Option D} : Stp (Get 12 (a0 :: a1 :: a2 :: a3 :: a4 :: a5 :: a6 :: a7 :: a8 :: a9 :: a10 :: a11 :: some x :: r) Q) (Q x) := ⟨fun h => get_12 h⟩
instance i_get_13 {x : D} {r : Rho} {Q : D → Prop} {a0 a1 a2 a3 a4 a5 a6 a7 a8 a9 a10 a11 a12 : Option D} : Stp (Get 13 (a0 :: a1 :: a2 :: a3 :: a4 :: a5 :: a6 :: a7 :: a8 :: a9 :: a10 :: a11 :: a12 :: some x :: r) Q) (Q x) := ⟨fun h => get_13 h⟩
instance i_get_14 {x : D} {r : Rho} {Q : D → Prop} {a0 a1 a2 a3 a4 a5 a6 a7 a8 a9 a10 a11 a12 a13 : Option D} : Stp (Get 14 (a0 :: a1 :: a2 :: a3 :: a4 :: a5 :: a6 :: a7 :: a8 :: a9 :: a10 :: a11 :: a12 :: a13 :: some x :: r) Q) (Q x) := ⟨fun h => get_14 h⟩
instance i_get_15 {x : D} {r : Rho} {Q : D → Prop} {a0 a1 a2 a3 a4 a5 a6 a7 a8 a9 a10 a11 a12 a13 a14 : Option D} : Stp (Get 15 (a0 :: a1 :: a2 :: a3 :: a4 :: a5 :: a6 :: a7 :: a8 :: a9 :: a10 :: a11 :: a12 :: a13 :: a14 :: some x :: r) Q) (Q x) := ⟨fun h => get_15 h⟩
instance i_get_16 {x : D} {r : Rho} {Q : D → Prop} {a0 a1 a2 a3 a4 a5 a6 a7 a8 a9 a10 a11 a12 a13 a14 a15 : Option D} : Stp (Get 16 (a0 :: a1 :: a2 :: a3 :: a4 :: a5 :: a6 :: a7 :: a8 :: a9 :: a10 :: a11 :: a12 :: a13 :: a14 :: a15 :: some x :: r) Q) (Q x) := ⟨fun h => get_16 h⟩
instance i_get_17 {x : D} {r : Rho} {Q : D → Prop} {a0 a1 a2 a3 a4 a5 a6 a7 a8 a9 a10 a11 a12 a13 a14 a15 a16 : Option D} : Stp (Get 17 (a0 :: a1 :: a2 :: a3 :: a4 :: a5 :: a6 :: a7 :: a8 :: a9 :: a10 :: a11 :: a12 :: a13 :: a14 :: a15 :: a16 :: some x :: r) Q) (Q x) := ⟨fun h => get_17 h⟩
instance i_get_18 {x : D} {r : Rho} {Q : D → Prop} {a0 a1 a2 a3 a4 a5 a6 a7 a8 a9 a10 a11 a12 a13 a14 a15 a16 a17 : Option D} : Stp (Get 18 (a0 :: a1 :: a2 :: a3 :: a4 :: a5 :: a6 :: a7 :: a8 :: a9 :: a10 :: a11 :: a12 :: a13 :: a14 :: a15 :: a16 :: a17 :: some x :: r) Q) (Q x) := ⟨fun h => get_18 h⟩
instance i_get_19 {x : D} {r : Rho} {Q : D → Prop} {a0 a1 a2 a3 a4 a5 a6 a7 a8 a9 a10 a11 a12 a13 a14 a15 a16 a17 a18 : Option D} : Stp (Get 19 (a0 :: a1 :: a2 :: a3 :: a4 :: a5 :: a6 :: a7 :: a8 :: a9 :: a10 :: a11 :: a12 :: a13 :: a14 :: a15 :: a16 :: a17 :: a18 :: some x :: r) Q) (Q x) := ⟨fun h => get_19 h⟩
instance i_get_20 {x : D} {r : Rho} {Q : D → Prop} {a0 a1 a2 a3 a4 a5 a6 a7 a8 a9 a10 a11 a12 a13 a14 a15 a16 a17 a18 a19 : Option D} : Stp (Get 20 (a0 :: a1 :: a2 :: a3 :: a4 :: a5 :: a6 :: a7 :: a8 :: a9 :: a10 :: a11 :: a12 :: a13 :: a14 :: a15 :: a16 :: a17 :: a18 :: a19 :: some x :: r) Q) (Q x) := ⟨fun h => get_20 h⟩
instance i_get_21 {x : D} {r : Rho} {Q : D → Prop} {a0 a1 a2 a3 a4 a5 a6 a7 a8 a9 a10 a11 a12 a13 a14 a15 a16 a17 a18 a19 a20 : Option D} : Stp (Get 21 (a0 :: a1 :: a2 :: a3 :: a4 :: a5 :: a6 :: a7 :: a8 :: a9 :: a10 :: a11 :: a12 :: a13 :: a14 :: a15 :: a16 :: a17 :: a18 :: a19 :: a20 :: some x :: r) Q) (Q x) := ⟨fun h => get_21 h⟩
instance i_get_22 {x : D} {r : Rho} {Q : D → Prop} {a0 a1 a2 a3 a4 a5 a6 a7 a8 a9 a10 a11 a12 a13 a14 a15 a16 a17 a18 a19 a20 a21 : Option D} : Stp (Get 22 (a0 :: a1 :: a2 :: a3 :: a4 :: a5 :: a6 :: a7 :: a8 :: a9 :: a10 :: a11 :: a12 :: a13 :: a14 :: a15 :: a16 :: a17 :: a18 :: a19 :: a20 :: a21 :: some x :: r) Q) (Q x) := ⟨fun h => get_22 h⟩
instance i_get_23 {x : D} {r : Rho} {Q : D → Prop} {a0 a1 a2 a3 a4 a5 a6 a7 a8 a9 a10 a11 a12 a13 a14 a15 a16 a17 a18 a19 a20 a21 a22 : Option D} : Stp (Get 23 (a0 :: a1 :: a2 :: a3 :: a4 :: a5 :: a6 :: a7 :: a8 :: a9 :: a10 :: a11 :: a12 :: a13 :: a14 :: a15 :: a16 :: a17 :: a18 :: a19 :: a20 :: a21 :: a22 :: some x :: r) Q) (Q x) := ⟨fun h => get_23 h⟩
instance i_get_24 {x : D} {r : Rho} {Q : D → Prop} {a0 a1 a2 a3 a4 a5 a6 a7 a8 a9 a10 a11 a12 a13 a14 a15 a16 a17 a18 a19 a20 a21 a22 a23 : Option D} : Stp (Get 24 (a0 :: a1 :: a2 :: a3 :: a4 :: a5 :: a6 :: a7 :: a8 :: a9 :: a10 :: a11 :: a12 :: a13 :: a14 :: a15 :: a16 :: a17 :: a18 :: a19 :: a20 :: a21 :: a22 :: a23 :: some x :: r) Q) (Q x) := ⟨fun h => get_24 h⟩
instance i_put_0 {o v : Option D} {r : Rho} {QR : Rho → Prop} : Stp (Put 0 v (o :: r) QR) (QR (v :: r)) := ⟨fun h => put_0 h⟩
instance i_put_1 {o v : Option D} {r : Rho} {QR : Rho → Prop} {a0 : Option D} : Stp (Put 1 v (a0 :: o :: r) QR) (QR (a0 :: v :: r)) := ⟨fun h => put_1 h⟩
instance i_put_2 {o v : Option D} {r : Rho} {QR : Rho → Prop} {a0 a1 : Option D} : Stp (Put 2 v (a0 :: a1 :: o :: r) QR) (QR (a0 :: a1 :: v :: r)) := ⟨fun h => put_2 h⟩
instance i_put_3 {o v : Option D} {r : Rho} {QR : Rho → Prop} {a0 a1 a2 : Option D} : Stp (Put 3 v (a0 :: a1 :: a2 :: o :: r) QR) (QR (a0 :: a1 :: a2 :: v :: r)) := ⟨fun h => put_3 h⟩
instance i_put_4 {o v : Option D} {r : Rho} {QR : Rho → Prop} {a0 a1 a2 a3 : Option D} : Stp (Put 4 v (a0 :: a1 :: a2 :: a3 :: o :: r) QR) (QR (a0 :: a1 :: a2 :: a3 :: v :: r)) := ⟨fun h => put_4 h⟩
instance i_put_5 {o v : Option D} {r : Rho} {QR : Rho → Prop} {a0 a1 a2 a3 a4 : Option D} : Stp (Put 5 v (a0 :: a1 :: a2 :: a3 :: a4 :: o :: r) QR) (QR (a0 :: a1 :: a2 :: a3 :: a4 :: v :: r)) := ⟨fun h => put_5 h⟩
instance i_put_6 {o v : Option D} {r : Rho} {QR : Rho → Prop} {a0 a1 a2 a3 a4 a5 : Option D} : Stp (Put 6 v (a0 :: a1 :: a2 :: a3 :: a4 :: a5 :: o :: r) QR) (QR (a0 :: a1 :: a2 :: a3 :: a4 :: a5 :: v :: r)) := ⟨fun h => put_6 h⟩
instance i_put_7 {o v : Option D} {r : Rho} {QR : Rho → Prop} {a0 a1 a2 a3 a4 a5 a6 : Option D} : Stp (Put 7 v (a0 :: a1 :: a2 :: a3 :: a4 :: a5 :: a6 :: o :: r) QR) (QR (a0 :: a1 :: a2 :: a3 :: a4 :: a5 :: a6 :: v :: r)) := ⟨fun h => put_7 h⟩
instance i_put_8 {o v : Option D} {r : Rho} {QR : Rho → Prop} {a0 a1 a2 a3 a4 a5 a6 a7 : Option D} : Stp (Put 8 v (a0 :: a1 :: a2 :: a3 :: a4 :: a5 :: a6 :: a7 :: o :: r) QR) (QR (a0 :: a1 :: a2 :: a3 :: a4 :: a5 :: a6 :: a7 :: v :: r)) := ⟨fun h => put_8 h⟩
instance i_put_9 {o v : Option D} {r : Rho} {QR : Rho → Prop} {a0 a1 a2 a3 a4 a5 a6 a7 a8 : Option D} : Stp (Put 9 v (a0 :: a1 :: a2 :: a3 :: a4 :: a5 :: a6 :: a7 :: a8 :: o :: r) QR) (QR (a0 :: a1 :: a2 :: a3 :: a4 :: a5 :: a6 :: a7 :: a8 :: v :: r)) := ⟨fun h => put_9 h⟩
instance i_put_10 {o v : Option D} {r : Rho} {QR : Rho → Prop} {a0 a1 a2 a3 a4 a5 a6 a7 a8 a9 : Option D} : Stp (Put 10 v (a0 :: a1 :: a2 :: a3 :: a4 :: a5 :: a6 :: a7 :: a8 :: a9 :: o :: r) QR) (QR (a0 :: a1 :: a2 :: a3 :: a4 :: a5 :: a6 :: a7 :: a8 :: a9 :: v :: r)) := ⟨fun h => put_10 h⟩
instance i_put_11 {o v : Option D} {r : Rho} {QR : Rho → Prop} {a0 a1 a2 a3 a4 a5 a6 a7 a8 a9 a10 : Option D} : Stp (Put 11 v (a0 :: a1 :: a2 :: a3 :: a4 :: a5 :: a6 :: a7 :: a8 :: a9 :: a10 :: o :: r) QR) (QR (a0 :: a1 :: a2 :: a3 :: a4 :: a5 :: a6 :: a7 :: a8 :: a9 :: a10 :: v :: r)) := ⟨fun h => put_11 h⟩
instance i_put_12 {o v : Option D} {r : Rho} {QR : Rho → Prop} {a0 a1 a2 a3 a4 a5 a6 a7 a8 a9 a10 a11 : Option D} : Stp (Put 12 v (a0 :: a1 :: a2 :: a3 :: a4 :: a5 :: a6 :: a7 :: a8 :: a9 :: a10 :: a11 :: o :: r) QR) (QR (a0 :: a1 :: a2 :: a3 :: a4 :: a5 :: a6 :: a7 :: a8 :: a9 :: a10 :: a11 :: v :: r)) := ⟨fun h => put_12 h⟩
instance i_put_13 {o v : Option D} {r : Rho} {QR : Rho → Prop} {a0 a1 a2 a3 a4 a5 a6 a7 a8 a9 a10 a11 a12 : Option D} : Stp (Put 13 v (a0 :: a1 :: a2 :: a3 :: a4 :: a5 :: a6 :: a7 :: a8 :: a9 :: a10 :: a11 :: a12 :: o :: r) QR) (QR (a0 :: a1 :: a2 :: a3 :: a4 :: a5 :: a6 :: a7 :: a8 :: a9 :: a10 :: a11 :: a12 :: v :: r)) := ⟨fun h => put_13 h⟩
instance i_put_14 {o v : Option D} {r : Rho} {QR : Rho → Prop} {a0 a1 a2 a3 a4 a5 a6 a7 a8 a9 a10 a11 a12 a13 : Option D} : Stp (Put 14 v (a0 :: a1 :: a2 :: a3 :: a4 :: a5 :: a6 :: a7 :: a8 :: a9 :: a10 :: a11 :: a12 :: a13 :: o :: r) QR) (QR (a0 :: a1 :: a2 :: a3 :: a4 :: a5 :: a6 :: a7 :: a8 :: a9 :: a10 :: a11 :: a12 :: a13 :: v :: r)) := ⟨fun h => put_14 h⟩
instance i_put_15 {o v : Option D} {r : Rho} {QR : Rho → Prop} {a0 a1 a2 a3 a4 a5 a6 a7 a8 a9 a10 a11 a12 a13 a14 : Option D} : Stp (Put 15 v (a0 :: a1 :: a2 :: a3 :: a4 :: a5 :: a6 :: a7 :: a8 :: a9 :: a10 :: a11 :: a12 :: a13 :: a14 :: o :: r) QR) (QR (a0 :: a1 :: a2 :: a3 :: a4 :: a5 :: a6 :: a7 :: a8 :: a9 :: a10 :: a11 :: a12 :: a13 :: a14 :: v :: r)) := ⟨fun h => put_15 h⟩
instance i_put_16 {o v : Option D} {r : Rho} {QR : Rho → Prop} {a0 a1 a2 a3 a4 a5 a6 a7 a8 a9 a10 a11 a12 a13 a14 a15 : Option D} : Stp (Put 16 v (a0 :: a1 :: a2 :: a3 :: a4 :: a5 :: a6 :: a7 :: a8 :: a9 :: a10 :: a11 :: a12 :: a13 :: a14 :: a15 :: o :: r) QR) (QR (a0 :: a1 :: a2 :: a3 :: a4 :: a5 :: a6 :: a7 :: a8 :: a9 :: a10 :: a11 :: a12 :: a13 :: a14 :: a15 :: v :: r)) := ⟨fun h => put_16 h⟩
instance i_put_17 {o v : Option D} {r : Rho} {QR : Rho → Prop} {a0 a1 a2 a3 a4 a5 a6 a7 a8 a9 a10 a11 a12 a13 a14 a15 a16 : Option D} : Stp (Put 17 v (a0 :: a1 :: a2 :: a3 :: a4 :: a5 :: a6 :: a7 :: a8 :: a9 :: a10 :: a11 :: a12 :: a13 :: a14 :: a15 :: a16 :: o :: r) QR) (QR (a0 :: a1 :: a2 :: a3 :: a4 :: a5 :: a6 :: a7 :: a8 :: a9 :: a10 :: a11 :: a12 :: a13 :: a14 :: a15 :: a16 :: v :: r)) := ⟨fun h => put_17 h⟩
instance i_put_18 {o v : Option D} {r : Rho} {QR : Rho → Prop} {a0 a1 a2 a3 a4 a5 a6 a7 a8 a9 a10 a11 a12 a13 a14 a15 a16 a17 : Option D} : Stp (Put 18 v (a0 :: a1 :: a2 :: a3 :: a4 :: a5 :: a6 :: a7 :: a8 :: a9 :: a10 :: a11 :: a12 :: a13 :: a14 :: a15 :: a16 :: a17 :: o :: r) QR) (QR (a0 :: a1 :: a2 :: a3 :: a4 :: a5 :: a6 :: a7 :: a8 :: a9 :: a10 :: a11 :: a12 :: a13 :: a14 :: a15 :: a16 :: a17 :: v :: r)) := ⟨fun h => put_18 h⟩
instance i_put_19 {o v : Option D} {r : Rho} {QR : Rho → Prop} {a0 a1 a2 a3 a4 a5 a6 a7 a8 a9 a10 a11 a12 a13 a14 a15 a16 a17 a18 : Option D} : Stp (Put 19 v (a0 :: a1 :: a2 :: a3 :: a4 :: a5 :: a6 :: a7 :: a8 :: a9 :: a10 :: a11 :: a12 :: a13 :: a14 :: a15 :: a16 :: a17 :: a18 :: o :: r) QR) (QR (a0 :: a1 :: a2 :: a3 :: a4 :: a5 :: a6 :: a7 :: a8 :: a9 :: a10 :: a11 :: a12 :: a13 :: a14 :: a15 :: a16 :: a17 :: a18 :: v :: r)) := ⟨fun h => put_19 h⟩
instance i_put_20 {o v : Option D} {r : Rho} {QR : Rho → Prop} {a0 a1 a2 a3 a4 a5 a6 a7 a8 a9 a10 a11 a12 a13 a14 a15 a16 a17 a18 a19 : Option D} : Stp (Put 20 v (a0 :: a1 :: a2 :: a3 :: a4 :: a5 :: a6 :: a7 :: a8 :: a9 :: a10 :: a11 :: a12 :: a13 :: a14 :: a15 :: a16 :: a17 :: a18 :: a19 :: o :: r) QR) (QR (a0 :: a1 :: a2 :: a3 :: a4 :: a5 :: a6 :: a7 :: a8 :: a9 :: a10 :: a11 :: a12 :: a13 :: a14 :: a15 :: a16 :: a17 :: a18 :: a19 :: v :: r)) := ⟨fun h => put_20 h⟩
instance i_put_21 {o v : Option D} {r : Rho} {QR : Rho → Prop} {a0 a1 a2 a3 a4 a5 a6 a7 a8 a9 a10 a11 a12 a13 a14 a15 a16 a17 a18 a19 a20 : Option D} : Stp (Put 21 v (a0 :: a1 :: a2 :: a3 :: a4 :: a5 :: a6 :: a7 :: a8 :: a9 :: a10 :: a11 :: a12 :: a13 :: a14 :: a15 :: a16 :: a17 :: a18 :: a19 :: a20 :: o :: r) QR) (QR (a0 :: a1 :: a2 :: a3 :: a4 :: a5 :: a6 :: a7 :: a8 :: a9 :: a10 :: a11 :: a12 :: a13 :: a14 :: a15 :: a16 :: a17 :: a18 :: a19 :: a20 :: v :: r)) := ⟨fun h => put_21 h⟩
instance i_put_22 {o v : Option D} {r : Rho} {QR : Rho → Prop} {a0 a1 a2 a3 a4 a5 a6 a7 a8 a9 a10 a11 a12 a13 a14 a15 a16 a17 a18 a19 a20 a21 : Option D} : Stp (Put 22 v (a0 :: a1 :: a2 :: a3 :: a4 :: a5 :: a6 :: a7 :: a8 :: a9 :: a10 :: a11 :: a12 :: a13 :: a14 :: a15 :: a16 :: a17 :: a18 :: a19 :: a20 :: a21 :: o :: r) QR) (QR (a0 :: a1 :: a2 :: a3 :: a4 :: a5 :: a6 :: a7 :: a8 :: a9 :: a10 :: a11 :: a12 :: a13 :: a14 :: a15 :: a16 :: a17 :: a18 :: a19 :: a20 :: a21 :: v :: r)) := ⟨fun h => put_22 h⟩
instance i_put_23 {o v : Option D} {r : Rho} {QR : Rho → Prop} {a0 a1 a2 a3 a4 a5 a6 a7 a8 a9 a10 a11 a12 a13 a14 a15 a16 a17 a18 a19 a20 a21 a22 : Option D} : Stp (Put 23 v (a0 :: a1 :: a2 :: a3 :: a4 :: a5 :: a6 :: a7 :: a8 :: a9 :: a10 :: a11 :: a12 :: a13 :: a14 :: a15 :: a16 :: a17 :: a18 :: a19 :: a20 :: a21 :: a22 :: o :: r) QR) (QR (a0 :: a1 :: a2 :: a3 :: a4 :: a5 :: a6 :: a7 :: a8 :: a9 :: a10 :: a11 :: a12 :: a13 :: a14 :: a15 :: a16 :: a17 :: a18 :: a19 :: a20 :: a21 :: a22 :: v :: r)) := ⟨fun h => put_23 h⟩
instance i_put_24 {o v : Option D} {r : Rho} {QR : Rho → Prop} {a0 a1 a2 a3 a4 a5 a6 a7 a8 a9 a10 a11 a12 a13 a14 a15 a16 a17 a18 a19 a20 a21 a22 a23 : Option D} : Stp (Put 24 v (a0 :: a1 :: a2 :: a3 :: a4 :: a5 :: a6 :: a7 :: a8 :: a9 :: a10 :: a11 :: a12 :: a13 :: a14 :: a15 :: a16 :: a17 :: a18 :: a19 :: a20 :: a21 :: a22 :: a23 :: o :: r) QR) (QR (a0 :: a1 :: a2 :: a3 :: a4 :: a5 :: a6 :: a7 :: a8 :: a9 :: a10 :: a11 :: a12 :: a13 :: a14 :: a15 :: a16 :: a17 :: a18 :: a19 :: a20 :: a21 :: a22 :: a23 :: v :: r)) := ⟨fun h => put_24 h⟩
instance i_rest_0 {r : Rho} {QR : Rho → Prop} {is : List Nat} {ρ : Rho} : Stp (Rest (0 :: is) (none :: r) ρ QR) (Rest is (none :: r) ρ QR) := ⟨fun h => rest_0 h⟩
instance i_rest_1 {r : Rho} {QR : Rho → Prop} {a0 : Option D} {is : List Nat} {ρ : Rho} : Stp (Rest (1 :: is) (a0 :: none :: r) ρ QR) (Rest is (a0 :: none :: r) ρ QR) := ⟨fun h => rest_1 h⟩
instance i_rest_2 {r : Rho} {QR : Rho → Prop} {a0 a1 : Option D} {is : List Nat} {ρ : Rho} : Stp (Rest (2 :: is) (a0 :: a1 :: none :: r) ρ QR) (Rest is (a0 :: a1 :: none :: r) ρ QR) := ⟨fun h => rest_2 h⟩
instance i_rest_3 {r : Rho} {QR : Rho → Prop} {a0 a1 a2 : Option D} {is : List Nat} {ρ : Rho} : Stp (Rest (3 :: is) (a0 :: a1 :: a2 :: none :: r) ρ QR) (Rest is (a0 :: a1 :: a2 :: none :: r) ρ QR) := ⟨fun h => rest_3 h⟩
instance i_rest_4 {r : Rho} {QR : Rho → Prop} {a0 a1 a2 a3 : Option D} {is : List Nat} {ρ : Rho} : Stp (Rest (4 :: is) (a0 :: a1 :: a2 :: a3 :: none :: r) ρ QR) (Rest is (a0 :: a1 :: a2 :: a3 :: none :: r) ρ QR) := ⟨fun h => rest_4 h⟩
instance i_rest_5 {r : Rho} {QR : Rho → Prop} {a0 a1 a2 a3 a4 : Option D} {is : List Nat} {ρ : Rho} : Stp (Rest (5 :: is) (a0 :: a1 :: a2 :: a3 :: a4 :: none :: r) ρ QR) (Rest is (a0 :: a1 :: a2 :: a3 :: a4 :: none :: r) ρ QR) := ⟨fun h => rest_5 h⟩
instance i_rest_6 {r : Rho} {QR : Rho → Prop} {a0 a1 a2 a3 a4 a5 : Option D} {is : List Nat} {ρ : Rho} : Stp (Rest (6 :: is) (a0 :: a1 :: a2 :: a3 :: a4 :: a5 :: none :: r) ρ QR) (Rest is (a0 :: a1 :: a2 :: a3 :: a4 :: a5 :: none :: r) ρ QR) := ⟨fun h => rest_6 h⟩
instance i_rest_7 {r : Rho} {QR : Rho → Prop} {a0 a1 a2 a3 a4 a5 a6 : Option D} {is : List Nat} {ρ : Rho} : Stp (Rest (7 :: is) (a0 :: a1 :: a2 :: a3 :: a4 :: a5 :: a6 :: none :: r) ρ QR) (Rest is (a0 :: a1 :: a2 :: a3 :: a4 :: a5 :: a6 :: none :: r) ρ QR) := ⟨fun h => rest_7 h⟩
instance i_rest_8 {r : Rho} {QR : Rho → Prop} {a0 a1 a2 a3 a4 a5 a6 a7 : Option D} {is : List Nat} {ρ : Rho} : Stp (Rest (8 :: is) (a0 :: a1 :: a2 :: a3 :: a4 :: a5 :: a6 :: a7 :: none :: r) ρ QR) (Rest is (a0 :: a1 :: a2 :: a3 :: a4 :: a5 :: a6 :: a7 :: none :: r) ρ QR) := ⟨fun h => rest_8 h⟩
instance i_rest_9 {r : Rho} {QR : Rho → Prop} {a0 a1 a2 a3 a4 a5 a6 a7 a8 : Option D} {is : List Nat} {ρ : Rho} : Stp (Rest (9 :: is) (a0 :: a1 :: a2 :: a3 :: a4 :: a5 :: a6 :: a7 :: a8 :: none :: r) ρ QR) (Rest is (a0 :: a1 :: a2 :: a3 :: a4 :: a5 :: a6 :: a7 :: a8 :: none :: r) ρ QR) := ⟨fun h => rest_9 h⟩
instance i_rest_10 {r : Rho} {QR : Rho → Prop} {a0 a1 a2 a3 a4 a5 a6 a7 a8 a9 : Option D} {is : List Nat} {ρ : Rho} : Stp (Rest (10 :: is) (a0 :: a1 :: a2 :: a3 :: a4 :: a5 :: a6 :: a7 :: a8 :: a9 :: none :: r) ρ QR) (Rest is (a0 :: a1 :: a2 :: a3 :: a4 :: a5 :: a6 :: a7 :: a8 :: a9 :: none :: r) ρ QR) := ⟨fun h => rest_10 h⟩
instance i_rest_11 {r : Rho} {QR : Rho → Prop} {a0 a1 a2 a3 a4 a5 a6 a7 a8 a9 a10 : Option D} {is : List Nat} {ρ : Rho} : Stp (Rest (11 :: is) (a0 :: a1 :: a2 :: a3 :: a4 :: a5 :: a6 :: a7 :: a8 :: a9 :: a10 :: none :: r) ρ QR) (Rest is (a0 :: a1 :: a2 :: a3 :: a4 :: a5 :: a6 :: a7 :: a8 :: a9 :: a10 :: none :: r) ρ QR) := ⟨fun h => rest_11 h⟩
instance i_rest_12 {r : Rho} {QR : Rho → Prop} {a0 a1 a2 a3 a4 a5 a6 a7 a8 a9 a10 a11 : Option D} {is : List Nat} {ρ : Rho} : Stp (Rest (12 :: is) (a0 :: a1 :: a2 :: a3 :: a4 :: a5 :: a6 :: a7 :: a8 :: a9 :: a10 :: a11 :: none :: r) ρ QR) (Rest is (a0 :: a1 :: a2 :: a3 :: a4 :: a5 :: a6 :: a7 :: a8 :: a9 :: a10 :: a11 :: none :: r) ρ QR) := ⟨fun h => rest_12 h⟩
instance i_rest_13 {r : Rho} {QR : Rho → Prop} {a0 a1 a2 a3 a4 a5 a6 a7 a8 a9 a10 a11 a12 : Option D} {is : List Nat} {ρ : Rho} : Stp (Rest (13 :: is) (a0 :: a1 :: a2 :: a3 :: a4 :: a5 :: a6 :: a7 :: a8 :: a9 :: a10 :: a11 :: a12 :: none :: r) ρ QR) (Rest is (a0 :: a1 :: a2 :: a3 :: a4 :: a5 :: a6 :: a7 :: a8 :: a9 :: a10 :: a11 :: a12 :: none :: r) ρ QR) := ⟨fun h => rest_13 h⟩
instance i_rest_14 {r : Rho} {QR : Rho → Prop} {a0 a1 a2 a3 a4 a5 a6 a7 a8 a9 a10 a11 a12 a13 : Option D} {is : List Nat} {ρ : Rho} : Stp (Rest (14 :: is) (a0 :: a1 :: a2 :: a3 :: a4 :: a5 :: a6 :: a7 :: a8 :: a9 :: a10 :: a11 :: a12 :: a13 :: none :: r) ρ QR) (Rest is (a0 :: a1 :: a2 :: a3 :: a4 :: a5 :: a6 :: a7 :: a8 :: a9 :: a10 :: a11 :: a12 :: a13 :: none :: r) ρ QR) := ⟨fun h => rest_14 h⟩
instance i_rest_15 {r : Rho} {QR : Rho → Prop} {a0 a1 a2 a3 a4 a5 a6 a7 a8 a9 a10 a11 a12 a13 a14 : Option D} {is : List Nat} {ρ : Rho} : Stp (Rest (15 :: is) (a0 :: a1 :: a2 :: a3 :: a4 :: a5 :: a6 :: a7 :: a8 :: a9 :: a10 :: a11 :: a12 :: a13 :: a14 :: none :: r) ρ QR) (Rest is (a0 :: a1 :: a2 :: a3 :: a4 :: a5 :: a6 :: a7 :: a8 :: a9 :: a10 :: a11 :: a12 :: a13 :: a14 :: none :: r) ρ QR) := ⟨fun h => rest_15 h⟩
instance i_rest_16 {r : Rho} {QR : Rho → Prop} {a0 a1 a2 a3 a4 a5 a6 a7 a8 a9 a10 a11 a12 a13 a14 a15 : Option D} {is : List Nat} {ρ : Rho} : Stp (Rest (16 :: is) (a0 :: a1 :: a2 :: a3 :: a4 :: a5 :: a6 :: a7 :: a8 :: a9 :: a10 :: a11 :: a12 :: a13 :: a14 :: a15 :: none :: r) ρ QR) (Rest is (a0 :: a1 :: a2 :: a3 :: a4 :: a5 :: a6 :: a7 :: a8 :: a9 :: a10 :: a11 :: a12 :: a13 :: a14 :: a15 :: none :: r) ρ QR) := ⟨fun h => rest_16 h⟩
instance i_rest_17 {r : Rho} {QR : Rho → Prop} {a0 a1 a2 a3 a4 a5 a6 a7 a8 a9 a10 a11 a12 a13 a14 a15 a16 : Option D} {is : List Nat} {ρ : Rho} : Stp (Rest (17 :: is) (a0 :: a1 :: a2 :: a3 :: a4 :: a5 :: a6 :: a7 :: a8 :: a9 :: a10 :: a11 :: a12 :: a13 :: a14 :: a15 :: a16 :: none :: r) ρ QR) (Rest is (a0 :: a1 :: a2 :: a3 :: a4 :: a5 :: a6 :: a7 :: a8 :: a9 :: a10 :: a11 :: a12 :: a13 :: a14 :: a15 :: a16 :: none :: r) ρ QR) := ⟨fun h => rest_17 h⟩
instance i_rest_18 {r : Rho} {QR : Rho → Prop} {a0 a1 a2 a3 a4 a5 a6 a7 a8 a9 a10 a11 a12 a13 a14 a15 a16 a17 : Option D} {is : List Nat} {ρ : Rho} : Stp (Rest (18 :: is) (a0 :: a1 :: a2 :: a3 :: a4 :: a5 :: a6 :: a7 :: a8 :: a9 :: a10 :: a11 :: a12 :: a13 :: a14 :: a15 :: a16 :: a17 :: none :: r) ρ QR) (Rest is (a0 :: a1 :: a2 :: a3 :: a4 :: a5 :: a6 :: a7 :: a8 :: a9 :: a10 :: a11 :: a12 :: a13 :: a14 :: a15 :: a16 :: a17 :: none :: r) ρ QR) := ⟨fun h => rest_18 h⟩
instance i_rest_19 {r : Rho} {QR : Rho → Prop} {a0 a1 a2 a3 a4 a5 a6 a7 a8 a9 a10 a11 a12 a13 a14 a15 a16 a17 a18 : Option D} {is : List Nat} {ρ : Rho} : Stp (Rest (19 :: is) (a0 :: a1 :: a2 :: a3 :: a4 :: a5 :: a6 :: a7 :: a8 :: a9 :: a10 :: a11 :: a12 :: a13 :: a14 :: a15 :: a16 :: a17 :: a18 :: none :: r) ρ QR) (Rest is (a0 :: a1 :: a2 :: a3 :: a4 :: a5 :: a6 :: a7 :: a8 :: a9 :: a10 :: a11 :: a12 :: a13 :: a14 :: a15 :: a16 :: a17 :: a18 :: none :: r) ρ QR) := ⟨fun h => rest_19 h⟩
instance i_rest_20 {r : Rho} {QR : Rho → Prop} {a0 a1 a2 a3 a4 a5 a6 a7 a8 a9 a10 a11 a12 a13 a14 a15 a16 a17 a18 a19 : Option D} {is : List Nat} {ρ : Rho} : Stp (Rest (20 :: is) (a0 :: a1 :: a2 :: a3 :: a4 :: a5 :: a6 :: a7 :: a8 :: a9 :: a10 :: a11 :: a12 :: a13 :: a14 :: a15 :: a16 :: a17 :: a18 :: a19 :: none :: r) ρ QR) (Rest is (a0 :: a1 :: a2 :: a3 :: a4 :: a5 :: a6 :: a7 :: a8 :: a9 :: a10 :: a11 :: a12 :: a13 :: a14 :: a15 :: a16 :: a17 :: a18 :: a19 :: none :: r) ρ QR) := ⟨fun h => rest_20 h⟩
instance i_rest_21 {r : Rho} {QR : Rho → Prop} {a0 a1 a2 a3 a4 a5 a6 a7 a8 a9 a10 a11 a12 a13 a14 a15 a16 a17 a18 a19 a20 : Option D} {is : List Nat} {ρ : Rho} : Stp (Rest (21 :: is) (a0 :: a1 :: a2 :: a3 :: a4 :: a5 :: a6 :: a7 :: a8 :: a9 :: a10 :: a11 :: a12 :: a13 :: a14 :: a15 :: a16 :: a17 :: a18 :: a19 :: a20 :: none :: r) ρ QR) (Rest is (a0 :: a1 :: a2 :: a3 :: a4 :: a5 :: a6 :: a7 :: a8 :: a9 :: a10 :: a11 :: a12 :: a13 :: a14 :: a15 :: a16 :: a17 :: a18 :: a19 :: a20 :: none :: r) ρ QR) := ⟨fun h => rest_21 h⟩
instance i_rest_22 {r : Rho} {QR : Rho → Prop} {a0 a1 a2 a3 a4 a5 a6 a7 a8 a9 a10 a11 a12 a13 a14 a15 a16 a17 a18 a19 a20 a21 : Option D} {is : List Nat} {ρ : Rho} : Stp (Rest (22 :: is) (a0 :: a1 :: a2 :: a3 :: a4 :: a5 :: a6 :: a7 :: a8 :: a9 :: a10 :: a11 :: a12 :: a13 :: a14 :: a15 :: a16 :: a17 :: a18 :: a19 :: a20 :: a21 :: none :: r) ρ QR) (Rest is (a0 :: a1 :: a2 :: a3 :: a4 :: a5 :: a6 :: a7 :: a8 :: a9 :: a10 :: a11 :: a12 :: a13 :: a14 :: a15 :: a16 :: a17 :: a18 :: a19 :: a20 :: a21 :: none :: r) ρ QR) := ⟨fun h => rest_22 h⟩
instance i_rest_23 {r : Rho} {QR : Rho → Prop} {a0 a1 a2 a3 a4 a5 a6 a7 a8 a9 a10 a11 a12 a13 a14 a15 a16 a17 a18 a19 a20 a21 a22 : Option D} {is : List Nat} {ρ : Rho} : Stp (Rest (23 :: is) (a0 :: a1 :: a2 :: a3 :: a4 :: a5 :: a6 :: a7 :: a8 :: a9 :: a10 :: a11 :: a12 :: a13 :: a14 :: a15 :: a16 :: a17 :: a18 :: a19 :: a20 :: a21 :: a22 :: none :: r) ρ QR) (Rest is (a0 :: a1 :: a2 :: a3 :: a4 :: a5 :: a6 :: a7 :: a8 :: a9 :: a10 :: a11 :: a12 :: a13 :: a14 :: a15 :: a16 :: a17 :: a18 :: a19 :: a20 :: a21 :: a22 :: none :: r) ρ QR) := ⟨fun h => rest_23 h⟩
instance i_rest_24 {r : Rho} {QR : Rho → Prop} {a0 a1 a2 a3 a4 a5 a6 a7 a8 a9 a10 a11 a12 a13 a14 a15 a16 a17 a18 a19 a20 a21 a22 a23 : Option D} {is : List Nat} {ρ : Rho} : Stp (Rest (24 :: is) (a0 :: a1 :: a2 :: a3 :: a4 :: a5 :: a6 :: a7 :: a8 :: a9 :: a10 :: a11 :: a12 :: a13 :: a14 :: a15 :: a16 :: a17 :: a18 :: a19 :: a20 :: a21 :: a22 :: a23 :: none :: r) ρ QR) (Rest is (a0 :: a1 :: a2 :: a3 :: a4 :: a5 :: a6 :: a7 :: a8 :: a9 :: a10 :: a11 :: a12 :: a13 :: a14 :: a15 :: a16 :: a17 :: a18 :: a19 :: a20 :: a21 :: a22 :: a23 :: none :: r) ρ QR) := ⟨fun h => rest_24 h⟩
/-! what is frozen -/
def FrzQ (d : D) (q : Prop) : Prop := d.frz = true ∧ q
theorem frzq {d : D} {q : Prop} (h : d.frz = true) (k : q) : FrzQ d q := ⟨h, k⟩
def FrzS (i : Nat) (d : D) (n : MS) (ρ : Rho) (R : Out → Prop) : Prop := ρ[i]? = some (some d) → Put i (some d.freeze) ρ fun ρ1 => WS n ρ1 R
section
variable {i : Nat} {d x : D} {n : MS} {ρ : Rho} {R : Out → Prop} {Q : D → Prop} {xs : List D} {o : Bool}
theorem frzs_z (h : d.frz = true) (k : WS n ρ R) : FrzS i d n ρ R := fun e => by
  unfold Put
  rw [freeze_frz d h, set_self e]
  exact k
theorem frzs_l (h : frzs xs = true) (k : Put i (some (.lst false xs)) ρ fun ρ1 => WS n ρ1 R) : FrzS i (.lst o xs) n ρ R := fun e => by
  simp only [D.freeze, freezes_frz xs h]
  exact k
theorem w_frzS (h : Get i ρ fun d => FrzS i d n ρ R) : WS (sFrz i n) ρ R := by
  obtain ⟨d, e, q⟩ := h
  exact w_frz ⟨d, e, q e⟩
theorem gef_of (h : Get i ρ fun d => FrzQ d (Q d)) : GetF i ρ Q := by
  obtain ⟨d, e, f, q⟩ := h
  exact ⟨d, e, f, q⟩
instance i_frzS : Stp (WS (sFrz i n) ρ R) (Get i ρ fun d => FrzS i d n ρ R) := ⟨w_frzS⟩
instance i_gef : Stp (GetF i ρ Q) (Get i ρ fun d => FrzQ d (Q d)) := ⟨gef_of⟩
end
section
variable {kp : List Nat} {np : Nat} {E : Exc → List (Option D) → Prop} {Q : D → List (Option D) → Prop} {ρ : Rho} {d : D} {e : Exc}
instance i_fn_rt : Stp (Fin kp np E Q (.rt d ρ)) (Q d (pick kp 0 np ρ)) := ⟨fun h => h⟩
instance i_fn_nx : Stp (Fin kp np E Q (.nx ρ)) (Q .non (pick kp 0 np ρ)) := ⟨fun h => h⟩
instance i_fn_exc : Stp (Fin kp np E Q (.exc e ρ)) (E e (pick kp 0 np ρ)) := ⟨fun h => h⟩
end
instance i_resv_0 {x : D} {r ρ : Rho} {is : List Nat} {QR : Rho → Prop} : Stp (Rest (0 :: is) (some x :: r) ρ QR) (FrzQ x (Put 0 (some x) ρ fun ρ1 => Rest is (some x :: r) ρ1 QR)) := ⟨fun h => resv_0 h.1 h.2⟩
instance i_resv_1 {x : D} {a0 : Option D} {r ρ : Rho} {is : List Nat} {QR : Rho → Prop} : Stp (Rest (1 :: is) (a0 :: some x :: r) ρ QR) (FrzQ x (Put 1 (some x) ρ fun ρ1 => Rest is (a0 :: some x :: r) ρ1 QR)) := ⟨fun h => resv_1 h.1 h.2⟩
instance i_resv_2 {x : D} {a0 a1 : Option D} {r ρ : Rho} {is : List Nat} {QR : Rho → Prop} : Stp (Rest (2 :: is) (a0 :: a1 :: some x :: r) ρ QR) (FrzQ x (Put 2 (some x) ρ fun ρ1 => Rest is (a0 :: a1 :: some x :: r) ρ1 QR)) := ⟨fun h => resv_2 h.1 h.2⟩
instance i_resv_3 {x : D} {a0 a1 a2 : Option D} {r ρ : Rho} {is : List Nat} {QR : Rho → Prop} : Stp (Rest (3 :: is) (a0 :: a1 :: a2 :: some x :: r) ρ QR) (FrzQ x (Put 3 (some x) ρ fun ρ1 => Rest is (a0 :: a1 :: a2 :: some x :: r) ρ1 QR)) := ⟨fun h => resv_3 h.1 h.2⟩
instance i_resv_4 {x : D} {a0 a1 a2 a3 : Option D} {r ρ : Rho} {is : List Nat} {QR : Rho → Prop} : Stp (Rest (4 :: is) (a0 :: a1 :: a2 :: a3 :: some x :: r) ρ QR) (FrzQ x (Put 4 (some x) ρ fun ρ1 => Rest is (a0 :: a1 :: a2 :: a3 :: some x :: r) ρ1 QR)) := ⟨fun h => resv_4 h.1 h.2⟩
instance i_resv_5 {x : D} {a0 a1 a2 a3 a4 : Option D} {r ρ : Rho} {is : List Nat} {QR : Rho → Prop} : Stp (Rest (5 :: is) (a0 :: a1 :: a2 :: a3 :: a4 :: some x :: r) ρ QR) (FrzQ x (Put 5 (some x) ρ fun ρ1 => Rest is (a0 :: a1 :: a2 :: a3 :: a4 :: some x :: r) ρ1 QR)) := ⟨fun h => resv_5 h.1 h.2⟩
instance i_resv_6 {x : D} {a0 a1 a2 a3 a4 a5 : Option D} {r ρ : Rho} {is : List Nat} {QR : Rho → Prop} : Stp (Rest (6 :: is) (a0 :: a1 :: a2 :: a3 :: a4 :: a5 :: some x :: r) ρ QR) (FrzQ x (Put 6 (some x) ρ fun ρ1 => Rest is (a0 :: a1 :: a2 :: a3 :: a4 :: a5 :: some x :: r) ρ1 QR)) := ⟨fun h => resv_6 h.1 h.2⟩
instance i_resv_7 {x : D} {a0 a1 a2 a3 a4 a5 a6 : Option D} {r ρ : Rho} {is : List Nat} {QR : Rho → Prop} : Stp (Rest (7 :: is) (a0 :: a1 :: a2 :: a3 :: a4 :: a5 :: a6 :: some x :: r) ρ QR) (FrzQ x (Put 7 (some x) ρ fun ρ1 => Rest is (a0 :: a1 :: a2 :: a3 :: a4 :: a5 :: a6 :: some x :: r) ρ1 QR)) := ⟨fun h => resv_7 h.1 h.2⟩
instance i_resv_8 {x : D} {a0 a1 a2 a3 a4 a5 a6 a7 : Option D} {r ρ : Rho} {is : List Nat} {QR : Rho → Prop} : Stp (Rest (8 :: is) (a0 :: a1 :: a2 :: a3 :: a4 :: a5 :: a6 :: a7 :: some x :: r) ρ QR) (FrzQ x (Put 8 (some x) ρ fun ρ1 => Rest is (a0 :: a1 :: a2 :: a3 :: a4 :: a5 :: a6 :: a7 :: some x :: r) ρ1 QR)) := ⟨fun h => resv_8 h.1 h.2⟩
instance i_resv_9 {x : D} {a0 a1 a2 a3 a4 a5 a6 a7 a8 : Option D} {r ρ : Rho} {is : List Nat} {QR : Rho → Prop} : Stp (Rest (9 :: is) (a0 :: a1 :: a2 :: a3 :: a4 :: a5 :: a6 :: a7 :: a8 :: some x :: r) ρ QR) (FrzQ x (Put 9 (some x) ρ fun ρ1 => Rest is (a0 :: a1 :: a2 :: a3 :: a4 :: a5 :: a6 :: a7 :: a8 :: some x :: r) ρ1 QR)) := ⟨fun h => resv_9 h.1 h.2⟩
instance i_resv_10 {x : D} {a0 a1 a2 a3 a4 a5 a6 a7 a8 a9 : Option D} {r ρ : Rho} {is : List Nat} {QR : Rho → Prop} : Stp (Rest (10 :: is) (a0 :: a1 :: a2 :: a3 :: a4 :: a5 :: a6 :: a7 :: a8 :: a9 :: some x :: r) ρ QR) (FrzQ x (Put 10 (some x) ρ fun ρ1 => Rest is (a0 :: a1 :: a2 :: a3 :: a4 :: a5 :: a6 :: a7 :: a8 :: a9 :: some x :: r) ρ1 QR)) := ⟨fun h => resv_10 h.1 h.2⟩
instance i_resv_11 {x : D} {a0 a1 a2 a3 a4 a5 a6 a7 a8 a9 a10 : Option D} {r ρ : Rho} {is : List Nat} {QR : Rho → Prop} : Stp (Rest (11 :: is) (a0 :: a1 :: a2 :: a3 :: a4 :: a5 :: a6 :: a7 :: a8 :: a9 :: a10 :: some x :: r) ρ QR) (FrzQ x (Put 11 (some x) ρ fun ρ1 => Rest is (a0 :: a1 :: a2 :: a3 :: a4 :: a5 :: a6 :: a7 :: a8 :: a9 :: a10 :: some x :: r) ρ1 QR)) := ⟨fun h => resv_11 h.1 h.2⟩
instance i_resv_12 {x : D} {a0 a1 a2 a3 a4 a5 a6 a7 a8 a9 a10 a11 : Option D} {r ρ : Rho} {is : List Nat} {QR : Rho → Prop} : Stp (Rest (12 :: is) (a0 :: a1 :: a2 :: a3 :: a4 :: a5 :: a6 :: a7 :: a8 :: a9 :: a10 :: a11 :: some x :: r) ρ QR) (FrzQ x (Put 12 (some x) ρ fun ρ1 => Rest is (a0 :: a1 :: a2 :: a3 :: a4 :: a5 :: a6 :: a7 :: a8 :: a9 :: a10 :: a11 :: some x :: r) ρ1 QR)) := ⟨fun h => resv_12 h.1 h.2⟩
instance i_resv_13 {x : D} {a0 a1 a2 a3 a4 a5 a6 a7 a8 a9 a10 a11 a12 : Option D} {r ρ : Rho} {is : List Nat} {QR : Rho → Prop} : Stp (Rest (13 :: is) (a0 :: a1 :: a2 :: a3 :: a4 :: a5 :: a6 :: a7 :: a8 :: a9 :: a10 :: a11 :: a12 :: some x :: r) ρ QR) (FrzQ x (Put 13 (some x) ρ fun ρ1 => Rest is (a0 :: a1 :: a2 :: a3 :: a4 :: a5 :: a6 :: a7 :: a8 :: a9 :: a10 :: a11 :: a12 :: some x :: r) ρ1 QR)) := ⟨fun h => resv_13 h.1 h.2⟩
instance i_resv_14 {x : D} {a0 a1 a2 a3 a4 a5 a6 a7 a8 a9 a10 a11 a12 a13 : Option D} {r ρ : Rho} {is : List Nat} {QR : Rho → Prop} : Stp (Rest (14 :: is) (a0 :: a1 :: a2 :: a3 :: a4 :: a5 :: a6 :: a7 :: a8 :: a9 :: a10 :: a11 :: a12 :: a13 :: some x :: r) ρ QR) (FrzQ x (Put 14 (some x) ρ fun ρ1 => Rest is (a0 :: a1 :: a2 :: a3 :: a4 :: a5 :: a6 :: a7 :: a8 :: a9 :: a10 :: a11 :: a12 :: a13 :: some x :: r) ρ1 QR)) := ⟨fun h => resv_14 h.1 h.2⟩
instance i_resv_15 {x : D} {a0 a1 a2 a3 a4 a5 a6 a7 a8 a9 a10 a11 a12 a13 a14 : Option D} {r ρ : Rho} {is : List Nat} {QR : Rho → Prop} : Stp (Rest (15 :: is) (a0 :: a1 :: a2 :: a3 :: a4 :: a5 :: a6 :: a7 :: a8 :: a9 :: a10 :: a11 :: a12 :: a13 :: a14 :: some x :: r) ρ QR) (FrzQ x (Put 15 (some x) ρ fun ρ1 => Rest is (a0 :: a1 :: a2 :: a3 :: a4 :: a5 :: a6 :: a7 :: a8 :: a9 :: a10 :: a11 :: a12 :: a13 :: a14 :: some x :: r) ρ1 QR)) := ⟨fun h => resv_15 h.1 h.2⟩
instance i_resv_16 {x : D} {a0 a1 a2 a3 a4 a5 a6 a7 a8 a9 a10 a11 a12 a13 a14 a15 : Option D} {r ρ : Rho} {is : List Nat} {QR : Rho → Prop} : Stp (Rest (16 :: is) (a0 :: a1 :: a2 :: a3 :: a4 :: a5 :: a6 :: a7 :: a8 :: a9 :: a10 :: a11 :: a12 :: a13 :: a14 :: a15 :: some x :: r) ρ QR) (FrzQ x (Put 16 (some x) ρ fun ρ1 => Rest is (a0 :: a1 :: a2 :: a3 :: a4 :: a5 :: a6 :: a7 :: a8 :: a9 :: a10 :: a11 :: a12 :: a13 :: a14 :: a15 :: some x :: r) ρ1 QR)) := ⟨fun h => resv_16 h.1 h.2⟩
instance i_resv_17 {x : D} {a0 a1 a2 a3 a4 a5 a6 a7 a8 a9 a10 a11 a12 a13 a14 a15 a16 : Option D} {r ρ : Rho} {is : List Nat} {QR : Rho → Prop} : Stp (Rest (17 :: is) (a0 :: a1 :: a2 :: a3 :: a4 :: a5 :: a6 :: a7 :: a8 :: a9 :: a10 :: a11 :: a12 :: a13 :: a14 :: a15 :: a16 :: some x :: r) ρ QR) (FrzQ x (Put 17 (some x) ρ fun ρ1 => Rest is (a0 :: a1 :: a2 :: a3 :: a4 :: a5 :: a6 :: a7 :: a8 :: a9 :: a10 :: a11 :: a12 :: a13 :: a14 :: a15 :: a16 :: some x :: r) ρ1 QR)) := ⟨fun h => resv_17 h.1 h.2⟩
instance i_resv_18 {x : D} {a0 a1 a2 a3 a4 a5 a6 a7 a8 a9 a10 a11 a12 a13 a14 a15 a16 a17 : Option D} {r ρ : Rho} {is : List Nat} {QR : Rho → Prop} : Stp (Rest (18 :: is) (a0 :: a1 :: a2 :: a3 :: a4 :: a5 :: a6 :: a7 :: a8 :: a9 :: a10 :: a11 :: a12 :: a13 :: a14 :: a15 :: a16 :: a17 :: some x :: r) ρ QR) (FrzQ x (Put 18 (some x) ρ fun ρ1 => Rest is (a0 :: a1 :: a2 :: a3 :: a4 :: a5 :: a6 :: a7 :: a8 :: a9 :: a10 :: a11 :: a12 :: a13 :: a14 :: a15 :: a16 :: a17 :: some x :: r) ρ1 QR)) := ⟨fun h => resv_18 h.1 h.2⟩
instance i_resv_19 {x : D} {a0 a1 a2 a3 a4 a5 a6 a7 a8 a9 a10 a11 a12 a13 a14 a15 a16 a17 a18 : Option D} {r ρ : Rho} {is : List Nat} {QR : Rho → Prop} : Stp (Rest (19 :: is) (a0 :: a1 :: a2 :: a3 :: a4 :: a5 :: a6 :: a7 :: a8 :: a9 :: a10 :: a11 :: a12 :: a13 :: a14 :: a15 :: a16 :: a17 :: a18 :: some x :: r) ρ QR) (FrzQ x (Put 19 (some x) ρ fun ρ1 => Rest is (a0 :: a1 :: a2 :: a3 :: a4 :: a5 :: a6 :: a7 :: a8 :: a9 :: a10 :: a11 :: a12 :: a13 :: a14 :: a15 :: a16 :: a17 :: a18 :: some x :: r) ρ1 QR)) := ⟨fun h => resv_19 h.1 h.2⟩
instance i_resv_20 {x : D} {a0 a1 a2 a3 a4 a5 a6 a7 a8 a9 a10 a11 a12 a13 a14 a15 a16 a17 a18 a19 : Option D} {r ρ : Rho} {is : List Nat} {QR : Rho → Prop} : Stp (Rest (20 :: is) (a0 :: a1 :: a2 :: a3 :: a4 :: a5 :: a6 :: a7 :: a8 :: a9 :: a10 :: a11 :: a12 :: a13 :: a14 :: a15 :: a16 :: a17 :: a18 :: a19 :: some x :: r) ρ QR) (FrzQ x (Put 20 (some x) ρ fun ρ1 => Rest is (a0 :: a1 :: a2 :: a3 :: a4 :: a5 :: a6 :: a7 :: a8 :: a9 :: a10 :: a11 :: a12 :: a13 :: a14 :: a15 :: a16 :: a17 :: a18 :: a19 :: some x :: r) ρ1 QR)) := ⟨fun h => resv_20 h.1 h.2⟩
instance i_resv_21 {x : D} {a0 a1 a2 a3 a4 a5 a6 a7 a8 a9 a10 a11 a12 a13 a14 a15 a16 a17 a18 a19 a20 : Option D} {r ρ : Rho} {is : List Nat} {QR : Rho → Prop} : Stp (Rest (21 :: is) (a0 :: a1 :: a2 :: a3 :: a4 :: a5 :: a6 :: a7 :: a8 :: a9 :: a10 :: a11 :: a12 :: a13 :: a14 :: a15 :: a16 :: a17 :: a18 :: a19 :: a20 :: some x :: r) ρ QR) (FrzQ x (Put 21 (some x) ρ fun ρ1 => Rest is (a0 :: a1 :: a2 :: a3 :: a4 :: a5 :: a6 :: a7 :: a8 :: a9 :: a10 :: a11 :: a12 :: a13 :: a14 :: a15 :: a16 :: a17 :: a18 :: a19 :: a20 :: some x :: r) ρ1 QR)) := ⟨fun h => resv_21 h.1 h.2⟩
instance i_resv_22 {x : D} {a0 a1 a2 a3 a4 a5 a6 a7 a8 a9 a10 a11 a12 a13 a14 a15 a16 a17 a18 a19 a20 a21 : Option D} {r ρ : Rho} {is : List Nat} {QR : Rho → Prop} : Stp (Rest (22 :: is) (a0 :: a1 :: a2 :: a3 :: a4 :: a5 :: a6 :: a7 :: a8 :: a9 :: a10 :: a11 :: a12 :: a13 :: a14 :: a15 :: a16 :: a17 :: a18 :: a19 :: a20 :: a21 :: some x :: r) ρ QR) (FrzQ x (Put 22 (some x) ρ fun ρ1 => Rest is (a0 :: a1 :: a2 :: a3 :: a4 :: a5 :: a6 :: a7 :: a8 :: a9 :: a10 :: a11 :: a12 :: a13 :: a14 :: a15 :: a16 :: a17 :: a18 :: a19 :: a20 :: a21 :: some x :: r) ρ1 QR)) := ⟨fun h => resv_22 h.1 h.2⟩
instance i_resv_23 {x : D} {a0 a1 a2 a3 a4 a5 a6 a7 a8 a9 a10 a11 a12 a13 a14 a15 a16 a17 a18 a19 a20 a21 a22 : Option D} {r ρ : Rho} {is : List Nat} {QR : Rho → Prop} : Stp (Rest (23 :: is) (a0 :: a1 :: a2 :: a3 :: a4 :: a5 :: a6 :: a7 :: a8 :: a9 :: a10 :: a11 :: a12 :: a13 :: a14 :: a15 :: a16 :: a17 :: a18 :: a19 :: a20 :: a21 :: a22 :: some x :: r) ρ QR) (FrzQ x (Put 23 (some x) ρ fun ρ1 => Rest is (a0 :: a1 :: a2 :: a3 :: a4 :: a5 :: a6 :: a7 :: a8 :: a9 :: a10 :: a11 :: a12 :: a13 :: a14 :: a15 :: a16 :: a17 :: a18 :: a19 :: a20 :: a21 :: a22 :: some x :: r) ρ1 QR)) := ⟨fun h => resv_23 h.1 h.2⟩
instance i_resv_24 {x : D} {a0 a1 a2 a3 a4 a5 a6 a7 a8 a9 a10 a11 a12 a13 a14 a15 a16 a17 a18 a19 a20 a21 a22 a23 : Option D} {r ρ : Rho} {is : List Nat} {QR : Rho → Prop} : Stp (Rest (24 :: is) (a0 :: a1 :: a2 :: a3 :: a4 :: a5 :: a6 :: a7 :: a8 :: a9 :: a10 :: a11 :: a12 :: a13 :: a14 :: a15 :: a16 :: a17 :: a18 :: a19 :: a20 :: a21 :: a22 :: a23 :: some x :: r) ρ QR) (FrzQ x (Put 24 (some x) ρ fun ρ1 => Rest is (a0 :: a1 :: a2 :: a3 :: a4 :: a5 :: a6 :: a7 :: a8 :: a9 :: a10 :: a11 :: a12 :: a13 :: a14 :: a15 :: a16 :: a17 :: a18 :: a19 :: a20 :: a21 :: a22 :: a23 :: some x :: r) ρ1 QR)) := ⟨fun h => resv_24 h.1 h.2⟩
/-! looks at the head -/
theorem gBif {b : Bool} {A B : Prop} (h : Bif b A B) : Bif b A B := h
theorem gWF {f : Fo} {E : Exc → List (Option D) → Prop} {Q : D → List (Option D) → Prop} (h : WF f E Q) : WF f E Q := h
theorem gLcx {g : D → Rho → Option Rho} {mc : M Bool} {m : M D} {vs : List Nat} {xs acc : List D} {ρ : Rho} {K : List D → Rho → Prop} (h : Lcx g mc m vs xs acc ρ K) : Lcx g mc m vs xs acc ρ K := h
theorem gRg {d : D} {Q : List D → Prop} (h : IsRg d Q) : IsRg d Q := h
theorem gSui {i : Option Nat} {R : Out → Prop} {o : Out} (h : Suited i R o) : Suited i R o := h
theorem gBk {as : List ArgV} {ds : List D} {ps : List (Option D)} {ρ : Rho} {Q : Rho → Prop} (h : Back as ds ps ρ Q) : Back as ds ps ρ Q := h
theorem gW {α : Type} {m : M α} {ρ : Rho} {E : Exc → Rho → Prop} {Q : α → Rho → Prop} (h : W m ρ E Q) : W m ρ E Q := h
end Eng
local macro_rules | `(tactic| walk_at "EV2") => `(tactic| (first | ((with_reducible refine Eng.frzq ?_ ?_); (first | rfl | assumption)) | ((with_reducible refine Eng.frzs_z ?_ ?_); (first | rfl | assumption)) | ((with_reducible refine Eng.frzs_l ?_ ?_); (first | rfl | assumption)) | ((with_reducible refine Eng.gBif ?_); (first | ((with_reducible refine Eng.bif_dT ?_ ?_); (decide)) | ((with_reducible refine Eng.bif_dF ?_ ?_); (decide)) | with_reducible refine Eng.bif_dec (fun h => ?_) (fun h => ?_))) | ((with_reducible refine Eng.gWO ?_); (first | with_reducible refine Eng.wo_eqs ?_ | with_reducible refine Eng.wo_nes ?_ | with_reducible refine Eng.wo_lenl ?_ | with_reducible refine Eng.wo_lent ?_ | with_reducible refine Eng.wo_itl ?_ | with_reducible refine Eng.wo_itt ?_ | with_reducible refine Eng.wo_its ?_ | with_reducible refine Eng.wo_mod (by first | assumption | omega) ?_ | with_reducible refine Eng.wo_fdiv (by first | assumption | omega) (by first | assumption | omega) ?_ | with_reducible refine Eng.wo_mul (by first | assumption | omega) (by first | assumption | omega) ?_ | with_reducible refine Eng.wo_adds (by (first | assumption | decide | omega | (simp only [List.length_map, List.length_reverse, List.length_append]; omega))) ?_ | with_reducible refine Eng.wo_lens (by (first | assumption | decide | omega | (simp only [List.length_map, List.length_reverse, List.length_append]; omega))) ?_ | with_reducible refine Eng.wo_sls (by (first | assumption | decide | omega | (simp only [List.length_map, List.length_reverse, List.length_append]; omega))) ?_ | with_reducible refine Eng.wo_rev (by (first | assumption | decide | omega | (simp only [List.length_map, List.length_reverse, List.length_append]; omega))) ?_ | with_reducible refine Eng.wo_swap (by first | assumption | omega | rfl | decide) (by (first | assumption | decide | omega | (simp only [List.length_map, List.length_reverse, List.length_append]; omega))) ?_ | with_reducible refine Eng.wo_up (by first | assumption | omega | rfl | decide) (by (first | assumption | decide | omega | (simp only [List.length_map, List.length_reverse, List.length_append]; omega))) ?_ | with_reducible refine Eng.wo_lo (by first | assumption | omega | rfl | decide) (by (first | assumption | decide | omega | (simp only [List.length_map, List.length_reverse, List.length_append]; omega))) ?_ | with_reducible refine Eng.wo_islow (by first | assumption | rfl | decide) ?_ | with_reducible refine Eng.wo_isup (by first | assumption | rfl | decide) ?_ | with_reducible refine Eng.wo_rg2 (by omega) ?_ | with_reducible refine Eng.wo_pow (by decide) ?_ | ((with_reducible refine Eng.wo_isi ?_ ?_); (first | exact Eng.ib_non_int | exact Eng.ib_non_str | exact Eng.ib_non_bool | exact Eng.ib_non_list | exact Eng.ib_non_tuple | exact Eng.ib_non_dict | exact Eng.ib_bl_int | exact Eng.ib_bl_str | exact Eng.ib_bl_bool | exact Eng.ib_bl_list | exact Eng.ib_bl_tuple | exact Eng.ib_bl_dict | exact Eng.ib_int_int | exact Eng.ib_int_str | exact Eng.ib_int_bool | exact Eng.ib_int_list | exact Eng.ib_int_tuple | exact Eng.ib_int_dict | exact Eng.ib_str_int | exact Eng.ib_str_str | exact Eng.ib_str_bool | exact Eng.ib_str_list | exact Eng.ib_str_tuple | exact Eng.ib_str_dict | exact Eng.ib_lst_int | exact Eng.ib_lst_str | exact Eng.ib_lst_bool | exact Eng.ib_lst_list | exact Eng.ib_lst_tuple | exact Eng.ib_lst_dict | exact Eng.ib_tup_int | exact Eng.ib_tup_str | exact Eng.ib_tup_bool | exact Eng.ib_tup_list | exact Eng.ib_tup_tuple | exact Eng.ib_tup_dict | exact Eng.ib_dic_int | exact Eng.ib_dic_str | exact Eng.ib_dic_bool | exact Eng.ib_dic_list | exact Eng.ib_dic_tuple | exact Eng.ib_dic_dict)) | ((with_reducible apply Eng.wo_ixs); (first | assumption | omega); assumption) | ((with_reducible apply Eng.wo_ixl); (first | assumption | rfl)) | ((with_reducible apply Eng.wo); (assumption)) | ((with_reducible apply Eng.wo); (rfl)))) | ((with_reducible refine Eng.gRg ?_); (with_reducible refine Eng.is_rg (by omega) (by omega) ?_)) | ((with_reducible refine Eng.gBk ?_); (with_reducible refine Eng.bk_lendO ?_ ?_); (rfl)) | ((with_reducible refine Eng.gSui ?_); (first | ((with_reducible refine Eng.su_nx ?_ ?_); (first | rfl | assumption)) | ((with_reducible refine Eng.su_rt ?_ ?_ ?_); (first | rfl | assumption); (first | rfl | assumption)) | with_reducible refine Eng.sn_nx ?_)) | ((with_reducible refine Eng.gW ?_); (first | with_reducible refine Eng.w_lc ?_ | ((with_reducible refine Eng.w_ise (b := true) ?_ ?_ ?_); (rfl); (rfl)) | ((with_reducible refine Eng.w_ise (b := false) ?_ ?_ ?_); (rfl); (rfl)))) | ((with_reducible refine Eng.hd_no ?_ ?_); (rfl)) | ((with_reducible refine Eng.hd_plain ?_ ?_ ?_); (rfl); (first | rfl | assumption)) | ((with_reducible refine Eng.hd_named ?_ ?_ ?_ ?_ ?_); (rfl); (first | rfl | assumption); (first | decide | simp); (first | rfl | assumption)) | ((with_reducible refine Eng.gEx ?_); (first | (refine ⟨_, rfl, ?_⟩) | (refine ⟨_, _, rfl, rfl, ?_⟩))) | ((with_reducible refine Eng.gAnd ?_); (first | (refine ⟨rfl, ?_⟩) | (apply And.intro; (first | decide | omega | exact Nat.le_of_ble_eq_true rfl))))))
local macro_rules | `(tactic| walk_at "EV1") => `(tactic| (first | with_reducible refine Eng.Stp.imp ?_ | walk_at "EV2"))
/-! the words of deeds: what is left when pairs are struck out -/
namespace Words
open Eng
theorem sw_sw (c : Nat) : sw1 (sw1 c) = c := by
  unfold sw1
  repeat' split
  all_goals omega
theorem sw_inj {c d : Nat} (h : sw1 c = sw1 d) : c = d := by rw [← sw_sw c, h, sw_sw]
def act (c : Nat) : List Nat → List Nat
  | [] => [c]
  | d :: r => if d = sw1 c then r else c :: d :: r
def F (w s : List Nat) : List Nat := w.foldl (fun s c => act c s) s
def nf (w : List Nat) : List Nat := (F w []).reverse
def back (w : List Nat) : List Nat := w.reverse.map sw1
def Red : List Nat → Prop
  | [] => True
  | [_] => True
  | a :: b :: r => b ≠ sw1 a ∧ Red (b :: r)
theorem red0 : Red [] := trivial
theorem Red.tail {a : Nat} {r : List Nat} (h : Red (a :: r)) : Red r := by
  cases r with
  | nil => trivial
  | cons b r => exact h.2
theorem red_act {c : Nat} {s : List Nat} (h : Red s) : Red (act c s) := by
  cases s with
  | nil => trivial
  | cons d r =>
    by_cases n : d = sw1 c
    · rw [act, if_pos n]; exact h.tail
    · rw [act, if_neg n]; exact ⟨n, h⟩
theorem act_inv {c : Nat} {s : List Nat} (h : Red s) : act (sw1 c) (act c s) = s := by
  cases s with
  | nil => simp [act, sw_sw]
  | cons d r =>
    by_cases e : d = sw1 c
    · subst e
      rw [act, if_pos rfl]
      cases r with
      | nil => rfl
      | cons b r =>
        have n := h.1
        rw [act, if_neg n]
    · rw [act, if_neg e, act, if_pos (sw_sw c).symm]
theorem F_app (u v s : List Nat) : F (u ++ v) s = F v (F u s) := List.foldl_append
theorem F_cons (c : Nat) (w s : List Nat) : F (c :: w) s = F w (act c s) := rfl
theorem F_red {w : List Nat} : ∀ {s : List Nat}, Red s → Red (F w s) := by
  induction w with
  | nil => exact fun h => h
  | cons c w ih => exact fun h => ih (red_act h)
theorem back_cons (c : Nat) (w : List Nat) : back (c :: w) = back w ++ [sw1 c] := by simp [back]
theorem back_back (w : List Nat) : back (back w) = w := by
  unfold back
  rw [← List.map_reverse, List.map_map, List.reverse_reverse]
  conv => rhs; rw [← List.map_id w]
  exact List.map_congr_left fun c _ => sw_sw c
theorem back_app (u v : List Nat) : back (u ++ v) = back v ++ back u := by simp [back]
theorem back_len (w : List Nat) : (back w).length = w.length := by simp [back]
theorem F_back {w : List Nat} : ∀ {s : List Nat}, Red s → F (back w) (F w s) = s := by
  induction w with
  | nil => exact fun _ => rfl
  | cons c w ih =>
    intro s h
    rw [back_cons, F_app, F_cons c w, ih (red_act h)]
    exact act_inv h
theorem F_back2 {w s : List Nat} (h : Red s) : F w (F (back w) s) = s := by
  conv => lhs; arg 1; rw [← back_back w]
  exact F_back h
theorem F_one {c : Nat} {st s : List Nat} (hs : Red s) : F (act c st).reverse s = act c (F st.reverse s) := by
  cases st with
  | nil => rfl
  | cons d r =>
    by_cases e : d = sw1 c
    · rw [act, if_pos e, List.reverse_cons, F_app]
      show _ = act c (act d _)
      rw [show c = sw1 d by rw [e, sw_sw]]
      exact (act_inv (F_red hs)).symm
    · rw [act, if_neg e, List.reverse_cons, F_app]
      rfl
theorem F_stack {s : List Nat} (hs : Red s) : ∀ (w st : List Nat), F (F w st).reverse s = F w (F st.reverse s)
  | [], st => rfl
  | c :: w, st => by rw [F_cons, F_stack hs w, F_one hs]; rfl
theorem F_nf {w s : List Nat} (hs : Red s) : F (nf w) s = F w s := F_stack hs w []
theorem red_app : ∀ {x y : List Nat}, Red x → Red y → (∀ a b, x.getLast? = some a → y.head? = some b → b ≠ sw1 a) → Red (x ++ y)
  | [], y, _, hy, _ => hy
  | [a], [], _, _, _ => trivial
  | [a], b :: r, _, hy, h => ⟨h a b rfl rfl, hy⟩
  | a :: b :: r, y, hx, hy, h => ⟨hx.1, red_app (x := b :: r) hx.2 hy fun c d e => h c d (by rw [List.getLast?_cons_cons]; exact e)⟩
theorem red_rev : ∀ {x : List Nat}, Red x → Red x.reverse
  | [], _ => trivial
  | [a], _ => trivial
  | a :: b :: r, h => by
    rw [List.reverse_cons]
    refine red_app (red_rev h.2) trivial fun c d hc hd => ?_
    rw [List.getLast?_reverse] at hc
    cases hc; cases hd
    exact fun e => h.1 (by rw [e, sw_sw])
theorem red_map : ∀ {x : List Nat}, Red x → Red (x.map sw1)
  | [], _ => trivial
  | [a], _ => trivial
  | a :: b :: r, h => ⟨fun e => h.1 (sw_inj e), red_map (x := b :: r) h.2⟩
theorem red_back {x : List Nat} (h : Red x) : Red (back x) := red_map (red_rev h)
theorem red_nf (w : List Nat) : Red (nf w) := red_rev (F_red (by trivial))
theorem F_of_red : ∀ {st : List Nat}, Red st → F st.reverse [] = st
  | [], _ => rfl
  | c :: st, h => by
    rw [List.reverse_cons, F_app, F_of_red h.tail]
    cases st with
    | nil => rfl
    | cons d r =>
      show act c (d :: r) = _
      rw [act, if_neg h.1]
theorem nf_of_red {w : List Nat} (h : Red w) : nf w = w := by
  unfold nf
  rw [← List.reverse_reverse w, F_of_red (red_rev h), List.reverse_reverse]
theorem F_back_nf {w s : List Nat} (hs : Red s) : F (back (nf w)) s = F (back w) s := by
  have h : s = F (nf w) (F (back w) s) := by rw [F_nf (F_red hs), F_back2 hs]
  conv => lhs; rw [h]
  exact F_back (F_red hs)
theorem nf_back (w : List Nat) : nf (back w) = back (nf w) := by
  rw [← nf_of_red (red_back (red_nf w))]
  unfold nf
  exact congrArg List.reverse (F_back_nf (w := w) red0).symm
theorem nf_app_nf (u v w : List Nat) : nf (u ++ nf v ++ w) = nf (u ++ v ++ w) := by
  unfold nf
  rw [F_app, F_app, F_app, F_app]
  have h : F (F v []).reverse (F u []) = F v (F u []) := F_nf (F_red red0)
  rw [h]
theorem undone_undone (w : List Nat) : back (nf (back (nf w))) = nf w := by rw [nf_back, nf_of_red (red_nf w), back_back]
theorem turned_back (row b : List Nat) : nf (back (nf b) ++ nf (b ++ row ++ back b) ++ back (back (nf b))) = nf row := by
  rw [nf_app_nf, back_back]
  unfold nf
  have t0 : Red ([] : List Nat) := trivial
  rw [F_app, F_app, F_app, F_app]
  have h1 : F (back (F b []).reverse) [] = F (back b) [] := F_back_nf (w := b) t0
  rw [h1, F_back2 t0]
  have h2 : ∀ s, Red s → F (F b []).reverse s = F b s := fun s hs => F_nf hs
  rw [h2 _ (F_red (F_red t0)), F_back2 (F_red t0)]
theorem join_back (w : List Nat) : nf (w ++ back (nf w)) = [] := by
  unfold nf
  rw [F_app]
  have h := F_back_nf (w := w) (s := F w []) (F_red red0)
  unfold nf at h
  rw [h, F_back red0]
  rfl
theorem back_join (w : List Nat) : nf (back (nf w) ++ w) = [] := by
  unfold nf
  rw [F_app]
  have h := F_back_nf (w := w) (s := []) red0
  unfold nf at h
  rw [h, F_back2 red0]
  rfl
/-! powers -/
def It (f : List Nat → List Nat) : Nat → List Nat → List Nat
  | 0, s => s
  | n + 1, s => f (It f n s)
def Z (w : List Nat) (t : Int) (s : List Nat) : List Nat := if 0 ≤ t then It (F w) t.toNat s else It (F (back w)) (-t).toNat s
theorem It_red {w : List Nat} : ∀ n {s}, Red s → Red (It (F w) n s)
  | 0, _, h => h
  | n + 1, _, h => F_red (It_red n h)
theorem Z_red {w : List Nat} {t : Int} {s : List Nat} (h : Red s) : Red (Z w t s) := by
  unfold Z
  split <;> exact It_red _ h
theorem Z_up {w : List Nat} {t : Int} {s : List Nat} (h : Red s) : Z w (t + 1) s = F w (Z w t s) := by
  unfold Z
  by_cases h0 : 0 ≤ t
  · rw [if_pos h0, if_pos (by omega), show (t + 1).toNat = t.toNat + 1 by omega]; rfl
  · rw [if_neg h0]
    obtain ⟨n, hn⟩ : ∃ n : Nat, (-t).toNat = n + 1 := ⟨(-t).toNat - 1, by omega⟩
    rw [hn]
    show _ = F w (F (back w) (It (F (back w)) n s))
    rw [F_back2 (It_red n h)]
    by_cases h1 : 0 ≤ t + 1
    · rw [if_pos h1, show (t + 1).toNat = 0 by omega, show n = 0 by omega]; rfl
    · rw [if_neg h1, show (-(t + 1)).toNat = n by omega]
theorem Z_dn {w : List Nat} {t : Int} {s : List Nat} (h : Red s) : Z w (t - 1) s = F (back w) (Z w t s) := by
  have e := Z_up (w := w) (t := t - 1) h
  rw [show t - 1 + 1 = t by omega] at e
  rw [e, F_back (Z_red h)]
theorem Z_add {w : List Nat} {a : Int} {s : List Nat} (h : Red s) : ∀ b : Int, Z w b (Z w a s) = Z w (a + b) s := by
  have up : ∀ n : Nat, Z w n (Z w a s) = Z w (a + n) s := fun n => by
    induction n with
    | zero => show Z w 0 _ = _; rw [show a + ((0 : Nat) : Int) = a by omega]; rfl
    | succ n ih => rw [show ((n + 1 : Nat) : Int) = (n : Int) + 1 by omega, Z_up (Z_red h), ih, ← Z_up h, Int.add_assoc]
  have dn : ∀ n : Nat, Z w (-(n : Int)) (Z w a s) = Z w (a + -(n : Int)) s := fun n => by
    induction n with
    | zero => show Z w 0 _ = _; rw [show a + -((0 : Nat) : Int) = a by omega]; rfl
    | succ n ih => rw [show -((n + 1 : Nat) : Int) = -(n : Int) - 1 by omega, Z_dn (Z_red h), ih, ← Z_dn h, show a + -(n : Int) - 1 = a + (-(n : Int) - 1) by omega]
  intro b
  by_cases hb : 0 ≤ b
  · have := up b.toNat
    rwa [Int.toNat_of_nonneg hb] at this
  · have := dn (-b).toNat
    rwa [Int.toNat_of_nonneg (by omega), Int.neg_neg] at this
def Pw (w : List Nat) (t : Int) : List Nat := (Z w t []).reverse
theorem red_Pw (w : List Nat) (t : Int) : Red (Pw w t) := red_rev (Z_red red0)
theorem F_rep (w : List Nat) : ∀ (n : Nat) (s : List Nat), F (List.replicate n w).flatten s = It (F w) n s
  | 0, s => rfl
  | n + 1, s => by
    rw [List.replicate_succ', List.flatten_append, F_app, F_rep w n]
    simp [It]
theorem nf_rep (w : List Nat) (n : Nat) : nf (List.replicate n w).flatten = Pw w n := by
  unfold nf Pw Z
  rw [F_rep, if_pos (by omega)]; rfl
theorem nf_repB (w : List Nat) {t : Int} (h : t < 0) : nf (List.replicate (-t).toNat (back w)).flatten = Pw w t := by
  unfold nf Pw Z
  rw [F_rep, if_neg (by omega)]
theorem Pw_zero (w : List Nat) : Pw w 0 = [] := rfl
theorem Pw_one (w : List Nat) : Pw w 1 = nf w := rfl
theorem Pw_neg1 (w : List Nat) : Pw w (-1) = back (nf w) := by rw [← nf_back]; rfl
theorem F_Pw {w : List Nat} {t : Int} {s : List Nat} (hs : Red s) : F (Pw w t) s = Z w t s := by
  unfold Pw
  unfold Z
  split
  · rw [← F_rep w, ← F_rep w, F_stack hs]; rfl
  · rw [← F_rep, ← F_rep, F_stack hs]; rfl
theorem join_Pw (w : List Nat) (a b : Int) : nf (Pw w a ++ Pw w b) = Pw w (a + b) := by
  unfold nf
  rw [F_app, F_Pw red0, F_Pw (Z_red red0), Z_add red0]
  rfl
/-- a turned row so often -/
theorem F_conj (x m : List Nat) : ∀ (n : Nat) (s : List Nat), Red s → F (x ++ (List.replicate n m).flatten ++ back x) s = It (F (x ++ m ++ back x)) n s
  | 0, s, h => by simp only [List.replicate_zero, List.flatten_nil, List.append_nil]; rw [F_app, F_back h]; rfl
  | n + 1, s, h => by
    show _ = F (x ++ m ++ back x) (It (F (x ++ m ++ back x)) n s)
    rw [← F_conj x m n s h]
    rw [List.replicate_succ', List.flatten_append]
    simp only [F_app, List.flatten_cons, List.flatten_nil, List.append_nil]
    rw [F_back2 (F_red (F_red h))]
theorem last_flat {m : List Nat} (hm : m ≠ []) : ∀ n : Nat, (List.replicate (n + 1) m).flatten.getLast? = m.getLast? := fun n => by
  rw [List.replicate_succ', List.flatten_append, List.getLast?_append]
  simp only [List.flatten_cons, List.flatten_nil, List.append_nil]
  cases h : m.getLast? with
  | none => exact absurd (List.getLast?_eq_none_iff.mp h) hm
  | some a => rfl
theorem head_flat {m : List Nat} (hm : m ≠ []) : ∀ n : Nat, (List.replicate (n + 1) m).flatten.head? = m.head? := fun n => by
  cases m with
  | nil => exact absurd rfl hm
  | cons a r => rfl
theorem red_rep {m : List Nat} (hm : m ≠ []) (hr : Red m) (hc : ∀ a b, m.getLast? = some a → m.head? = some b → b ≠ sw1 a) : ∀ n : Nat, Red (List.replicate n m).flatten
  | 0 => trivial
  | 1 => by simpa using hr
  | n + 2 => by
    show Red (m ++ (List.replicate (n + 1) m).flatten)
    refine red_app hr (red_rep hm hr hc (n + 1)) fun a b ha hb => hc a b ha ?_
    rw [← head_flat hm n]; exact hb
theorem red_split {x y : List Nat} : ∀ (h : Red (x ++ y)), Red x ∧ Red y ∧ ∀ a b, x.getLast? = some a → y.head? = some b → b ≠ sw1 a := by
  induction x with
  | nil => exact fun h => ⟨trivial, h, fun a b e => by cases e⟩
  | cons c x ih =>
    intro h
    cases x with
    | nil =>
      cases y with
      | nil => exact ⟨trivial, trivial, fun a b _ e => by cases e⟩
      | cons d r => exact ⟨trivial, h.2, fun a b e1 e2 => by cases e1; cases e2; exact h.1⟩
    | cons d r =>
      obtain ⟨h1, h2, h3⟩ := ih h.2
      exact ⟨⟨h.1, h1⟩, h2, fun a b e1 e2 => h3 a b (by rw [List.getLast?_cons_cons] at e1; exact e1) e2⟩
theorem conj_pow {w x m : List Nat} (hw : nf w = x ++ m ++ back x) (hm : m ≠ []) (hc : ∀ a b, m.getLast? = some a → m.head? = some b → b ≠ sw1 a) (n : Nat) : x ++ (List.replicate (n + 1) m).flatten ++ back x = Pw w ((n + 1 : Nat) : Int) := by
  have hr : Red (x ++ m ++ back x) := hw ▸ red_nf w
  obtain ⟨r1, r2, r3⟩ := red_split hr
  obtain ⟨r4, r5, r6⟩ := red_split r1
  have hl : ∀ {u v : List Nat}, v ≠ [] → (u ++ v).getLast? = v.getLast? := fun {u v} hv => by
    rw [List.getLast?_append]
    cases h : v.getLast? with
    | none => exact absurd (List.getLast?_eq_none_iff.mp h) hv
    | some a => rfl
  have red : Red (x ++ (List.replicate (n + 1) m).flatten ++ back x) := by
    have ne : (List.replicate (n + 1) m).flatten ≠ [] := fun e => by
      have := last_flat hm n
      rw [e] at this
      exact hm (List.getLast?_eq_none_iff.mp this.symm)
    refine red_app (red_app r4 (red_rep hm r5 hc (n + 1)) fun a b ha hb => r6 a b ha (by rw [← head_flat hm n]; exact hb)) r2 fun a b ha hb => r3 a b ?_ hb
    rw [hl ne, last_flat hm n] at ha
    rw [hl hm]
    exact ha
  rw [← nf_of_red red]
  unfold nf Pw Z
  rw [F_conj x m _ _ red0, if_pos (by omega), ← hw]
  congr 1
  have : ∀ k, It (F (nf w)) k [] = It (F w) k [] := fun k => by
    induction k with
    | zero => rfl
    | succ k ih => show F (nf w) (It (F (nf w)) k []) = F w _; rw [ih, F_nf (It_red k red0)]
  exact this (n + 1)
end Words
/-! ends of a net, what a net so often is -/
namespace Words
open Eng
def Ends (s : List Nat) (k : Nat) : Prop := 2 * k ≤ s.length ∧ ∀ i, i < k → ∀ c d, s[i]? = some c → s[s.length - 1 - i]? = some d → c = sw1 d
def EndK (s : List Nat) (k : Nat) : Prop := Ends s k ∧ ∀ c d, 2 * k + 1 < s.length → s[k]? = some c → s[s.length - 1 - k]? = some d → c ≠ sw1 d
theorem endk_le {s : List Nat} {k j : Nat} (h : EndK s k) (g : Ends s j) : j ≤ k := by
  rcases Nat.lt_or_ge k j with hlt | hge
  · exfalso
    have h1 := g.1
    have hl : 2 * k + 1 < s.length := by omega
    exact h.2 _ _ hl (List.getElem?_eq_getElem (show k < s.length by omega)) (List.getElem?_eq_getElem (show s.length - 1 - k < s.length by omega)) (g.2 k hlt _ _ (List.getElem?_eq_getElem (by omega)) (List.getElem?_eq_getElem (by omega)))
  · exact hge
open Classical in
noncomputable def endc (s : List Nat) : Nat := if h : ∃ k, EndK s k then Classical.choose h else 0
theorem endc_eq {s : List Nat} {k : Nat} (h : EndK s k) : endc s = k := by
  have hx : ∃ k, EndK s k := ⟨k, h⟩
  unfold endc
  rw [dif_pos hx]
  have hc := Classical.choose_spec hx
  exact Nat.le_antisymm (endk_le h hc.1) (endk_le hc h.1)
theorem mid_ne {s : List Nat} {k : Nat} (h : Ends s k) (hr : Red s) (hs : s ≠ []) : 2 * k < s.length := by
  obtain ⟨h1, h2⟩ := h
  have h0 : 0 < s.length := List.length_pos_iff.mpr hs
  rcases Nat.lt_or_ge (2 * k) s.length with h3 | h3
  · exact h3
  · exfalso
    obtain ⟨j, rfl⟩ : ∃ j, k = j + 1 := ⟨k - 1, by omega⟩
    have e := h2 j (by omega) s[j] s[j + 1] (List.getElem?_eq_getElem (by omega)) (by rw [show s.length - 1 - j = j + 1 by omega]; exact List.getElem?_eq_getElem (by omega))
    have hd : s.drop j = s[j] :: s[j + 1] :: s.drop (j + 2) := by
      rw [List.drop_eq_getElem_cons (by omega), List.drop_eq_getElem_cons (show j + 1 < s.length by omega)]
    have hr2 : Red (s.take j ++ s.drop j) := by rw [List.take_append_drop]; exact hr
    have hr3 := (red_split hr2).2.1
    rw [hd] at hr3
    exact hr3.1 (by rw [e, sw_sw])
/-- what a net is so often, by its ends -/
noncomputable def rep (w : List Nat) (t : Nat) : Option (List Nat) :=
  if w = [] then some [] else if 2 * endc w + (w.length - 2 * endc w) * t > 5000 then none
  else some (w.take (endc w) ++ (List.replicate t ((w.drop (endc w)).take (w.length - endc w - endc w))).flatten ++ w.drop (w.length - endc w))
def due (ps : List (Option (List Nat))) : Option (List Nat) :=
  if none ∈ ps then none else if (nf (ps.filterMap id).flatten).length ≤ 5000 then some (nf (ps.filterMap id).flatten) else none
theorem flat_rep_len (m : List Nat) (n : Nat) : (List.replicate n m).flatten.length = n * m.length := by
  induction n with
  | zero => simp
  | succ n ih => rw [List.replicate_succ, List.flatten_cons, List.length_append, ih, Nat.succ_mul, Nat.add_comm]
theorem nf_nf_l (u v : List Nat) : nf (nf u ++ v) = nf (u ++ v) := by
  have := nf_app_nf [] u v
  simpa using this
theorem nf_nf_r (u v : List Nat) : nf (u ++ nf v) = nf (u ++ v) := by
  have := nf_app_nf u v []
  simpa using this
theorem due_some {ps : List (Option (List Nat))} {w : List Nat} (h : due ps = some w) : w = nf (ps.filterMap id).flatten ∧ w.length ≤ 5000 := by
  unfold due at h
  split at h
  · cases h
  · split at h
    · cases h; exact ⟨rfl, by assumption⟩
    · cases h
/-- the ends of nets within pieces do not matter -/
theorem due3 {a m b : List Nat} : due [some (nf a), some m, some (nf b)] = due [some a, some m, some b] := by
  unfold due
  have e : nf ([some (nf a), some m, some (nf b)].filterMap id).flatten = nf ([some a, some m, some b].filterMap id).flatten := by
    simp only [List.filterMap_cons, id, List.filterMap_nil, List.flatten_cons, List.flatten_nil, List.append_nil]
    rw [nf_nf_l, ← List.append_assoc, nf_nf_r, List.append_assoc]
  rw [e]
  simp
theorem due_last {a b c : List Nat} : due [some a, some b, some (nf c)] = due [some a, some b, some c] := by
  unfold due
  have e : nf ([some a, some b, some (nf c)].filterMap id).flatten = nf ([some a, some b, some c].filterMap id).flatten := by
    simp only [List.filterMap_cons, id, List.filterMap_nil, List.flatten_cons, List.flatten_nil, List.append_nil]
    rw [← List.append_assoc, nf_nf_r, List.append_assoc]
  rw [e]
  simp
end Words
namespace Words
open Eng
theorem rep_len {w v : List Nat} {t : Nat} (hk : 2 * endc w ≤ w.length) (h : rep w t = some v) : v.length ≤ 5000 := by
  unfold rep at h
  split at h
  · cases h; simp
  · split at h
    · cases h
    · cases h
      rw [List.length_append, List.length_append, flat_rep_len, List.length_take, List.length_take, List.length_drop, List.length_drop]
      have e : min (w.length - endc w - endc w) (w.length - endc w) = w.length - 2 * endc w := by omega
      rw [e, Nat.mul_comm]
      omega
theorem rep_mem {w v : List Nat} {t : Nat} (h : rep w t = some v) : ∀ c ∈ v, c ∈ w := by
  unfold rep at h
  split at h
  · cases h; exact fun c hc => absurd hc (by simp)
  · split at h
    · cases h
    · cases h
      intro c hc
      rcases List.mem_append.mp hc with hc | hc
      · rcases List.mem_append.mp hc with hc | hc
        · exact List.mem_of_mem_take hc
        · obtain ⟨r, hr, hc⟩ := List.mem_flatten.mp hc
          rw [(List.mem_replicate.mp hr).2] at hc
          exact List.mem_of_mem_drop (List.mem_of_mem_take hc)
      · exact List.mem_of_mem_drop hc
end Words
namespace K19
open PySem PySem.Spec PyProof.Rows L2 Eng
def fuel : Nat := 100000000
def topS (i : Nat) : Stmt := PySem.Challenge.pw_runsturned_k19_whole_rounds_of_great_tim.main.body.getD i (.Pass ⟨0, 0, 0, 0⟩)
def c_SMALL : List Nat := [97, 98, 99, 100, 101, 102, 103, 104, 105, 106, 107, 108, 109, 110, 111, 112, 113, 114, 115, 116, 117, 118, 119, 120, 121, 122]
def subT : Str → Str → Option Bool := fun y x => ([(("TooLong", "TooLong"), true)] : List ((Str × Str) × Bool)).lookup (y, x)
structure Gs (mg : Str → Option Value) : Prop where
  b_abs : mg "abs" = none
  b_all : mg "all" = none
  b_any : mg "any" = none
  b_bool : mg "bool" = none
  b_dict : mg "dict" = none
  b_enumerate : mg "enumerate" = none
  b_int : mg "int" = none
  b_isinstance : mg "isinstance" = none
  b_len : mg "len" = none
  b_list : mg "list" = none
  b_max : mg "max" = none
  b_range : mg "range" = none
  b_sorted : mg "sorted" = none
  b_str : mg "str" = none
  b_sum : mg "sum" = none
  b_tuple : mg "tuple" = none
  b_zip : mg "zip" = none
  c_MOST_ARROWS : ∃ t, mg "MOST_ARROWS" = some (.int 200 t)
  c_MOST_BLOCKS : ∃ t, mg "MOST_BLOCKS" = some (.int 4 t)
  c_MOST_DEEP : ∃ t, mg "MOST_DEEP" = some (.int 6 t)
  c_MOST_LETTERS_blocks : ∃ t, mg "MOST_LETTERS_blocks" = some (.int 12 t)
  c_MOST_LETTERS_plans : ∃ t, mg "MOST_LETTERS_plans" = some (.int 5000 t)
  c_MOST_PARTS : ∃ t, mg "MOST_PARTS" = some (.int 4 t)
  c_MOST_PLACES : ∃ t, mg "MOST_PLACES" = some (.int 60 t)
  c_MOST_STATEMENTS : ∃ t, mg "MOST_STATEMENTS" = some (.int 8 t)
  c_SMALL : ∃ t, mg "SMALL" = some (.str ⟨c_SMALL.toArray⟩ t)
abbrev t__law_dice : Stmt := topS 51
def N__law_dice : List Str := ["script", "cell"]
theorem sc__law_dice : FnScope N__law_dice ["script"] (defScope t__law_dice) := ⟨rfl, rfl, rfl, by decide +kernel, rfl, by decide +kernel, by decide +kernel⟩
abbrev t__law_draw : Stmt := topS 52
def N__law_draw : List Str := ["dice", "sides", "cell", "digit", "mixed"]
theorem sc__law_draw : FnScope N__law_draw ["dice", "sides"] (defScope t__law_draw) := ⟨rfl, rfl, rfl, by decide +kernel, rfl, by decide +kernel, by decide +kernel⟩
abbrev t__law_deeds : Stmt := topS 53
def N__law_deeds : List Str := ["dice", "most", "letters", "found", "k"]
theorem sc__law_deeds : FnScope N__law_deeds ["dice", "most"] (defScope t__law_deeds) := ⟨rfl, rfl, rfl, by decide +kernel, rfl, by decide +kernel, by decide +kernel⟩
abbrev t__law_row : Stmt := topS 54
def N__law_row : List Str := ["dice", "deeds", "most", "letters", "k"]
theorem sc__law_row : FnScope N__law_row ["dice", "deeds", "most"] (defScope t__law_row) := ⟨rfl, rfl, rfl, by decide +kernel, rfl, by decide +kernel, by decide +kernel⟩
abbrev t__law_other : Stmt := topS 55
def N__law_other : List Str := ["letter"]
theorem sc__law_other : FnScope N__law_other ["letter"] (defScope t__law_other) := ⟨rfl, rfl, rfl, by decide +kernel, rfl, by decide +kernel, by decide +kernel⟩
abbrev t__law_turned : Stmt := topS 56
def N__law_turned : List Str := ["row", "letter"]
theorem sc__law_turned : FnScope N__law_turned ["row"] (defScope t__law_turned) := ⟨rfl, rfl, rfl, by decide +kernel, rfl, by decide +kernel, by decide +kernel⟩
abbrev t__law_drawn_row : Stmt := topS 59
def N__law_drawn_row : List Str := ["dice", "deeds", "kind", "row"]
theorem sc__law_drawn_row : FnScope N__law_drawn_row ["dice", "deeds"] (defScope t__law_drawn_row) := ⟨rfl, rfl, rfl, by decide +kernel, rfl, by decide +kernel, by decide +kernel⟩
abbrev t__law_drawn_times : Stmt := topS 60
def N__law_drawn_times : List Str := ["dice"]
theorem sc__law_drawn_times : FnScope N__law_drawn_times ["dice"] (defScope t__law_drawn_times) := ⟨rfl, rfl, rfl, by decide +kernel, rfl, by decide +kernel, by decide +kernel⟩
abbrev t__law_net : Stmt := topS 57
def N__law_net : List Str := ["row", "kept", "letter"]
theorem sc__law_net : FnScope N__law_net ["row"] (defScope t__law_net) := ⟨rfl, rfl, rfl, by decide +kernel, rfl, by decide +kernel, by decide +kernel⟩
abbrev t__law_times : Stmt := topS 58
def N__law_times : List Str := ["net", "times", "ends", "middle"]
theorem sc__law_times : FnScope N__law_times ["net", "times"] (defScope t__law_times) := ⟨rfl, rfl, rfl, by decide +kernel, rfl, by decide +kernel, by decide +kernel⟩
abbrev t__law_due : Stmt := topS 61
def N__law_due : List Str := ["pieces", "net"]
theorem sc__law_due : FnScope N__law_due ["pieces"] (defScope t__law_due) := ⟨rfl, rfl, rfl, by decide +kernel, rfl, by decide +kernel, by decide +kernel⟩
abbrev t_is_string_of : Stmt := topS 9
def N_is_string_of : List Str := ["thing", "signs", "sign"]
theorem sc_is_string_of : FnScope N_is_string_of ["thing", "signs"] (defScope t_is_string_of) := ⟨rfl, rfl, rfl, by decide +kernel, rfl, by decide +kernel, by decide +kernel⟩
abbrev t_is_word : Stmt := topS 10
def N_is_word : List Str := ["thing"]
theorem sc_is_word : FnScope N_is_word ["thing"] (defScope t_is_word) := ⟨rfl, rfl, rfl, by decide +kernel, rfl, by decide +kernel, by decide +kernel⟩
abbrev t_is_deeds : Stmt := topS 12
def N_is_deeds : List Str := ["thing", "at"]
theorem sc_is_deeds : FnScope N_is_deeds ["thing"] (defScope t_is_deeds) := ⟨rfl, rfl, rfl, by decide +kernel, rfl, by decide +kernel, by decide +kernel⟩
abbrev t_goes_round : Stmt := topS 43
def N_goes_round : List Str := ["parts", "reached", "name", "named", "turn", "further", "other", "inner"]
theorem sc_goes_round : FnScope N_goes_round ["parts"] (defScope t_goes_round) := ⟨rfl, rfl, rfl, by decide +kernel, rfl, by decide +kernel, by decide +kernel⟩
abbrev t_are_parts : Stmt := topS 44
def N_are_parts : List Str := ["thing", "deeds", "name"]
theorem sc_are_parts : FnScope N_are_parts ["thing", "deeds"] (defScope t_are_parts) := ⟨rfl, rfl, rfl, by decide +kernel, rfl, by decide +kernel, by decide +kernel⟩
abbrev t_is_pair : Stmt := topS 8
def N_is_pair : List Str := ["thing"]
theorem sc_is_pair : FnScope N_is_pair ["thing"] (defScope t_is_pair) := ⟨rfl, rfl, rfl, by decide +kernel, rfl, by decide +kernel, by decide +kernel⟩
abbrev t_is_row_over : Stmt := topS 14
def N_is_row_over : List Str := ["deeds", "thing"]
theorem sc_is_row_over : FnScope N_is_row_over ["deeds", "thing"] (defScope t_is_row_over) := ⟨rfl, rfl, rfl, by decide +kernel, rfl, by decide +kernel, by decide +kernel⟩
abbrev t_is_block : Stmt := topS 41
def N_is_block : List Str := ["thing", "deeds", "names", "deep", "statement"]
theorem sc_is_block : FnScope N_is_block ["thing", "deeds", "names", "deep"] (defScope t_is_block) := ⟨rfl, rfl, rfl, by decide +kernel, rfl, by decide +kernel, by decide +kernel⟩
abbrev t_is_statement : Stmt := topS 40
def N_is_statement : List Str := ["thing", "deeds", "names", "deep", "word", "inner", "block"]
theorem sc_is_statement : FnScope N_is_statement ["thing", "deeds", "names", "deep"] (defScope t_is_statement) := ⟨rfl, rfl, rfl, by decide +kernel, rfl, by decide +kernel, by decide +kernel⟩
abbrev t_Sizes_block : Stmt := inClass (topS 45) 2
def N_Sizes_block : List Str := ["self", "block", "pairs", "statement", "pair"]
theorem sc_Sizes_block : FnScope N_Sizes_block ["self", "block"] (defScope t_Sizes_block) := ⟨rfl, rfl, rfl, by decide +kernel, rfl, by decide +kernel, by decide +kernel⟩
abbrev t_Sizes_statement : Stmt := inClass (topS 45) 3
def N_Sizes_statement : List Str := ["self", "statement", "word", "inner", "places", "arrows", "pairs", "block", "pair"]
theorem sc_Sizes_statement : FnScope N_Sizes_statement ["self", "statement"] (defScope t_Sizes_statement) := ⟨rfl, rfl, rfl, by decide +kernel, rfl, by decide +kernel, by decide +kernel⟩
abbrev t_Sizes_init : Stmt := inClass (topS 45) 0
def N_Sizes_init : List Str := ["self", "parts"]
theorem sc_Sizes_init : FnScope N_Sizes_init ["self", "parts"] (defScope t_Sizes_init) := ⟨rfl, rfl, rfl, by decide +kernel, rfl, by decide +kernel, by decide +kernel⟩
abbrev t_Program_init : Stmt := inClass (topS 49) 0
def N_Program_init : List Str := ["self", "deeds", "parts", "body", "places", "arrows", "name"]
theorem sc_Program_init : FnScope N_Program_init ["self", "deeds", "parts", "body"] (defScope t_Program_init) := ⟨rfl, rfl, rfl, by decide +kernel, rfl, by decide +kernel, by decide +kernel⟩
abbrev t_is_integer : Stmt := topS 7
def N_is_integer : List Str := ["thing"]
theorem sc_is_integer : FnScope N_is_integer ["thing"] (defScope t_is_integer) := ⟨rfl, rfl, rfl, by decide +kernel, rfl, by decide +kernel, by decide +kernel⟩
abbrev t_is_block_plan : Stmt := topS 25
def N_is_block_plan : List Str := ["parts", "block", "thing", "k", "statement"]
theorem sc_is_block_plan : FnScope N_is_block_plan ["parts", "block", "thing"] (defScope t_is_block_plan) := ⟨rfl, rfl, rfl, by decide +kernel, rfl, by decide +kernel, by decide +kernel⟩
abbrev t_is_statement_plan : Stmt := topS 24
def N_is_statement_plan : List Str := ["parts", "statement", "thing", "word", "inner"]
theorem sc_is_statement_plan : FnScope N_is_statement_plan ["parts", "statement", "thing"] (defScope t_is_statement_plan) := ⟨rfl, rfl, rfl, by decide +kernel, rfl, by decide +kernel, by decide +kernel⟩
abbrev t_are_rounds : Stmt := topS 23
def N_are_rounds : List Str := ["parts", "block", "thing", "pair"]
theorem sc_are_rounds : FnScope N_are_rounds ["parts", "block", "thing"] (defScope t_are_rounds) := ⟨rfl, rfl, rfl, by decide +kernel, rfl, by decide +kernel, by decide +kernel⟩
abbrev t_is_choice : Stmt := topS 22
def N_is_choice : List Str := ["parts", "blocks", "thing"]
theorem sc_is_choice : FnScope N_is_choice ["parts", "blocks", "thing"] (defScope t_is_choice) := ⟨rfl, rfl, rfl, by decide +kernel, rfl, by decide +kernel, by decide +kernel⟩
abbrev t_is_plan : Stmt := topS 26
def N_is_plan : List Str := ["program", "thing"]
theorem sc_is_plan : FnScope N_is_plan ["program", "thing"] (defScope t_is_plan) := ⟨rfl, rfl, rfl, by decide +kernel, rfl, by decide +kernel, by decide +kernel⟩
abbrev t_check_plan : Stmt := topS 27
def N_check_plan : List Str := ["program", "thing"]
theorem sc_check_plan : FnScope N_check_plan ["program", "thing"] (defScope t_check_plan) := ⟨rfl, rfl, rfl, by decide +kernel, rfl, by decide +kernel, by decide +kernel⟩
abbrev t_once_within : Stmt := topS 28
def N_once_within : List Str := ["parts", "statement", "item", "word", "inner"]
theorem sc_once_within : FnScope N_once_within ["parts", "statement", "item"] (defScope t_once_within) := ⟨rfl, rfl, rfl, by decide +kernel, rfl, by decide +kernel, by decide +kernel⟩
abbrev t_letters_in : Stmt := topS 29
def N_letters_in : List Str := ["parts", "block", "plan", "many", "statement", "item", "within", "inner", "times"]
theorem sc_letters_in : FnScope N_letters_in ["parts", "block", "plan"] (defScope t_letters_in) := ⟨rfl, rfl, rfl, by decide +kernel, rfl, by decide +kernel, by decide +kernel⟩
abbrev t_letters_of : Stmt := topS 30
def N_letters_of : List Str := ["program", "plan"]
theorem sc_letters_of : FnScope N_letters_of ["program", "plan"] (defScope t_letters_of) := ⟨rfl, rfl, rfl, by decide +kernel, rfl, by decide +kernel, by decide +kernel⟩
abbrev t_undoing_of : Stmt := topS 13
def N_undoing_of : List Str := ["letter"]
theorem sc_undoing_of : FnScope N_undoing_of ["letter"] (defScope t_undoing_of) := ⟨rfl, rfl, rfl, by decide +kernel, rfl, by decide +kernel, by decide +kernel⟩
abbrev t_bent : Stmt := topS 18
def N_bent : List Str := ["net", "many"]
theorem sc_bent : FnScope N_bent ["net"] (defScope t_bent) := ⟨rfl, rfl, rfl, by decide +kernel, rfl, by decide +kernel, by decide +kernel⟩
abbrev t_turned_about : Stmt := topS 17
def N_turned_about : List Str := ["row"]
theorem sc_turned_about : FnScope N_turned_about ["row"] (defScope t_turned_about) := ⟨rfl, rfl, rfl, by decide +kernel, rfl, by decide +kernel, by decide +kernel⟩
abbrev t_power_letters : Stmt := topS 19
def N_power_letters : List Str := ["net", "times", "ends"]
theorem sc_power_letters : FnScope N_power_letters ["net", "times"] (defScope t_power_letters) := ⟨rfl, rfl, rfl, by decide +kernel, rfl, by decide +kernel, by decide +kernel⟩
abbrev t_repeated : Stmt := topS 31
def N_repeated : List Str := ["net", "times", "ends"]
theorem sc_repeated : FnScope N_repeated ["net", "times"] (defScope t_repeated) := ⟨rfl, rfl, rfl, by decide +kernel, rfl, by decide +kernel, by decide +kernel⟩
abbrev t_net_letters : Stmt := topS 16
def N_net_letters : List Str := ["row", "kept", "letter"]
theorem sc_net_letters : FnScope N_net_letters ["row"] (defScope t_net_letters) := ⟨rfl, rfl, rfl, by decide +kernel, rfl, by decide +kernel, by decide +kernel⟩
abbrev t_net_in : Stmt := topS 32
def N_net_in : List Str := ["parts", "block", "plan", "pieces", "statement", "item", "inner", "times", "within", "piece", "found"]
theorem sc_net_in : FnScope N_net_in ["parts", "block", "plan"] (defScope t_net_in) := ⟨rfl, rfl, rfl, by decide +kernel, rfl, by decide +kernel, by decide +kernel⟩
abbrev t_net_of : Stmt := topS 33
def N_net_of : List Str := ["program", "plan"]
theorem sc_net_of : FnScope N_net_of ["program", "plan"] (defScope t_net_of) := ⟨rfl, rfl, rfl, by decide +kernel, rfl, by decide +kernel, by decide +kernel⟩
abbrev t__law_told : Stmt := topS 62
def N__law_told : List Str := ["program", "plan", "told", "e"]
theorem sc__law_told : FnScope N__law_told ["program", "plan"] (defScope t__law_told) := ⟨rfl, rfl, rfl, by decide +kernel, rfl, by decide +kernel, by decide +kernel⟩
abbrev t_law : Stmt := topS 63
def N_law : List Str := ["script", "dice", "deeds", "rows", "times", "inner", "rounds", "letters", "plan", "pairs", "middle", "body", "due", "whole", "program", "k"]
theorem sc_law : FnScope N_law ["script"] (defScope t_law) := ⟨rfl, rfl, rfl, by decide +kernel, rfl, by decide +kernel, by decide +kernel⟩
structure Fa (P : Program) (K : PySem.W.Frag) (mg : Str → Option Value) : Prop where
  s_TooLong : SupAt P K mg "TooLong" "most"
  h_TooLong : HanAt K mg subT "TooLong"
  x_TooLong_most : XfAt K mg subT "TooLong" "most"
  k_Program : InsC K mg "Program" ["deeds", "body", "kept_deeds", "kept_parts", "kept_body", "kept_flow"]
  k_Sizes : InsC K mg "Sizes" ["parts_asked", "known"]
  f__law_dice : FunAt K mg "_law_dice" t__law_dice
  f__law_draw : FunAt K mg "_law_draw" t__law_draw
  f__law_deeds : FunAt K mg "_law_deeds" t__law_deeds
  f__law_row : FunAt K mg "_law_row" t__law_row
  f__law_other : FunAt K mg "_law_other" t__law_other
  f__law_turned : FunAt K mg "_law_turned" t__law_turned
  f__law_drawn_row : FunAt K mg "_law_drawn_row" t__law_drawn_row
  f__law_drawn_times : FunAt K mg "_law_drawn_times" t__law_drawn_times
  f__law_net : FunAt K mg "_law_net" t__law_net
  f__law_times : FunAt K mg "_law_times" t__law_times
  f__law_due : FunAt K mg "_law_due" t__law_due
  f_is_string_of : FunAt K mg "is_string_of" t_is_string_of
  f_is_word : FunAt K mg "is_word" t_is_word
  f_is_deeds : FunAt K mg "is_deeds" t_is_deeds
  f_goes_round : FunAt K mg "goes_round" t_goes_round
  f_are_parts : FunAt K mg "are_parts" t_are_parts
  f_is_pair : FunAt K mg "is_pair" t_is_pair
  f_is_row_over : FunAt K mg "is_row_over" t_is_row_over
  f_is_block : FunAt K mg "is_block" t_is_block
  f_is_statement : FunAt K mg "is_statement" t_is_statement
  m_Sizes_block : MetAt K mg "Sizes" "block" "Sizes.block" t_Sizes_block
  m_Sizes_statement : MetAt K mg "Sizes" "statement" "Sizes.statement" t_Sizes_statement
  n_Sizes_init : IniAt K mg "Sizes" "Sizes.__init__" t_Sizes_init
  n_Program_init : IniAt K mg "Program" "Program.__init__" t_Program_init
  f_is_integer : FunAt K mg "is_integer" t_is_integer
  f_is_block_plan : FunAt K mg "is_block_plan" t_is_block_plan
  f_is_statement_plan : FunAt K mg "is_statement_plan" t_is_statement_plan
  f_are_rounds : FunAt K mg "are_rounds" t_are_rounds
  f_is_choice : FunAt K mg "is_choice" t_is_choice
  f_is_plan : FunAt K mg "is_plan" t_is_plan
  f_check_plan : FunAt K mg "check_plan" t_check_plan
  f_once_within : FunAt K mg "once_within" t_once_within
  f_letters_in : FunAt K mg "letters_in" t_letters_in
  f_letters_of : FunAt K mg "letters_of" t_letters_of
  f_undoing_of : FunAt K mg "undoing_of" t_undoing_of
  f_bent : FunAt K mg "bent" t_bent
  f_turned_about : FunAt K mg "turned_about" t_turned_about
  f_power_letters : FunAt K mg "power_letters" t_power_letters
  f_repeated : FunAt K mg "repeated" t_repeated
  f_net_letters : FunAt K mg "net_letters" t_net_letters
  f_net_in : FunAt K mg "net_in" t_net_in
  f_net_of : FunAt K mg "net_of" t_net_of
  f__law_told : FunAt K mg "_law_told" t__law_told
  f_law : FunAt K mg "law" t_law
def b__law_dice : MS := (sFrz 0 (sRet (eLst (lCons (eLc (gN 1) (iVal (eSl (eVar 0) oNone (oSome (eK (.int 63))))) mYes (eFn absD (lCons (eFn intD (lCons (eVar 1) lNil)) lNil)) [1]) (lCons (eK (.int 0)) (lCons (eK (.int 0)) (lCons (eK (.int 1)) (lCons (eK (.int 0)) lNil))))))))
def g__law_dice : List D → Fo := runF [0] 1 1 b__law_dice
theorem D__law_dice {P : Program} {w : World} {K : PySem.W.Frag} {mg : Str → Option Value} {base : Heap} (G : Gs mg) (F : Fa P K mg) : DefOk P w K mg base 1 1 "_law_dice" ["script"] g__law_dice :=
  def_okD F.f__law_dice sc__law_dice rfl rfl (fun _ _ _ _ _ _ us hl => match us, hl with | [_], _ => rfl) fun f cdv A outer s H E hr => (s_frz (i := 0) (s_one (s_ret (d_lst (l_consT (d_lc (kp := [0]) rfl sc__law_dice.nd (i_val (d_sl (d_var 0) o_none (o_some d_int))) (blkOk_by (N := N__law_dice) (sc := defScope t__law_dice) (own := [("cell", 1)]) (by decide +kernel)) rfl (hkp_of (N := N__law_dice) [1] (by decide)) (fun _ _ _ _ _ => (g_name sc__law_dice.nd)) (fun _ _ _ _ _ => ts_nil) (fun _ _ _ _ _ => PD.to (d_bi fd_abs rfl G.b_abs boot_abs (l_consT (d_bt fd_int rfl G.b_int boot_int (l_consT (d_var 1) l_nil)) l_nil)))) (l_consT d_int (l_consT d_int (l_consT d_int (l_consT d_int l_nil)))))))))
def b__law_draw : MS := (sFrz 1 (sSeq (sIf (mAnd (mB (eOp eqD (eOp idxD (ePk 0) (eK (.int 2))) (eK (.int 0)))) (mB (eOp ltD (eOp idxD (ePk 0) (eK (.int 1))) (eFn lenD (lCons (eOp idxD (ePk 0) (eK (.int 0))) lNil))))) (sSeq (sSet 2 (eFz (eOp idxD (eOp idxD (ePk 0) (eK (.int 0))) (eOp idxD (ePk 0) (eK (.int 1)))))) (sSeq (sSetIx 0 (eK (.int 1)) (eOp addD (eOp idxD (ePk 0) (eK (.int 1))) (eK (.int 1)))) (sIf (mB (eOp geD (eVar 2) (eOp powD (eK (.int 10)) (eK (.int 18))))) (sSetIx 0 (eK (.int 2)) (eVar 2)) (sSetIx 0 (eK (.int 3)) (eOp modD (eFn intD (lCons (eOp addD (eOp addD (eOp mulD (eOp idxD (ePk 0) (eK (.int 3))) (eK (.int 69621))) (eOp mulD (eVar 2) (eK (.int 40692)))) (eOp idxD (ePk 0) (eK (.int 1)))) lNil)) (eK (.int 2147483647))))))) sNext) (sSeq (sIf (mB (eOp gtD (eOp idxD (ePk 0) (eK (.int 2))) (eK (.int 0)))) (sSeq (sSet 3 (eOp modD (eFn intD (lCons (eOp idxD (ePk 0) (eK (.int 2))) lNil)) (eVar 1))) (sSeq (sSetIx 0 (eK (.int 2)) (eOp fdivD (eFn intD (lCons (eOp idxD (ePk 0) (eK (.int 2))) lNil)) (eVar 1))) (sRet (eVar 3)))) sNext) (sSeq (sSetIx 0 (eK (.int 4)) (eOp addD (eOp idxD (ePk 0) (eK (.int 4))) (eK (.int 1)))) (sSeq (sSetIx 0 (eK (.int 3)) (eOp modD (eFn intD (lCons (eOp addD (eOp addD (eOp mulD (eOp idxD (ePk 0) (eK (.int 3))) (eK (.int 48271))) (eOp mulD (eOp idxD (ePk 0) (eK (.int 4))) (eK (.int 7919)))) (eK (.int 1))) lNil)) (eK (.int 2147483647)))) (sSeq (sSet 4 (eOp modD (eFn intD (lCons (eOp mulD (eOp idxD (ePk 0) (eK (.int 3))) (eOp addD (eOp fdivD (eOp idxD (ePk 0) (eK (.int 3))) (eK (.int 1009))) (eK (.int 69623)))) lNil)) (eK (.int 2147483399)))) (sSeq (sSet 4 (eOp modD (eFn intD (lCons (eOp mulD (eVar 4) (eOp addD (eOp fdivD (eVar 4) (eK (.int 2003))) (eK (.int 40693)))) lNil)) (eK (.int 2147483563)))) (sRet (eOp modD (eFn intD (lCons (eOp fdivD (eVar 4) (eK (.int 16))) lNil)) (eVar 1))))))))))
def g__law_draw : List D → Fo := runF [0, 1] 2 3 b__law_draw
theorem D__law_draw {P : Program} {w : World} {K : PySem.W.Frag} {mg : Str → Option Value} {base : Heap} (G : Gs mg) (F : Fa P K mg) : DefOk P w K mg base 1 2 "_law_draw" ["dice", "sides"] g__law_draw :=
  def_okD F.f__law_draw sc__law_draw rfl rfl (fun _ _ _ _ _ _ us hl => match us, hl with | [_, _], _ => rfl) fun f cdv A outer s H E hr => (s_frz (i := 1) (s_cons (s_if (PDW.pt (w_and (t_cmp (od_eq (uz hr)) (d_ix (d_pk 0) d_int) d_int) (w_and1 (t_cmp od_lt (d_ix (d_pk 0) d_int) (d_bi fd_len rfl G.b_len boot_len (l_cons (d_ix (d_pk 0) d_int) l_nil)))))) (s_cons (s_let 2 sc__law_draw.nd (d_fz (d_ix (d_ix (d_pk 0) d_int) (d_ix (d_pk 0) d_int)))) (s_cons (s_at 0 d_int (d_op od_add (d_ix (d_pk 0) d_int) d_int)) (s_one (s_if (t_cmp od_ge (d_var 2) (d_op od_pow d_int d_int)) (s_one (s_at 0 d_int (d_var 2))) (s_one (s_at 0 d_int (d_op od_mod (d_bt fd_int rfl G.b_int boot_int (l_consT (d_op od_add (d_op od_add (d_op od_mul (d_ix (d_pk 0) d_int) d_int) (d_op od_mul (d_var 2) d_int)) (d_ix (d_pk 0) d_int)) l_nil)) d_int))))))) s_nil) (s_cons (s_if (t_cmp od_gt (d_ix (d_pk 0) d_int) d_int) (s_cons (s_let 3 sc__law_draw.nd (d_op od_mod (d_bt fd_int rfl G.b_int boot_int (l_cons (d_ix (d_pk 0) d_int) l_nil)) (d_var 1))) (s_cons (s_at 0 d_int (d_op od_fdiv (d_bt fd_int rfl G.b_int boot_int (l_cons (d_ix (d_pk 0) d_int) l_nil)) (d_var 1))) (s_one (s_ret (d_var 3))))) s_nil) (s_cons (s_at 0 d_int (d_op od_add (d_ix (d_pk 0) d_int) d_int)) (s_cons (s_at 0 d_int (d_op od_mod (d_bt fd_int rfl G.b_int boot_int (l_consT (d_op od_add (d_op od_add (d_op od_mul (d_ix (d_pk 0) d_int) d_int) (d_op od_mul (d_ix (d_pk 0) d_int) d_int)) d_int) l_nil)) d_int)) (s_cons (s_let 4 sc__law_draw.nd (d_op od_mod (d_bt fd_int rfl G.b_int boot_int (l_consT (d_op od_mul (d_ix (d_pk 0) d_int) (d_op od_add (d_op od_fdiv (d_ix (d_pk 0) d_int) d_int) d_int)) l_nil)) d_int)) (s_cons (s_let 4 sc__law_draw.nd (d_op od_mod (d_bt fd_int rfl G.b_int boot_int (l_consT (d_op od_mul (d_var 4) (d_op od_add (d_op od_fdiv (d_var 4) d_int) d_int)) l_nil)) d_int)) (s_one (s_ret (d_op od_mod (d_bt fd_int rfl G.b_int boot_int (l_consT (d_op od_fdiv (d_var 4) d_int) l_nil)) (d_var 1)))))))))))
def b__law_deeds : MS := (sFrz 1 (sSeq (sSet 2 (eFn listD (lCons (eK (.str [97, 98, 99, 100, 101, 102, 103, 104, 105, 106, 107, 108, 109, 110, 111, 112, 113, 114, 115, 116, 117, 118, 119, 120, 121, 122])) lNil))) (sSeq (sSet 3 (eLc (gN 4) (iRg1 (eOp addD (eK (.int 1)) (eCall g__law_draw (aLend 0 (aVal (eVar 1) aNil))))) mYes (ePopI 2 (eCall g__law_draw (aLend 0 (aVal (eFn lenD (lCons (ePk 2) lNil)) aNil)))) [4])) (sFrz 3 (sRet (eMt joinM (eK (.str [])) (lCons (eFn sortD (lCons (eVar 3) lNil)) lNil)))))))
def g__law_deeds : List D → Fo := runF [0, 1] 2 3 b__law_deeds
theorem D__law_deeds {P : Program} {w : World} {K : PySem.W.Frag} {mg : Str → Option Value} {base : Heap} (G : Gs mg) (F : Fa P K mg) : DefOk P w K mg base 2 2 "_law_deeds" ["dice", "most"] g__law_deeds :=
  have D__law_draw : DefOk P w K mg base 1 2 "_law_draw" ["dice", "sides"] g__law_draw := D__law_draw G F
  def_okD F.f__law_deeds sc__law_deeds rfl rfl (fun _ _ _ _ _ _ us hl => match us, hl with | [_, _], _ => rfl) fun f cdv A outer s H E hr => (s_frz (i := 1) (s_cons (s_let 2 sc__law_deeds.nd (d_bt (fd_list rfl) rfl G.b_list boot_list (l_consT d_str l_nil))) (s_cons (s_setLc (i := 3) (kp := [0, 1, 2, 3]) rfl sc__law_deeds.nd (i_rg1 (d_op od_add d_int (d_callD D__law_draw (hr.mono (by decide)) (takes_of rfl rfl rfl rfl) (a_lend 0 (a_val (d_var 1) a_nil)))) G.b_range) (blkOk_by (N := N__law_deeds) (sc := defScope t__law_deeds) (own := [("k", 4)]) (by decide +kernel)) rfl (hkp_of (N := N__law_deeds) [4] (by decide)) (fun _ _ _ _ _ => (g_name sc__law_deeds.nd)) (fun _ _ _ _ _ => ts_nil) (fun _ _ _ _ _ => PD.to (s_popI 2 (d_callD D__law_draw (hr.mono (by decide)) takes0 (a_lend 0 (a_val (d_bi fd_len rfl G.b_len boot_len (l_cons (d_pk 2) l_nil)) a_nil)))))) (s_frz (i := 3) (s_one (s_ret (d_mt (pe_bm PySem.F.plainAttrs_str PySem.F.slot_str_join PySem.F.type_str_join md_join d_str (l_consT (d_bi (fd_sort rfl) rfl G.b_sorted boot_sorted (l_consT (d_var 3) l_nil)) l_nil)))))))))
def b__law_row : MS := (sFrz 1 (sFrz 2 (sSeq (sSet 3 (eOp addD (eVar 1) (eMt upM (eVar 1) lNil))) (sFrz 3 (sRet (eMt joinM (eK (.str [])) (lCons (eLc (gN 4) (iRg1 (eCall g__law_draw (aLend 0 (aVal (eOp addD (eVar 2) (eK (.int 1))) aNil)))) mYes (eOp idxD (eVar 3) (eCall g__law_draw (aLend 0 (aVal (eFn lenD (lCons (eVar 3) lNil)) aNil)))) [4]) lNil)))))))
def g__law_row : List D → Fo := runF [0, 1, 2] 3 2 b__law_row
theorem D__law_row {P : Program} {w : World} {K : PySem.W.Frag} {mg : Str → Option Value} {base : Heap} (G : Gs mg) (F : Fa P K mg) : DefOk P w K mg base 2 3 "_law_row" ["dice", "deeds", "most"] g__law_row :=
  have D__law_draw : DefOk P w K mg base 1 2 "_law_draw" ["dice", "sides"] g__law_draw := D__law_draw G F
  def_okD F.f__law_row sc__law_row rfl rfl (fun _ _ _ _ _ _ us hl => match us, hl with | [_, _, _], _ => rfl) fun f cdv A outer s H E hr => (s_frz (i := 1) (s_frz (i := 2) (s_cons (s_let 3 sc__law_row.nd (d_op od_add (d_var 1) (d_mt0 PySem.F.plainAttrs_str PySem.F.slot_str_upper PySem.F.type_str_upper md_up (d_var 1)))) (s_frz (i := 3) (s_one (s_ret (d_mt (pe_bm PySem.F.plainAttrs_str PySem.F.slot_str_join PySem.F.type_str_join md_join d_str (l_consT (d_lc (kp := [0, 1, 2, 3]) rfl sc__law_row.nd (i_rg1 (d_callD D__law_draw (hr.mono (by decide)) (takes_of rfl rfl rfl rfl) (a_lend 0 (a_val (d_op od_add (d_var 2) d_int) a_nil))) G.b_range) (blkOk_by (N := N__law_row) (sc := defScope t__law_row) (own := [("k", 4)]) (by decide +kernel)) rfl (hkp_of (N := N__law_row) [4] (by decide)) (fun _ _ _ _ _ => (g_name sc__law_row.nd)) (fun _ _ _ _ _ => ts_nil) (fun _ _ _ _ _ => PD.to (d_ix (d_var 3) (d_callD D__law_draw (hr.mono (by decide)) takes0 (a_lend 0 (a_val (d_bi fd_len rfl G.b_len boot_len (l_consT (d_var 3) l_nil)) a_nil)))))) l_nil)))))))))
def b__law_other : MS := (sFrz 0 (sRet (eIf (mB (eMt islowM (eVar 0) lNil)) (eMt upM (eVar 0) lNil) (eMt loM (eVar 0) lNil))))
def g__law_other : List D → Fo := runF [0] 1 0 b__law_other
theorem D__law_other {P : Program} {w : World} {K : PySem.W.Frag} {mg : Str → Option Value} {base : Heap} (G : Gs mg) (F : Fa P K mg) : DefOk P w K mg base 1 1 "_law_other" ["letter"] g__law_other :=
  def_okD F.f__law_other sc__law_other rfl rfl (fun _ _ _ _ _ _ us hl => match us, hl with | [_], _ => rfl) fun f cdv A outer s H E hr => (s_frz (i := 0) (s_one (s_ret (d_ifT (t_val (d_mt0 PySem.F.plainAttrs_str PySem.F.slot_str_islower PySem.F.type_str_islower md_islow (d_var 0))) (d_mt0 PySem.F.plainAttrs_str PySem.F.slot_str_upper PySem.F.type_str_upper md_up (d_var 0)) (d_mt0 PySem.F.plainAttrs_str PySem.F.slot_str_lower PySem.F.type_str_lower md_lo (d_var 0))))))
def b__law_turned : MS := (sFrz 0 (sRet (eMt joinM (eK (.str [])) (lCons (eLc (gN 1) (iVal (eUn revD (eVar 0))) mYes (eCall g__law_other (aVal (eVar 1) aNil)) [1]) lNil))))
def g__law_turned : List D → Fo := runF [0] 1 1 b__law_turned
theorem D__law_turned {P : Program} {w : World} {K : PySem.W.Frag} {mg : Str → Option Value} {base : Heap} (G : Gs mg) (F : Fa P K mg) : DefOk P w K mg base 2 1 "_law_turned" ["row"] g__law_turned :=
  have D__law_other : DefOk P w K mg base 1 1 "_law_other" ["letter"] g__law_other := D__law_other G F
  def_okD F.f__law_turned sc__law_turned rfl rfl (fun _ _ _ _ _ _ us hl => match us, hl with | [_], _ => rfl) fun f cdv A outer s H E hr => (s_frz (i := 0) (s_one (s_ret (d_mt (pe_bm PySem.F.plainAttrs_str PySem.F.slot_str_join PySem.F.type_str_join md_join d_str (l_consT (d_lc (kp := [0]) rfl sc__law_turned.nd (i_val (d_rev (d_var 0))) (blkOk_by (N := N__law_turned) (sc := defScope t__law_turned) (own := [("letter", 1)]) (by decide +kernel)) rfl (hkp_of (N := N__law_turned) [1] (by decide)) (fun _ _ _ _ _ => (g_name sc__law_turned.nd)) (fun _ _ _ _ _ => ts_nil) (fun _ _ _ _ _ => PD.to (d_callD D__law_other (hr.mono (by decide)) takes0 (a_val (d_var 1) a_nil)))) l_nil))))))
def b__law_drawn_row : MS := (sFrz 1 (sSeq (sSet 2 (eCall g__law_draw (aLend 0 (aVal (eK (.int 4)) aNil)))) (sSeq (sSet 3 (eCall g__law_row (aLend 0 (aVal (eVar 1) (aVal (eK (.int 4)) aNil))))) (sSeq (sIf (mB (eOp eqD (eVar 2) (eK (.int 0)))) (sRet (eOp addD (eVar 3) (eCall g__law_turned (aVal (eVar 3) aNil)))) sNext) (sSeq (sIf (mB (eOp eqD (eVar 2) (eK (.int 1)))) (sRet (eOp addD (eOp addD (eVar 3) (eCall g__law_row (aLend 0 (aVal (eVar 1) (aVal (eK (.int 3)) aNil))))) (eCall g__law_turned (aVal (eVar 3) aNil)))) sNext) (sRet (eCall g__law_row (aLend 0 (aVal (eVar 1) (aVal (eK (.int 9)) aNil))))))))))
def g__law_drawn_row : List D → Fo := runF [0, 1] 2 2 b__law_drawn_row
theorem D__law_drawn_row {P : Program} {w : World} {K : PySem.W.Frag} {mg : Str → Option Value} {base : Heap} (G : Gs mg) (F : Fa P K mg) : DefOk P w K mg base 3 2 "_law_drawn_row" ["dice", "deeds"] g__law_drawn_row :=
  have D__law_draw : DefOk P w K mg base 1 2 "_law_draw" ["dice", "sides"] g__law_draw := D__law_draw G F
  have D__law_row : DefOk P w K mg base 2 3 "_law_row" ["dice", "deeds", "most"] g__law_row := D__law_row G F
  have D__law_turned : DefOk P w K mg base 2 1 "_law_turned" ["row"] g__law_turned := D__law_turned G F
  def_okD F.f__law_drawn_row sc__law_drawn_row rfl rfl (fun _ _ _ _ _ _ us hl => match us, hl with | [_, _], _ => rfl) fun f cdv A outer s H E hr => (s_frz (i := 1) (s_cons (s_let 2 sc__law_drawn_row.nd (d_callD D__law_draw (hr.mono (by decide)) (takes_of rfl rfl rfl rfl) (a_lend 0 (a_val d_int a_nil)))) (s_cons (s_let 3 sc__law_drawn_row.nd (d_callD D__law_row (hr.mono (by decide)) (takes_of rfl rfl rfl rfl) (a_lend 0 (a_val (d_var 1) (a_val d_int a_nil))))) (s_cons (s_if (t_cmp (od_eq (uz hr)) (d_var 2) d_int) (s_one (s_ret (d_op od_add (d_var 3) (d_callD D__law_turned (hr.mono (by decide)) (takes_of rfl rfl rfl rfl) (a_val (d_var 3) a_nil))))) s_nil) (s_cons (s_if (t_cmp (od_eq (uz hr)) (d_var 2) d_int) (s_one (s_ret (d_op od_add (d_op od_add (d_var 3) (d_callD D__law_row (hr.mono (by decide)) (takes_of rfl rfl rfl rfl) (a_lend 0 (a_val (d_var 1) (a_val d_int a_nil))))) (d_callD D__law_turned (hr.mono (by decide)) (takes_of rfl rfl rfl rfl) (a_val (d_var 3) a_nil))))) s_nil) (s_one (s_ret (d_callD D__law_row (hr.mono (by decide)) (takes_of rfl rfl rfl rfl) (a_lend 0 (a_val (d_var 1) (a_val d_int a_nil)))))))))))
def b__law_drawn_times : MS := (sRet (eOp addD (eK (.int 1)) (eCall g__law_draw (aLend 0 (aVal (eOp idxD (eLst (lCons (eK (.int 3)) (lCons (eK (.int 1000)) (lCons (eK (.int 6000)) (lCons (eOp powD (eK (.int 10)) (eK (.int 50))) lNil))))) (eCall g__law_draw (aLend 0 (aVal (eK (.int 4)) aNil)))) aNil)))))
def g__law_drawn_times : List D → Fo := runF [0] 1 0 b__law_drawn_times
theorem D__law_drawn_times {P : Program} {w : World} {K : PySem.W.Frag} {mg : Str → Option Value} {base : Heap} (G : Gs mg) (F : Fa P K mg) : DefOk P w K mg base 2 1 "_law_drawn_times" ["dice"] g__law_drawn_times :=
  have D__law_draw : DefOk P w K mg base 1 2 "_law_draw" ["dice", "sides"] g__law_draw := D__law_draw G F
  def_okD F.f__law_drawn_times sc__law_drawn_times rfl rfl (fun _ _ _ _ _ _ us hl => match us, hl with | [_], _ => rfl) fun f cdv A outer s H E hr => (s_one (s_ret (d_op od_add d_int (d_callD D__law_draw (hr.mono (by decide)) (takes_of rfl rfl rfl rfl) (a_lend 0 (a_val (d_ix (d_lst (l_consT d_int (l_consT d_int (l_consT d_int (l_consT (d_op od_pow d_int d_int) l_nil))))) (d_callD D__law_draw (hr.mono (by decide)) (takes_of rfl rfl rfl rfl) (a_lend 0 (a_val d_int a_nil)))) a_nil))))))
def b__law_net : MS := (sFrz 0 (sSeq (sSet 1 (eLst lNil)) (sSeq (sFor (gN 2) (iVal (eVar 0)) (sIf (mAnd (mB (eOp gtD (eFn lenD (lCons (ePk 1) lNil)) (eK (.int 0)))) (mB (eOp eqD (eFz (eOp idxD (ePk 1) (eUn negD (eK (.int 1))))) (eCall g__law_other (aVal (eVar 2) aNil))))) (sEx (ePop 1)) (sEx (eApp 1 (eVar 2))))) (sRet (eMt joinM (eK (.str [])) (lCons (ePk 1) lNil))))))
def g__law_net : List D → Fo := runF [0] 1 2 b__law_net
theorem D__law_net {P : Program} {w : World} {K : PySem.W.Frag} {mg : Str → Option Value} {base : Heap} (G : Gs mg) (F : Fa P K mg) : DefOk P w K mg base 2 1 "_law_net" ["row"] g__law_net :=
  have D__law_other : DefOk P w K mg base 1 1 "_law_other" ["letter"] g__law_other := D__law_other G F
  def_okD F.f__law_net sc__law_net rfl rfl (fun _ _ _ _ _ _ us hl => match us, hl with | [_], _ => rfl) fun f cdv A outer s H E hr => (s_frz (i := 0) (s_cons (s_let 1 sc__law_net.nd (d_lst l_nil)) (s_cons (s_for (passes_of rfl) rfl (i_val (d_var 0)) (g_name sc__law_net.nd) (s_one (s_if (PDW.pt (w_and (t_cmp od_gt (d_bi fd_len rfl G.b_len boot_len (l_cons (d_pk 1) l_nil)) d_int) (w_and1 (t_cmp (od_eq (uz hr)) (d_fz (d_ix (d_pk 1) (d_neg d_int))) (d_callD D__law_other (hr.mono (by decide)) (takes_of rfl rfl rfl rfl) (a_val (d_var 2) a_nil)))))) (s_one (s_expr (s_pop 1))) (s_one (s_expr (s_app 1 (d_var 2))))))) (s_one (s_ret (d_mt (pe_bm PySem.F.plainAttrs_str PySem.F.slot_str_join PySem.F.type_str_join md_join d_str (l_cons (d_pk 1) l_nil))))))))
def b__law_times : MS := (sFrz 0 (sFrz 1 (sSeq (sSet 2 (eK (.int 0))) (sSeq (whileN (mAnd (mB (eOp ltD (eOp addD (eOp mulD (eK (.int 2)) (eVar 2)) (eK (.int 1))) (eFn lenD (lCons (eVar 0) lNil)))) (mB (eOp eqD (eOp idxD (eVar 0) (eVar 2)) (eCall g__law_other (aVal (eOp idxD (eVar 0) (eOp subD (eUn negD (eK (.int 1))) (eVar 2))) aNil))))) (sSet 2 (eOp addD (eVar 2) (eK (.int 1)))) fuel) (sSeq (sSet 3 (eSl (eVar 0) (oSome (eVar 2)) (oSome (eOp subD (eFn lenD (lCons (eVar 0) lNil)) (eVar 2))))) (sSeq (sIf (mAnd (mB (eOp neD (eVar 3) (eK (.str [])))) (mB (eOp gtD (eOp addD (eOp mulD (eK (.int 2)) (eVar 2)) (eOp mulD (eFn lenD (lCons (eVar 3) lNil)) (eVar 1))) (eK (.int 5000))))) (sRet (eK .non)) sNext) (sSeq (sIf (mB (eOp eqD (eVar 3) (eK (.str [])))) (sRet (eK (.str []))) sNext) (sRet (eOp addD (eOp addD (eSl (eVar 0) oNone (oSome (eVar 2))) (eOp mulD (eVar 3) (eVar 1))) (eSl (eVar 0) (oSome (eOp subD (eFn lenD (lCons (eVar 0) lNil)) (eVar 2))) oNone))))))))))
def g__law_times : List D → Fo := runF [0, 1] 2 2 b__law_times
theorem D__law_times {P : Program} {w : World} {K : PySem.W.Frag} {mg : Str → Option Value} {base : Heap} (G : Gs mg) (F : Fa P K mg) : DefOk P w K mg base 2 2 "_law_times" ["net", "times"] g__law_times :=
  have D__law_other : DefOk P w K mg base 1 1 "_law_other" ["letter"] g__law_other := D__law_other G F
  def_okD F.f__law_times sc__law_times rfl rfl (fun _ _ _ _ _ _ us hl => match us, hl with | [_, _], _ => rfl) fun f cdv A outer s H E hr => (s_frz (i := 0) (s_frz (i := 1) (s_cons (s_let 2 sc__law_times.nd d_int) (s_cons (s_while fuel (passes_of rfl) (PDW.pt (w_and (t_cmp od_lt (d_op od_add (d_op od_mul d_int (d_var 2)) d_int) (d_bi fd_len rfl G.b_len boot_len (l_consT (d_var 0) l_nil))) (w_and1 (t_cmp (od_eq (uz hr)) (d_ix (d_var 0) (d_var 2)) (d_callD D__law_other (hr.mono (by decide)) (takes_of rfl rfl rfl rfl) (a_val (d_ix (d_var 0) (d_op od_sub (d_neg d_int) (d_var 2))) a_nil)))))) (s_one (s_let 2 sc__law_times.nd (d_op od_add (d_var 2) d_int)))) (s_cons (s_let 3 sc__law_times.nd (d_sl (d_var 0) (o_some (d_var 2)) (o_some (d_op od_sub (d_bi fd_len rfl G.b_len boot_len (l_consT (d_var 0) l_nil)) (d_var 2))))) (s_cons (s_if (PDW.pt (w_and (t_cmp (od_ne (uz hr)) (d_var 3) d_str) (w_and1 (t_cmp od_gt (d_op od_add (d_op od_mul d_int (d_var 2)) (d_op od_mul (d_bi fd_len rfl G.b_len boot_len (l_consT (d_var 3) l_nil)) (d_var 1))) d_int)))) (s_one (s_ret d_non)) s_nil) (s_cons (s_if (t_cmp (od_eq (uz hr)) (d_var 3) d_str) (s_one (s_ret d_str)) s_nil) (s_one (s_ret (d_op od_add (d_op od_add (d_sl (d_var 0) o_none (o_some (d_var 2))) (d_op od_mul (d_var 3) (d_var 1))) (d_sl (d_var 0) (o_some (d_op od_sub (d_bi fd_len rfl G.b_len boot_len (l_consT (d_var 0) l_nil)) (d_var 2))) o_none)))))))))))
def b__law_due : MS := (sFrz 0 (sSeq (sIf (mB (eOp inD (eK .non) (eVar 0))) (sRet (eK .non)) sNext) (sSeq (sSet 1 (eCall g__law_net (aVal (eMt joinM (eK (.str [])) (lCons (eVar 0) lNil)) aNil))) (sRet (eIf (mB (eOp leD (eFn lenD (lCons (eVar 1) lNil)) (eK (.int 5000)))) (eVar 1) (eK .non))))))
def g__law_due : List D → Fo := runF [0] 1 1 b__law_due
theorem D__law_due {P : Program} {w : World} {K : PySem.W.Frag} {mg : Str → Option Value} {base : Heap} (G : Gs mg) (F : Fa P K mg) : DefOk P w K mg base 3 1 "_law_due" ["pieces"] g__law_due :=
  have D__law_net : DefOk P w K mg base 2 1 "_law_net" ["row"] g__law_net := D__law_net G F
  def_okD F.f__law_due sc__law_due rfl rfl (fun _ _ _ _ _ _ us hl => match us, hl with | [_], _ => rfl) fun f cdv A outer s H E hr => (s_frz (i := 0) (s_cons (s_if (t_cmp od_in d_non (d_var 0)) (s_one (s_ret d_non)) s_nil) (s_cons (s_let 1 sc__law_due.nd (d_callD D__law_net (hr.mono (by decide)) (takes_of rfl rfl rfl rfl) (a_val (d_mt (pe_bm PySem.F.plainAttrs_str PySem.F.slot_str_join PySem.F.type_str_join md_join d_str (l_consT (d_var 0) l_nil))) a_nil))) (s_one (s_ret (d_ifT (t_cmp od_le (d_bi fd_len rfl G.b_len boot_len (l_consT (d_var 1) l_nil)) d_int) (d_var 1) d_non))))))
def b_is_string_of : MS := (sFrz 0 (sFrz 1 (sSeq (sIf (mNot (mB (eFn isiD (lCons (eVar 0) (lCons (eK (.ty "str")) lNil))))) (sRet (eK (.bl false))) sNext) (sSeq (sFor (gN 2) (iVal (eVar 0)) (sIf (mB (eOp ninD (eVar 2) (eVar 1))) (sRet (eK (.bl false))) sNext)) (sRet (eK (.bl true)))))))
def g_is_string_of : List D → Fo := runF [0, 1] 2 1 b_is_string_of
theorem D_is_string_of {P : Program} {w : World} {K : PySem.W.Frag} {mg : Str → Option Value} {base : Heap} (G : Gs mg) (F : Fa P K mg) : DefOk P w K mg base 1 2 "is_string_of" ["thing", "signs"] g_is_string_of :=
  def_okD F.f_is_string_of sc_is_string_of rfl rfl (fun _ _ _ _ _ _ us hl => match us, hl with | [_, _], _ => rfl) fun f cdv A outer s H E hr => (s_frz (i := 0) (s_frz (i := 1) (s_cons (s_if (t_not (t_val (d_bi fd_isi rfl G.b_isinstance boot_isinstance (l_consT (d_var 0) (l_consT (d_ty rfl G.b_str boot_str) l_nil))))) (s_one (s_ret d_bl)) s_nil) (s_cons (s_for (passes_of rfl) rfl (i_val (d_var 0)) (g_name sc_is_string_of.nd) (s_one (s_if (t_cmp od_nin (d_var 2) (d_var 1)) (s_one (s_ret d_bl)) s_nil))) (s_one (s_ret d_bl))))))
def b_is_word : MS := (sFrz 0 (sRet (eBo (mAnd (mB (eCall g_is_string_of (aVal (eVar 0) (aVal (eK (.str c_SMALL)) aNil)))) (mB (eOp gtD (eFn lenD (lCons (eVar 0) lNil)) (eK (.int 0))))))))
def g_is_word : List D → Fo := runF [0] 1 0 b_is_word
theorem D_is_word {P : Program} {w : World} {K : PySem.W.Frag} {mg : Str → Option Value} {base : Heap} (G : Gs mg) (F : Fa P K mg) : DefOk P w K mg base 2 1 "is_word" ["thing"] g_is_word :=
  have D_is_string_of : DefOk P w K mg base 1 2 "is_string_of" ["thing", "signs"] g_is_string_of := D_is_string_of G F
  def_okD F.f_is_word sc_is_word rfl rfl (fun _ _ _ _ _ _ us hl => match us, hl with | [_], _ => rfl) fun f cdv A outer s H E hr => (s_frz (i := 0) (s_one (s_ret (d_and (d_callD D_is_string_of (hr.mono (by decide)) (takes_of rfl rfl rfl rfl) (a_val (d_var 0) (a_val (d_gstr G.c_SMALL) a_nil))) (d_one (d_cmp od_gt (d_bi fd_len rfl G.b_len boot_len (l_consT (d_var 0) l_nil)) d_int))))))
def b_is_deeds : MS := (sFrz 0 (sSeq (sIf (mOr (mNot (mB (eCall g_is_word (aVal (eVar 0) aNil)))) (mB (eOp gtD (eFn lenD (lCons (eVar 0) lNil)) (eK (.int 4))))) (sRet (eK (.bl false))) sNext) (sSeq (sFor (gN 1) (iRg2 (eK (.int 1)) (eFn lenD (lCons (eVar 0) lNil))) (sIf (mB (eOp geD (eOp idxD (eVar 0) (eOp subD (eVar 1) (eK (.int 1)))) (eOp idxD (eVar 0) (eVar 1)))) (sRet (eK (.bl false))) sNext)) (sRet (eK (.bl true))))))
def g_is_deeds : List D → Fo := runF [0] 1 1 b_is_deeds
theorem D_is_deeds {P : Program} {w : World} {K : PySem.W.Frag} {mg : Str → Option Value} {base : Heap} (G : Gs mg) (F : Fa P K mg) : DefOk P w K mg base 3 1 "is_deeds" ["thing"] g_is_deeds :=
  have D_is_word : DefOk P w K mg base 2 1 "is_word" ["thing"] g_is_word := D_is_word G F
  def_okD F.f_is_deeds sc_is_deeds rfl rfl (fun _ _ _ _ _ _ us hl => match us, hl with | [_], _ => rfl) fun f cdv A outer s H E hr => (s_frz (i := 0) (s_cons (s_if (PDW.pt (w_or (t_not (t_val (d_callD D_is_word (hr.mono (by decide)) (takes_of rfl rfl rfl rfl) (a_val (d_var 0) a_nil)))) (w_or1 (t_cmp od_gt (d_bi fd_len rfl G.b_len boot_len (l_consT (d_var 0) l_nil)) d_int)))) (s_one (s_ret d_bl)) s_nil) (s_cons (s_for (passes_of rfl) rfl (i_rg2 d_int (d_bi fd_len rfl G.b_len boot_len (l_consT (d_var 0) l_nil)) G.b_range) (g_name sc_is_deeds.nd) (s_one (s_if (t_cmp od_ge (d_ix (d_var 0) (d_op od_sub (d_var 1) d_int)) (d_ix (d_var 0) (d_var 1))) (s_one (s_ret d_bl)) s_nil))) (s_one (s_ret d_bl)))))
def b_goes_round : MS := (sFrz 0 (sSeq (sSet 1 (eK (.dic true []))) (sSeq (sFor (gN 2) (iVal (eVar 0)) (sSeq sNo sNo)) (sSeq (sFor (gN 4) (iRg1 (eFn lenD (lCons (eVar 0) lNil))) sNo) (sRet (eFn anyD (lCons (eLc (gN 2) (iVal (eVar 0)) mYes mStuck [2]) lNil)))))))
def g_goes_round : List D → Fo := runF [0] 1 7 b_goes_round
theorem D_goes_round {P : Program} {w : World} {K : PySem.W.Frag} {mg : Str → Option Value} {base : Heap} (G : Gs mg) (F : Fa P K mg) : DefOk P w K mg base 1 1 "goes_round" ["parts"] g_goes_round :=
  def_okD F.f_goes_round sc_goes_round rfl rfl (fun _ _ _ _ _ _ us hl => match us, hl with | [_], _ => rfl) fun f cdv A outer s H E hr => (s_frz (i := 0) (s_cons (s_let 1 sc_goes_round.nd d_dic0) (s_cons (s_for (passes_of rfl) rfl (i_val (d_var 0)) (g_name sc_goes_round.nd) (s_cons s_no (s_one s_no))) (s_cons (s_for (passes_of rfl) rfl (i_rg1 (d_bi fd_len rfl G.b_len boot_len (l_consT (d_var 0) l_nil)) G.b_range) (g_name sc_goes_round.nd) (s_one s_no)) (s_one (s_ret (d_bi (fd_any rfl) rfl G.b_any boot_any (l_consT (d_lc (kp := [0, 1, 3, 4, 5, 6, 7]) rfl sc_goes_round.nd (i_val (d_var 0)) (blkOk_by (N := N_goes_round) (sc := defScope t_goes_round) (own := [("name", 2)]) (by decide +kernel)) rfl (hkp_of (N := N_goes_round) [2] (by decide)) (fun _ _ _ _ _ => (g_name sc_goes_round.nd)) (fun _ _ _ _ _ => ts_nil) (fun _ _ _ _ _ => PD.to (d_no (alt := true) (sep := true)))) l_nil))))))))
def b_are_parts : MS := (sFrz 0 (sFrz 1 (sSeq (sIf (mOr (mNot (mB (eFn isiD (lCons (eVar 0) (lCons (eK (.ty "dict")) lNil))))) (mB (eOp gtD (eFn lenD (lCons (eVar 0) lNil)) (eK (.int 4))))) (sRet (eK (.bl false))) sNext) (sSeq (sIf (mNot (mB (eFn allD (lCons (eLc (gN 2) (iVal (eVar 0)) mYes mStuck [2]) lNil)))) (sRet (eK (.bl false))) sNext) (sRet (eBo (mAnd (mB (eFn allD (lCons (eLc (gN 2) (iVal (eVar 0)) mYes mStuck [2]) lNil))) (mB (eBo (mNot (mB (eCall g_goes_round (aVal (eVar 0) aNil)))))))))))))
def g_are_parts : List D → Fo := runF [0, 1] 2 1 b_are_parts
theorem D_are_parts {P : Program} {w : World} {K : PySem.W.Frag} {mg : Str → Option Value} {base : Heap} (G : Gs mg) (F : Fa P K mg) : DefOk P w K mg base 2 2 "are_parts" ["thing", "deeds"] g_are_parts :=
  have D_goes_round : DefOk P w K mg base 1 1 "goes_round" ["parts"] g_goes_round := D_goes_round G F
  def_okD F.f_are_parts sc_are_parts rfl rfl (fun _ _ _ _ _ _ us hl => match us, hl with | [_, _], _ => rfl) fun f cdv A outer s H E hr => (s_frz (i := 0) (s_frz (i := 1) (s_cons (s_if (PDW.pt (w_or (t_not (t_val (d_bi fd_isi rfl G.b_isinstance boot_isinstance (l_consT (d_var 0) (l_consT (d_ty rfl G.b_dict boot_dict) l_nil))))) (w_or1 (t_cmp od_gt (d_bi fd_len rfl G.b_len boot_len (l_consT (d_var 0) l_nil)) (d_gint G.c_MOST_PARTS))))) (s_one (s_ret d_bl)) s_nil) (s_cons (s_if (t_not (t_val (d_bi (fd_all rfl) rfl G.b_all boot_all (l_consT (d_lc (kp := [0, 1]) rfl sc_are_parts.nd (i_val (d_var 0)) (blkOk_by (N := N_are_parts) (sc := defScope t_are_parts) (own := [("name", 2)]) (by decide +kernel)) rfl (hkp_of (N := N_are_parts) [2] (by decide)) (fun _ _ _ _ _ => (g_name sc_are_parts.nd)) (fun _ _ _ _ _ => ts_nil) (fun _ _ _ _ _ => PD.to (d_no (alt := true) (sep := true)))) l_nil)))) (s_one (s_ret d_bl)) s_nil) (s_one (s_ret (d_and (d_bi (fd_all rfl) rfl G.b_all boot_all (l_consT (d_lc (kp := [0, 1]) rfl sc_are_parts.nd (i_val (d_var 0)) (blkOk_by (N := N_are_parts) (sc := defScope t_are_parts) (own := [("name", 2)]) (by decide +kernel)) rfl (hkp_of (N := N_are_parts) [2] (by decide)) (fun _ _ _ _ _ => (g_name sc_are_parts.nd)) (fun _ _ _ _ _ => ts_nil) (fun _ _ _ _ _ => PD.to (d_no (alt := true) (sep := true)))) l_nil)) (d_one (d_not (d_callD D_goes_round (hr.mono (by decide)) (takes_of rfl rfl rfl rfl) (a_val (d_var 0) a_nil)))))))))))
def b_is_pair : MS := (sFrz 0 (sRet (eBo (mAnd (mB (eFn isiD (lCons (eVar 0) (lCons (eK (.ty "tuple")) lNil)))) (mB (eOp eqD (eFn lenD (lCons (eVar 0) lNil)) (eK (.int 2))))))))
def g_is_pair : List D → Fo := runF [0] 1 0 b_is_pair
theorem D_is_pair {P : Program} {w : World} {K : PySem.W.Frag} {mg : Str → Option Value} {base : Heap} (G : Gs mg) (F : Fa P K mg) : DefOk P w K mg base 1 1 "is_pair" ["thing"] g_is_pair :=
  def_okD F.f_is_pair sc_is_pair rfl rfl (fun _ _ _ _ _ _ us hl => match us, hl with | [_], _ => rfl) fun f cdv A outer s H E hr => (s_frz (i := 0) (s_one (s_ret (d_and (d_bi fd_isi rfl G.b_isinstance boot_isinstance (l_consT (d_var 0) (l_consT (d_ty rfl G.b_tuple boot_tuple) l_nil))) (d_one (d_cmp (od_eq (uz hr)) (d_bi fd_len rfl G.b_len boot_len (l_consT (d_var 0) l_nil)) d_int))))))
def b_is_row_over : MS := (sFrz 0 (sFrz 1 (sRet (eCall g_is_string_of (aVal (eVar 1) (aVal (eOp addD (eVar 0) (eMt upM (eVar 0) lNil)) aNil))))))
def g_is_row_over : List D → Fo := runF [0, 1] 2 0 b_is_row_over
theorem D_is_row_over {P : Program} {w : World} {K : PySem.W.Frag} {mg : Str → Option Value} {base : Heap} (G : Gs mg) (F : Fa P K mg) : DefOk P w K mg base 2 2 "is_row_over" ["deeds", "thing"] g_is_row_over :=
  have D_is_string_of : DefOk P w K mg base 1 2 "is_string_of" ["thing", "signs"] g_is_string_of := D_is_string_of G F
  def_okD F.f_is_row_over sc_is_row_over rfl rfl (fun _ _ _ _ _ _ us hl => match us, hl with | [_, _], _ => rfl) fun f cdv A outer s H E hr => (s_frz (i := 0) (s_frz (i := 1) (s_one (s_ret (d_callD D_is_string_of (hr.mono (by decide)) (takes_of rfl rfl rfl rfl) (a_val (d_var 1) (a_val (d_op od_add (d_var 0) (d_mt0 PySem.F.plainAttrs_str PySem.F.slot_str_upper PySem.F.type_str_upper md_up (d_var 0))) a_nil)))))))
def b_is_block (self_is_block : List D → Fo) (self_is_statement : List D → Fo) : MS := (sFrz 0 (sFrz 1 (sFrz 2 (sFrz 3 (sSeq (sIf (mOr (mB (eOp gtD (eVar 3) (eK (.int 6)))) (mOr (mNot (mB (eFn isiD (lCons (eVar 0) (lCons (eK (.ty "tuple")) lNil))))) (mB (eOp gtD (eFn lenD (lCons (eVar 0) lNil)) (eK (.int 8)))))) (sRet (eK (.bl false))) sNext) (sRet (eFn allD (lCons (eLc (gN 4) (iVal (eVar 0)) mYes (eCall self_is_statement (aVal (eVar 4) (aVal (eVar 1) (aVal (eVar 2) (aVal (eVar 3) aNil))))) [4]) lNil))))))))
def b_is_statement (self_is_block : List D → Fo) (self_is_statement : List D → Fo) : MS := (sFrz 0 (sFrz 1 (sFrz 2 (sFrz 3 (sSeq (sIf (mOr (mNot (mB (eCall g_is_pair (aVal (eVar 0) aNil)))) (mNot (mB (eFn isiD (lCons (eOp idxD (eVar 0) (eK (.int 0))) (lCons (eK (.ty "str")) lNil)))))) (sRet (eK (.bl false))) sNext) (sSeq (sAsg (gT (gCs (gN 4) (gCs (gN 5) gNl))) (eVar 0)) (sSeq (sIf (mB (eOp eqD (eVar 4) (eK (.str [100, 111])))) (sRet (eBo (mAnd (mB (eCall g_is_row_over (aVal (eVar 1) (aVal (eVar 5) aNil)))) (mB (eOp leD (eFn lenD (lCons (eVar 5) lNil)) (eK (.int 12))))))) sNext) (sSeq (sIf (mB (eOp eqD (eVar 4) (eK (.str [112, 97, 114, 116])))) (sRet (eBo (mAnd (mB (eFn isiD (lCons (eVar 5) (lCons (eK (.ty "str")) lNil)))) (mB (eOp inD (eVar 5) (eVar 2)))))) sNext) (sSeq (sIf (mB (eOp inD (eVar 4) (eTup (lCons (eK (.str [108, 111, 111, 112])) (lCons (eK (.str [117, 110, 100, 111])) lNil))))) (sRet (eCall self_is_block (aVal (eVar 5) (aVal (eVar 1) (aVal (eVar 2) (aVal (eOp addD (eVar 3) (eK (.int 1))) aNil)))))) sNext) (sSeq (sIf (mOr (mB (eOp ninD (eVar 4) (eTup (lCons (eK (.str [101, 105, 116, 104, 101, 114])) (lCons (eK (.str [111, 116, 104, 101, 114])) lNil))))) (mOr (mNot (mB (eFn isiD (lCons (eVar 5) (lCons (eK (.ty "tuple")) lNil))))) (mNot (mB (eCh leD leD (eK (.int 1)) (eFn lenD (lCons (eVar 5) lNil)) (eK (.int 4))))))) (sRet (eK (.bl false))) sNext) (sRet (eFn allD (lCons (eLc (gN 6) (iVal (eVar 5)) mYes (eCall self_is_block (aVal (eVar 6) (aVal (eVar 1) (aVal (eVar 2) (aVal (eOp addD (eVar 3) (eK (.int 1))) aNil))))) [6]) lNil)))))))))))))
mutual
def r_is_block : Nat → List D → Fo
  | 0 => fun _ => .stuck
  | n + 1 => runF [0, 1, 2, 3] 4 1 (b_is_block (r_is_block n) (r_is_statement n))
def r_is_statement : Nat → List D → Fo
  | 0 => fun _ => .stuck
  | n + 1 => runF [0, 1, 2, 3] 4 3 (b_is_statement (r_is_block n) (r_is_statement n))
end
def g_is_block : List D → Fo := r_is_block 12
def g_is_statement : List D → Fo := r_is_statement 12
theorem R_is_block {P : Program} {w : World} {K : PySem.W.Frag} {mg : Str → Option Value} {base : Heap} (G : Gs mg) (F : Fa P K mg) : ∀ n, DefOk P w K mg base (3 + n) 4 "is_block" ["thing", "deeds", "names", "deep"] (r_is_block n) ∧ DefOk P w K mg base (3 + n) 4 "is_statement" ["thing", "deeds", "names", "deep"] (r_is_statement n)
  | 0 => ⟨def_none F.f_is_block rfl (fun _ _ _ _ _ _ us hl => match us, hl with | [_, _, _, _], _ => rfl), def_none F.f_is_statement rfl (fun _ _ _ _ _ _ us hl => match us, hl with | [_, _, _, _], _ => rfl)⟩
  | n + 1 => by
    have D_is_block : DefOk P w K mg base (3 + n) 4 "is_block" ["thing", "deeds", "names", "deep"] (r_is_block n) := (R_is_block G F n).1
    have D_is_statement : DefOk P w K mg base (3 + n) 4 "is_statement" ["thing", "deeds", "names", "deep"] (r_is_statement n) := (R_is_block G F n).2
    have D_is_pair : DefOk P w K mg base 1 1 "is_pair" ["thing"] g_is_pair := D_is_pair G F
    have D_is_row_over : DefOk P w K mg base 2 2 "is_row_over" ["deeds", "thing"] g_is_row_over := D_is_row_over G F
    refine ⟨?_, ?_⟩
    · exact def_okD F.f_is_block sc_is_block rfl rfl (fun _ _ _ _ _ _ us hl => match us, hl with | [_, _, _, _], _ => rfl) fun f cdv A outer s H E hr => (s_frz (i := 0) (s_frz (i := 1) (s_frz (i := 2) (s_frz (i := 3) (s_cons (s_if (PDW.pt (w_or (t_cmp od_gt (d_var 3) (d_gint G.c_MOST_DEEP)) (w_or (t_not (t_val (d_bi fd_isi rfl G.b_isinstance boot_isinstance (l_consT (d_var 0) (l_consT (d_ty rfl G.b_tuple boot_tuple) l_nil))))) (w_or1 (t_cmp od_gt (d_bi fd_len rfl G.b_len boot_len (l_consT (d_var 0) l_nil)) (d_gint G.c_MOST_STATEMENTS)))))) (s_one (s_ret d_bl)) s_nil) (s_one (s_ret (d_bi (fd_all rfl) rfl G.b_all boot_all (l_consT (d_lc (kp := [0, 1, 2, 3]) rfl sc_is_block.nd (i_val (d_var 0)) (blkOk_by (N := N_is_block) (sc := defScope t_is_block) (own := [("statement", 4)]) (by decide +kernel)) rfl (hkp_of (N := N_is_block) [4] (by decide)) (fun _ _ _ _ _ => (g_name sc_is_block.nd)) (fun _ _ _ _ _ => ts_nil) (fun _ _ _ _ _ => PD.to (d_callD D_is_statement (hr.mono (by first | exact Nat.le_refl _ | exact Nat.le_trans (by decide) (Nat.le_add_right 3 n))) takes0 (a_val (d_var 4) (a_val (d_var 1) (a_val (d_var 2) (a_val (d_var 3) a_nil))))))) l_nil)))))))))
    · exact def_okD F.f_is_statement sc_is_statement rfl rfl (fun _ _ _ _ _ _ us hl => match us, hl with | [_, _, _, _], _ => rfl) fun f cdv A outer s H E hr => (s_frz (i := 0) (s_frz (i := 1) (s_frz (i := 2) (s_frz (i := 3) (s_cons (s_if (PDW.pt (w_or (t_not (t_val (d_callD D_is_pair (hr.mono (by first | exact Nat.le_refl _ | exact Nat.le_trans (by decide) (Nat.le_add_right 3 n))) (takes_of rfl rfl rfl rfl) (a_val (d_var 0) a_nil)))) (w_or1 (t_not (t_val (d_bi fd_isi rfl G.b_isinstance boot_isinstance (l_consT (d_ix (d_var 0) d_int) (l_consT (d_ty rfl G.b_str boot_str) l_nil)))))))) (s_one (s_ret d_bl)) s_nil) (s_cons (s_asg (d_var 0) (g_tup (pg_tup rfl (g_cons (g_name sc_is_statement.nd) (g_cons (g_name sc_is_statement.nd) g_nil))) (gCs_len (gCs_len gNl_len)))) (s_cons (s_if (t_cmp (od_eq (uz hr)) (d_var 4) d_str) (s_one (s_ret (d_and (d_callD D_is_row_over (hr.mono (by first | exact Nat.le_refl _ | exact Nat.le_trans (by decide) (Nat.le_add_right 3 n))) (takes_of rfl rfl rfl rfl) (a_val (d_var 1) (a_val (d_var 5) a_nil))) (d_one (d_cmp od_le (d_bi fd_len rfl G.b_len boot_len (l_consT (d_var 5) l_nil)) (d_gint G.c_MOST_LETTERS_blocks)))))) s_nil) (s_cons (s_if (t_cmp (od_eq (uz hr)) (d_var 4) d_str) (s_one (s_ret (d_and (d_bi fd_isi rfl G.b_isinstance boot_isinstance (l_consT (d_var 5) (l_consT (d_ty rfl G.b_str boot_str) l_nil))) (d_one (d_cmp od_in (d_var 5) (d_var 2)))))) s_nil) (s_cons (s_if (t_cmp od_in (d_var 4) (d_tup (l_consT d_str (l_consT d_str l_nil)))) (s_one (s_ret (d_callD D_is_block (hr.mono (by first | exact Nat.le_refl _ | exact Nat.le_trans (by decide) (Nat.le_add_right 3 n))) (takes_of rfl rfl rfl rfl) (a_val (d_var 5) (a_val (d_var 1) (a_val (d_var 2) (a_val (d_op od_add (d_var 3) d_int) a_nil))))))) s_nil) (s_cons (s_if (PDW.pt (w_or (t_cmp od_nin (d_var 4) (d_tup (l_consT d_str (l_consT d_str l_nil)))) (w_or (t_not (t_val (d_bi fd_isi rfl G.b_isinstance boot_isinstance (l_consT (d_var 5) (l_consT (d_ty rfl G.b_tuple boot_tuple) l_nil))))) (w_or1 (t_not (t_ch od_le od_le d_int (d_bi fd_len rfl G.b_len boot_len (l_consT (d_var 5) l_nil)) (d_gint G.c_MOST_BLOCKS))))))) (s_one (s_ret d_bl)) s_nil) (s_one (s_ret (d_bi (fd_all rfl) rfl G.b_all boot_all (l_consT (d_lc (kp := [0, 1, 2, 3, 4, 5]) rfl sc_is_statement.nd (i_val (d_var 5)) (blkOk_by (N := N_is_statement) (sc := defScope t_is_statement) (own := [("block", 6)]) (by decide +kernel)) rfl (hkp_of (N := N_is_statement) [6] (by decide)) (fun _ _ _ _ _ => (g_name sc_is_statement.nd)) (fun _ _ _ _ _ => ts_nil) (fun _ _ _ _ _ => PD.to (d_callD D_is_block (hr.mono (by first | exact Nat.le_refl _ | exact Nat.le_trans (by decide) (Nat.le_add_right 3 n))) takes0 (a_val (d_var 6) (a_val (d_var 1) (a_val (d_var 2) (a_val (d_op od_add (d_var 3) d_int) a_nil))))))) l_nil))))))))))))))
theorem D_is_block {P : Program} {w : World} {K : PySem.W.Frag} {mg : Str → Option Value} {base : Heap} (G : Gs mg) (F : Fa P K mg) : DefOk P w K mg base 15 4 "is_block" ["thing", "deeds", "names", "deep"] g_is_block := (R_is_block G F 12).1
theorem D_is_statement {P : Program} {w : World} {K : PySem.W.Frag} {mg : Str → Option Value} {base : Heap} (G : Gs mg) (F : Fa P K mg) : DefOk P w K mg base 15 4 "is_statement" ["thing", "deeds", "names", "deep"] g_is_statement := (R_is_block G F 12).2
def b_Sizes_block (self_Sizes_block : List D → Fo) (self_Sizes_statement : List D → Fo) : MS := (sFrz 0 (sFrz 1 (sSeq (sIf (mB (eOp eqD (eFn lenD (lCons (eVar 1) lNil)) (eK (.int 0)))) (sRet (eTup (lCons (eK (.int 0)) (lCons (eK (.int 1)) lNil)))) sNext) (sSeq (sSet 2 (eLc (gN 3) (iVal (eVar 1)) mYes (eMeV "Sizes" "statement" self_Sizes_statement (eVar 0) (aVal (eVar 3) aNil)) [3])) (sFrz 2 (sRet (eTup (lCons (eOp addD (eOp subD (eFn lenD (lCons (eVar 1) lNil)) (eK (.int 1))) (eFn sumD (lCons (eLc (gN 4) (iVal (eVar 2)) mYes (eOp idxD (eVar 4) (eK (.int 0))) [4]) lNil))) (lCons (eFn sumD (lCons (eLc (gN 4) (iVal (eVar 2)) mYes (eOp idxD (eVar 4) (eK (.int 1))) [4]) lNil)) lNil)))))))))
def b_Sizes_statement (self_Sizes_block : List D → Fo) (self_Sizes_statement : List D → Fo) : MS := (sFrz 0 (sFrz 1 (sSeq (sAsg (gT (gCs (gN 2) (gCs (gN 3) gNl))) (eVar 1)) (sSeq (sIf (mB (eOp eqD (eVar 2) (eK (.str [100, 111])))) (sRet (eTup (lCons (eFn max2D (lCons (eK (.int 0)) (lCons (eOp subD (eFn lenD (lCons (eVar 3) lNil)) (eK (.int 1))) lNil))) (lCons (eFn max2D (lCons (eK (.int 1)) (lCons (eFn lenD (lCons (eVar 3) lNil)) lNil))) lNil)))) sNext) (sSeq (sIf (mB (eOp eqD (eVar 2) (eK (.str [112, 97, 114, 116])))) (sRet mStuck) sNext) (sSeq (sIf (mB (eOp eqD (eVar 2) (eK (.str [117, 110, 100, 111])))) (sRet (eMeV "Sizes" "block" self_Sizes_block (eVar 0) (aVal (eVar 3) aNil))) sNext) (sSeq (sIf (mB (eOp eqD (eVar 2) (eK (.str [108, 111, 111, 112])))) (sSeq (sAsg (gT (gCs (gN 4) (gCs (gN 5) gNl))) (eMeV "Sizes" "block" self_Sizes_block (eVar 0) (aVal (eVar 3) aNil))) (sRet (eTup (lCons (eOp addD (eVar 4) (eK (.int 1))) (lCons (eOp addD (eVar 5) (eK (.int 2))) lNil))))) sNext) (sSeq (sSet 6 (eLc (gN 7) (iVal (eVar 3)) mYes (eMeV "Sizes" "block" self_Sizes_block (eVar 0) (aVal (eVar 7) aNil)) [7])) (sFrz 6 (sSeq (sSet 4 (eFn sumD (lCons (eLc (gN 8) (iVal (eVar 6)) mYes (eOp idxD (eVar 8) (eK (.int 0))) [8]) lNil))) (sSeq (sSet 5 (eFn sumD (lCons (eLc (gN 8) (iVal (eVar 6)) mYes (eOp idxD (eVar 8) (eK (.int 1))) [8]) lNil))) (sSeq (sIf (mB (eOp eqD (eVar 2) (eK (.str [101, 105, 116, 104, 101, 114])))) (sRet (eTup (lCons (eVar 4) (lCons (eVar 5) lNil)))) sNext) (sRet (eTup (lCons (eOp addD (eOp addD (eVar 4) (eFn lenD (lCons (eVar 3) lNil))) (eK (.int 1))) (lCons (eOp addD (eOp addD (eVar 5) (eFn lenD (lCons (eVar 3) lNil))) (eK (.int 1))) lNil))))))))))))))))
mutual
def r_Sizes_block : Nat → List D → Fo
  | 0 => fun _ => .stuck
  | n + 1 => runF [0, 1] 2 3 (b_Sizes_block (r_Sizes_block n) (r_Sizes_statement n))
def r_Sizes_statement : Nat → List D → Fo
  | 0 => fun _ => .stuck
  | n + 1 => runF [0, 1] 2 7 (b_Sizes_statement (r_Sizes_block n) (r_Sizes_statement n))
end
def g_Sizes_block : List D → Fo := r_Sizes_block 12
def g_Sizes_statement : List D → Fo := r_Sizes_statement 12
theorem R_Sizes_block {P : Program} {w : World} {K : PySem.W.Frag} {mg : Str → Option Value} {base : Heap} (G : Gs mg) (F : Fa P K mg) : ∀ n, MetOk P w K mg base (1 + n) 2 "Sizes" "block" ["self", "block"] (r_Sizes_block n) ∧ MetOk P w K mg base (1 + n) 2 "Sizes" "statement" ["self", "statement"] (r_Sizes_statement n)
  | 0 => ⟨met_none F.m_Sizes_block rfl (fun _ _ _ _ _ _ us hl => match us, hl with | [_, _], _ => rfl), met_none F.m_Sizes_statement rfl (fun _ _ _ _ _ _ us hl => match us, hl with | [_, _], _ => rfl)⟩
  | n + 1 => by
    have D_Sizes_block : MetOk P w K mg base (1 + n) 2 "Sizes" "block" ["self", "block"] (r_Sizes_block n) := (R_Sizes_block G F n).1
    have D_Sizes_statement : MetOk P w K mg base (1 + n) 2 "Sizes" "statement" ["self", "statement"] (r_Sizes_statement n) := (R_Sizes_block G F n).2
    refine ⟨?_, ?_⟩
    · exact met_ok F.m_Sizes_block sc_Sizes_block rfl rfl (fun _ _ _ _ _ _ us hl => match us, hl with | [_, _], _ => rfl) fun f cdv A outer s H E hr => (s_frz (i := 0) (s_frz (i := 1) (s_cons (s_if (t_cmp (od_eq (uz hr)) (d_bi fd_len rfl G.b_len boot_len (l_consT (d_var 1) l_nil)) d_int) (s_one (s_ret (d_tup (l_consT d_int (l_consT d_int l_nil))))) s_nil) (s_cons (s_setLc (i := 2) (kp := [0, 1, 2, 4]) rfl sc_Sizes_block.nd (i_val (d_var 1)) (blkOk_by (N := N_Sizes_block) (sc := defScope t_Sizes_block) (own := [("statement", 3)]) (by decide +kernel)) rfl (hkp_of (N := N_Sizes_block) [3] (by decide)) (fun _ _ _ _ _ => (g_name sc_Sizes_block.nd)) (fun _ _ _ _ _ => ts_nil) (fun _ _ _ _ _ => PD.to (d_meV D_Sizes_statement (hr.mono (by first | exact Nat.le_refl _ | exact Nat.le_trans (by decide) (Nat.le_add_right 1 n))) takes0 (d_var 0) (a_val (d_var 3) a_nil)))) (s_frz (i := 2) (s_one (s_ret (d_tup (l_consT (d_op od_add (d_op od_sub (d_bi fd_len rfl G.b_len boot_len (l_consT (d_var 1) l_nil)) d_int) (d_bi (fd_sum rfl) rfl G.b_sum boot_sum (l_consT (d_lc (kp := [0, 1, 2, 3]) rfl sc_Sizes_block.nd (i_val (d_var 2)) (blkOk_by (N := N_Sizes_block) (sc := defScope t_Sizes_block) (own := [("pair", 4)]) (by decide +kernel)) rfl (hkp_of (N := N_Sizes_block) [4] (by decide)) (fun _ _ _ _ _ => (g_name sc_Sizes_block.nd)) (fun _ _ _ _ _ => ts_nil) (fun _ _ _ _ _ => PD.to (d_ix (d_var 4) d_int))) l_nil))) (l_consT (d_bi (fd_sum rfl) rfl G.b_sum boot_sum (l_consT (d_lc (kp := [0, 1, 2, 3]) rfl sc_Sizes_block.nd (i_val (d_var 2)) (blkOk_by (N := N_Sizes_block) (sc := defScope t_Sizes_block) (own := [("pair", 4)]) (by decide +kernel)) rfl (hkp_of (N := N_Sizes_block) [4] (by decide)) (fun _ _ _ _ _ => (g_name sc_Sizes_block.nd)) (fun _ _ _ _ _ => ts_nil) (fun _ _ _ _ _ => PD.to (d_ix (d_var 4) d_int))) l_nil)) l_nil))))))))))
    · exact met_ok F.m_Sizes_statement sc_Sizes_statement rfl rfl (fun _ _ _ _ _ _ us hl => match us, hl with | [_, _], _ => rfl) fun f cdv A outer s H E hr => (s_frz (i := 0) (s_frz (i := 1) (s_cons (s_asg (d_var 1) (g_tup (pg_tup rfl (g_cons (g_name sc_Sizes_statement.nd) (g_cons (g_name sc_Sizes_statement.nd) g_nil))) (gCs_len (gCs_len gNl_len)))) (s_cons (s_if (t_cmp (od_eq (uz hr)) (d_var 2) d_str) (s_one (s_ret (d_tup (l_consT (d_bi (fd_max2 rfl) rfl G.b_max boot_max (l_consT d_int (l_consT (d_op od_sub (d_bi fd_len rfl G.b_len boot_len (l_consT (d_var 3) l_nil)) d_int) l_nil))) (l_consT (d_bi (fd_max2 rfl) rfl G.b_max boot_max (l_consT d_int (l_consT (d_bi fd_len rfl G.b_len boot_len (l_consT (d_var 3) l_nil)) l_nil))) l_nil))))) s_nil) (s_cons (s_if (t_cmp (od_eq (uz hr)) (d_var 2) d_str) (s_one (s_ret (d_no (alt := true) (sep := true)))) s_nil) (s_cons (s_if (t_cmp (od_eq (uz hr)) (d_var 2) d_str) (s_one (s_ret (d_meV D_Sizes_block (hr.mono (by first | exact Nat.le_refl _ | exact Nat.le_trans (by decide) (Nat.le_add_right 1 n))) (takes_of rfl rfl rfl rfl) (d_var 0) (a_val (d_var 3) a_nil)))) s_nil) (s_cons (s_if (t_cmp (od_eq (uz hr)) (d_var 2) d_str) (s_cons (s_asg (d_meV D_Sizes_block (hr.mono (by first | exact Nat.le_refl _ | exact Nat.le_trans (by decide) (Nat.le_add_right 1 n))) (takes_of rfl rfl rfl rfl) (d_var 0) (a_val (d_var 3) a_nil)) (g_tup (pg_tup rfl (g_cons (g_name sc_Sizes_statement.nd) (g_cons (g_name sc_Sizes_statement.nd) g_nil))) (gCs_len (gCs_len gNl_len)))) (s_one (s_ret (d_tup (l_consT (d_op od_add (d_var 4) d_int) (l_consT (d_op od_add (d_var 5) d_int) l_nil)))))) s_nil) (s_cons (s_setLc (i := 6) (kp := [0, 1, 2, 3, 4, 5, 6, 8]) rfl sc_Sizes_statement.nd (i_val (d_var 3)) (blkOk_by (N := N_Sizes_statement) (sc := defScope t_Sizes_statement) (own := [("block", 7)]) (by decide +kernel)) rfl (hkp_of (N := N_Sizes_statement) [7] (by decide)) (fun _ _ _ _ _ => (g_name sc_Sizes_statement.nd)) (fun _ _ _ _ _ => ts_nil) (fun _ _ _ _ _ => PD.to (d_meV D_Sizes_block (hr.mono (by first | exact Nat.le_refl _ | exact Nat.le_trans (by decide) (Nat.le_add_right 1 n))) takes0 (d_var 0) (a_val (d_var 7) a_nil)))) (s_frz (i := 6) (s_cons (s_let 4 sc_Sizes_statement.nd (d_bi (fd_sum rfl) rfl G.b_sum boot_sum (l_consT (d_lc (kp := [0, 1, 2, 3, 4, 5, 6, 7]) rfl sc_Sizes_statement.nd (i_val (d_var 6)) (blkOk_by (N := N_Sizes_statement) (sc := defScope t_Sizes_statement) (own := [("pair", 8)]) (by decide +kernel)) rfl (hkp_of (N := N_Sizes_statement) [8] (by decide)) (fun _ _ _ _ _ => (g_name sc_Sizes_statement.nd)) (fun _ _ _ _ _ => ts_nil) (fun _ _ _ _ _ => PD.to (d_ix (d_var 8) d_int))) l_nil))) (s_cons (s_let 5 sc_Sizes_statement.nd (d_bi (fd_sum rfl) rfl G.b_sum boot_sum (l_consT (d_lc (kp := [0, 1, 2, 3, 4, 5, 6, 7]) rfl sc_Sizes_statement.nd (i_val (d_var 6)) (blkOk_by (N := N_Sizes_statement) (sc := defScope t_Sizes_statement) (own := [("pair", 8)]) (by decide +kernel)) rfl (hkp_of (N := N_Sizes_statement) [8] (by decide)) (fun _ _ _ _ _ => (g_name sc_Sizes_statement.nd)) (fun _ _ _ _ _ => ts_nil) (fun _ _ _ _ _ => PD.to (d_ix (d_var 8) d_int))) l_nil))) (s_cons (s_if (t_cmp (od_eq (uz hr)) (d_var 2) d_str) (s_one (s_ret (d_tup (l_consT (d_var 4) (l_consT (d_var 5) l_nil))))) s_nil) (s_one (s_ret (d_tup (l_consT (d_op od_add (d_op od_add (d_var 4) (d_bi fd_len rfl G.b_len boot_len (l_consT (d_var 3) l_nil))) d_int) (l_consT (d_op od_add (d_op od_add (d_var 5) (d_bi fd_len rfl G.b_len boot_len (l_consT (d_var 3) l_nil))) d_int) l_nil)))))))))))))))))
theorem D_Sizes_block {P : Program} {w : World} {K : PySem.W.Frag} {mg : Str → Option Value} {base : Heap} (G : Gs mg) (F : Fa P K mg) : MetOk P w K mg base 13 2 "Sizes" "block" ["self", "block"] g_Sizes_block := (R_Sizes_block G F 12).1
theorem D_Sizes_statement {P : Program} {w : World} {K : PySem.W.Frag} {mg : Str → Option Value} {base : Heap} (G : Gs mg) (F : Fa P K mg) : MetOk P w K mg base 13 2 "Sizes" "statement" ["self", "statement"] g_Sizes_statement := (R_Sizes_block G F 12).2
def b_Sizes_init : MS := (sFrz 1 (sSeq (sSetF 0 "Sizes" "parts_asked" (eVar 1)) (sSetF 0 "Sizes" "known" (eK (.dic true [])))))
def g_Sizes_init : List D → Fo := runF [0, 1] 2 0 b_Sizes_init
theorem D_Sizes_init {P : Program} {w : World} {K : PySem.W.Frag} {mg : Str → Option Value} {base : Heap} (G : Gs mg) (F : Fa P K mg) : IniOk P w K mg base 1 2 "Sizes" ["self", "parts"] g_Sizes_init :=
  ini_ok F.n_Sizes_init sc_Sizes_init rfl rfl (fun _ _ _ _ _ _ us hl => match us, hl with | [_, _], _ => rfl) fun f cdv A outer s H E hr => (s_frz (i := 1) (s_cons (s_fld 0 F.k_Sizes (d_var 1)) (s_one (s_fld 0 F.k_Sizes d_dic0))))
def b_Program_init : MS := (sFrz 1 (sFrz 2 (sFrz 3 (sSeq (sIf (mNot (mB (eCall g_is_deeds (aVal (eVar 1) aNil)))) sNo sNext) (sSeq (sIf (mNot (mB (eCall g_are_parts (aVal (eVar 2) (aVal (eVar 1) aNil))))) sNo sNext) (sSeq (sIf (mNot (mB (eCall g_is_block (aVal (eVar 3) (aVal (eVar 1) (aVal (eVar 2) (aVal (eK (.int 1)) aNil))))))) sNo sNext) (sSeq (sAsg (gT (gCs (gN 4) (gCs (gN 5) gNl))) (eMeV "Sizes" "block" g_Sizes_block (eMk "Sizes" g_Sizes_init (aVal (eVar 2) aNil)) (aVal (eVar 3) aNil))) (sSeq (sIf (mOr (mB (eOp gtD (eOp addD (eVar 4) (eK (.int 2))) (eK (.int 60)))) (mB (eOp gtD (eVar 5) (eK (.int 200))))) sNo sNext) (sSeq (sSetF 0 "Program" "deeds" (eVar 1)) (sSeq (sSetF 0 "Program" "body" (eVar 3)) (sSeq (sSetF 0 "Program" "kept_deeds" (eVar 1)) (sSeq (sSetF 0 "Program" "kept_parts" (eDc (gN 6) (iVal (eFn sortD (lCons (eVar 2) lNil))) mYes mStuck mStuck [6])) (sSeq (sSetF 0 "Program" "kept_body" (eVar 3)) (sSetF 0 "Program" "kept_flow" (eK .non)))))))))))))))
def g_Program_init : List D → Fo := runF [0, 1, 2, 3] 4 3 b_Program_init
theorem D_Program_init {P : Program} {w : World} {K : PySem.W.Frag} {mg : Str → Option Value} {base : Heap} (G : Gs mg) (F : Fa P K mg) : IniOk P w K mg base 16 4 "Program" ["self", "deeds", "parts", "body"] g_Program_init :=
  have D_is_deeds : DefOk P w K mg base 3 1 "is_deeds" ["thing"] g_is_deeds := D_is_deeds G F
  have D_are_parts : DefOk P w K mg base 2 2 "are_parts" ["thing", "deeds"] g_are_parts := D_are_parts G F
  have D_is_block : DefOk P w K mg base 15 4 "is_block" ["thing", "deeds", "names", "deep"] g_is_block := D_is_block G F
  have D_Sizes_block : MetOk P w K mg base 13 2 "Sizes" "block" ["self", "block"] g_Sizes_block := D_Sizes_block G F
  have D_Sizes_init : IniOk P w K mg base 1 2 "Sizes" ["self", "parts"] g_Sizes_init := D_Sizes_init G F
  ini_ok F.n_Program_init sc_Program_init rfl rfl (fun _ _ _ _ _ _ us hl => match us, hl with | [_, _, _, _], _ => rfl) fun f cdv A outer s H E hr => (s_frz (i := 1) (s_frz (i := 2) (s_frz (i := 3) (s_cons (s_if (t_not (t_val (d_callD D_is_deeds (hr.mono (by decide)) (takes_of rfl rfl rfl rfl) (a_val (d_var 1) a_nil)))) (s_one s_no) s_nil) (s_cons (s_if (t_not (t_val (d_callD D_are_parts (hr.mono (by decide)) (takes_of rfl rfl rfl rfl) (a_val (d_var 2) (a_val (d_var 1) a_nil))))) (s_one s_no) s_nil) (s_cons (s_if (t_not (t_val (d_callD D_is_block (hr.mono (by decide)) (takes_of rfl rfl rfl rfl) (a_val (d_var 3) (a_val (d_var 1) (a_val (d_var 2) (a_val d_int a_nil))))))) (s_one s_no) s_nil) (s_cons (s_asg (d_meV D_Sizes_block (hr.mono (by decide)) (takes_of rfl rfl rfl rfl) (d_make D_Sizes_init (hr.mono (by decide)) (takes_of rfl rfl rfl rfl) (a_val (d_var 2) a_nil)) (a_val (d_var 3) a_nil)) (g_tup (pg_tup rfl (g_cons (g_name sc_Program_init.nd) (g_cons (g_name sc_Program_init.nd) g_nil))) (gCs_len (gCs_len gNl_len)))) (s_cons (s_if (PDW.pt (w_or (t_cmp od_gt (d_op od_add (d_var 4) d_int) (d_gint G.c_MOST_PLACES)) (w_or1 (t_cmp od_gt (d_var 5) (d_gint G.c_MOST_ARROWS))))) (s_one s_no) s_nil) (s_cons (s_fld 0 F.k_Program (d_var 1)) (s_cons (s_fld 0 F.k_Program (d_var 3)) (s_cons (s_fld 0 F.k_Program (d_var 1)) (s_cons (s_fld 0 F.k_Program (d_dc (kp := [0, 1, 2, 3, 4, 5]) rfl sc_Program_init.nd (i_val (d_bi (fd_sort rfl) rfl G.b_sorted boot_sorted (l_consT (d_var 2) l_nil))) (blkOk_by (N := N_Program_init) (sc := defScope t_Program_init) (own := [("name", 6)]) (by decide +kernel)) rfl (hkp_of (N := N_Program_init) [6] (by decide)) (fun _ _ _ _ _ => (g_name sc_Program_init.nd)) (fun _ _ _ _ _ => ts_nil)  (fun _ _ _ _ _ => PD.to (d_no (alt := true) (sep := true))) (fun _ _ _ _ _ => PD.to (d_no (alt := true) (sep := true))))) (s_cons (s_fld 0 F.k_Program (d_var 3)) (s_one (s_fld 0 F.k_Program d_non)))))))))))))))
def b_is_integer : MS := (sFrz 0 (sRet (eBo (mAnd (mB (eFn isiD (lCons (eVar 0) (lCons (eK (.ty "int")) lNil)))) (mB (eBo (mNot (mB (eFn isiD (lCons (eVar 0) (lCons (eK (.ty "bool")) lNil)))))))))))
def g_is_integer : List D → Fo := runF [0] 1 0 b_is_integer
theorem D_is_integer {P : Program} {w : World} {K : PySem.W.Frag} {mg : Str → Option Value} {base : Heap} (G : Gs mg) (F : Fa P K mg) : DefOk P w K mg base 1 1 "is_integer" ["thing"] g_is_integer :=
  def_okD F.f_is_integer sc_is_integer rfl rfl (fun _ _ _ _ _ _ us hl => match us, hl with | [_], _ => rfl) fun f cdv A outer s H E hr => (s_frz (i := 0) (s_one (s_ret (d_and (d_bi fd_isi rfl G.b_isinstance boot_isinstance (l_consT (d_var 0) (l_consT (d_ty rfl G.b_int boot_int) l_nil))) (d_one (d_not (d_bi fd_isi rfl G.b_isinstance boot_isinstance (l_consT (d_var 0) (l_consT (d_ty rfl G.b_bool boot_bool) l_nil)))))))))
def b_is_block_plan (self_is_block_plan : List D → Fo) (self_is_statement_plan : List D → Fo) (self_are_rounds : List D → Fo) (self_is_choice : List D → Fo) : MS := (sFrz 0 (sFrz 1 (sFrz 2 (sSeq (sIf (mOr (mNot (mB (eFn isiD (lCons (eVar 2) (lCons (eK (.ty "tuple")) lNil))))) (mB (eOp neD (eFn lenD (lCons (eVar 2) lNil)) (eFn lenD (lCons (eVar 1) lNil))))) (sRet (eK (.bl false))) sNext) (sRet (eFn allD (lCons (eLc (gT (gCs (gN 3) (gCs (gN 4) gNl))) (iEnu (eVar 1)) mYes (eCall self_is_statement_plan (aVal (eVar 0) (aVal (eVar 4) (aVal (eOp idxD (eVar 2) (eVar 3)) aNil)))) [3, 4]) lNil)))))))
def b_is_statement_plan (self_is_block_plan : List D → Fo) (self_is_statement_plan : List D → Fo) (self_are_rounds : List D → Fo) (self_is_choice : List D → Fo) : MS := (sFrz 0 (sFrz 1 (sFrz 2 (sSeq (sAsg (gT (gCs (gN 3) (gCs (gN 4) gNl))) (eVar 1)) (sSeq (sIf (mB (eOp eqD (eVar 3) (eK (.str [100, 111])))) (sRet (eBo (mAnd (mB (eFn isiD (lCons (eVar 2) (lCons (eK (.ty "tuple")) lNil)))) (mB (eOp eqD (eFn lenD (lCons (eVar 2) lNil)) (eK (.int 0))))))) sNext) (sSeq (sIf (mB (eOp eqD (eVar 3) (eK (.str [108, 111, 111, 112])))) (sRet (eCall self_are_rounds (aVal (eVar 0) (aVal (eVar 4) (aVal (eVar 2) aNil))))) sNext) (sSeq (sIf (mB (eOp eqD (eVar 3) (eK (.str [112, 97, 114, 116])))) (sRet (eCall self_is_block_plan (aVal (eVar 0) (aVal (eOp idxD (eVar 0) (eVar 4)) (aVal (eVar 2) aNil))))) sNext) (sSeq (sIf (mB (eOp eqD (eVar 3) (eK (.str [117, 110, 100, 111])))) (sRet (eCall self_is_block_plan (aVal (eVar 0) (aVal (eVar 4) (aVal (eVar 2) aNil))))) sNext) (sRet (eCall self_is_choice (aVal (eVar 0) (aVal (eVar 4) (aVal (eVar 2) aNil)))))))))))))
def b_are_rounds (self_is_block_plan : List D → Fo) (self_is_statement_plan : List D → Fo) (self_are_rounds : List D → Fo) (self_is_choice : List D → Fo) : MS := (sFrz 0 (sFrz 1 (sFrz 2 (sSeq (sIf (mNot (mB (eFn isiD (lCons (eVar 2) (lCons (eK (.ty "tuple")) lNil))))) (sRet (eK (.bl false))) sNext) (sSeq (sFor (gN 3) (iVal (eVar 2)) (sSeq (sIf (mOr (mNot (mB (eCall g_is_pair (aVal (eVar 3) aNil)))) (mOr (mNot (mB (eCall g_is_integer (aVal (eOp idxD (eVar 3) (eK (.int 1))) aNil)))) (mB (eOp ltD (eOp idxD (eVar 3) (eK (.int 1))) (eK (.int 1)))))) (sRet (eK (.bl false))) sNext) (sIf (mNot (mB (eCall self_is_block_plan (aVal (eVar 0) (aVal (eVar 1) (aVal (eOp idxD (eVar 3) (eK (.int 0))) aNil)))))) (sRet (eK (.bl false))) sNext))) (sRet (eK (.bl true))))))))
def b_is_choice (self_is_block_plan : List D → Fo) (self_is_statement_plan : List D → Fo) (self_are_rounds : List D → Fo) (self_is_choice : List D → Fo) : MS := (sFrz 0 (sFrz 1 (sFrz 2 (sSeq (sIf (mOr (mNot (mB (eCall g_is_pair (aVal (eVar 2) aNil)))) (mOr (mNot (mB (eCall g_is_integer (aVal (eOp idxD (eVar 2) (eK (.int 0))) aNil)))) (mNot (mB (eCh leD ltD (eK (.int 0)) (eOp idxD (eVar 2) (eK (.int 0))) (eFn lenD (lCons (eVar 1) lNil))))))) (sRet (eK (.bl false))) sNext) (sRet (eCall self_is_block_plan (aVal (eVar 0) (aVal (eOp idxD (eVar 1) (eOp idxD (eVar 2) (eK (.int 0)))) (aVal (eOp idxD (eVar 2) (eK (.int 1))) aNil)))))))))
mutual
def r_is_block_plan : Nat → List D → Fo
  | 0 => fun _ => .stuck
  | n + 1 => runF [0, 1, 2] 3 2 (b_is_block_plan (r_is_block_plan n) (r_is_statement_plan n) (r_are_rounds n) (r_is_choice n))
def r_is_statement_plan : Nat → List D → Fo
  | 0 => fun _ => .stuck
  | n + 1 => runF [0, 1, 2] 3 2 (b_is_statement_plan (r_is_block_plan n) (r_is_statement_plan n) (r_are_rounds n) (r_is_choice n))
def r_are_rounds : Nat → List D → Fo
  | 0 => fun _ => .stuck
  | n + 1 => runF [0, 1, 2] 3 1 (b_are_rounds (r_is_block_plan n) (r_is_statement_plan n) (r_are_rounds n) (r_is_choice n))
def r_is_choice : Nat → List D → Fo
  | 0 => fun _ => .stuck
  | n + 1 => runF [0, 1, 2] 3 0 (b_is_choice (r_is_block_plan n) (r_is_statement_plan n) (r_are_rounds n) (r_is_choice n))
end
def g_is_block_plan : List D → Fo := r_is_block_plan 14
def g_is_statement_plan : List D → Fo := r_is_statement_plan 14
def g_are_rounds : List D → Fo := r_are_rounds 14
def g_is_choice : List D → Fo := r_is_choice 14
theorem R_is_block_plan {P : Program} {w : World} {K : PySem.W.Frag} {mg : Str → Option Value} {base : Heap} (G : Gs mg) (F : Fa P K mg) : ∀ n, DefOk P w K mg base (2 + n) 3 "is_block_plan" ["parts", "block", "thing"] (r_is_block_plan n) ∧ DefOk P w K mg base (2 + n) 3 "is_statement_plan" ["parts", "statement", "thing"] (r_is_statement_plan n) ∧ DefOk P w K mg base (2 + n) 3 "are_rounds" ["parts", "block", "thing"] (r_are_rounds n) ∧ DefOk P w K mg base (2 + n) 3 "is_choice" ["parts", "blocks", "thing"] (r_is_choice n)
  | 0 => ⟨def_none F.f_is_block_plan rfl (fun _ _ _ _ _ _ us hl => match us, hl with | [_, _, _], _ => rfl), def_none F.f_is_statement_plan rfl (fun _ _ _ _ _ _ us hl => match us, hl with | [_, _, _], _ => rfl), def_none F.f_are_rounds rfl (fun _ _ _ _ _ _ us hl => match us, hl with | [_, _, _], _ => rfl), def_none F.f_is_choice rfl (fun _ _ _ _ _ _ us hl => match us, hl with | [_, _, _], _ => rfl)⟩
  | n + 1 => by
    have D_is_block_plan : DefOk P w K mg base (2 + n) 3 "is_block_plan" ["parts", "block", "thing"] (r_is_block_plan n) := (R_is_block_plan G F n).1
    have D_is_statement_plan : DefOk P w K mg base (2 + n) 3 "is_statement_plan" ["parts", "statement", "thing"] (r_is_statement_plan n) := (R_is_block_plan G F n).2.1
    have D_are_rounds : DefOk P w K mg base (2 + n) 3 "are_rounds" ["parts", "block", "thing"] (r_are_rounds n) := (R_is_block_plan G F n).2.2.1
    have D_is_choice : DefOk P w K mg base (2 + n) 3 "is_choice" ["parts", "blocks", "thing"] (r_is_choice n) := (R_is_block_plan G F n).2.2.2
    have D_is_pair : DefOk P w K mg base 1 1 "is_pair" ["thing"] g_is_pair := D_is_pair G F
    have D_is_integer : DefOk P w K mg base 1 1 "is_integer" ["thing"] g_is_integer := D_is_integer G F
    refine ⟨?_, ?_, ?_, ?_⟩
    · exact def_okD F.f_is_block_plan sc_is_block_plan rfl rfl (fun _ _ _ _ _ _ us hl => match us, hl with | [_, _, _], _ => rfl) fun f cdv A outer s H E hr => (s_frz (i := 0) (s_frz (i := 1) (s_frz (i := 2) (s_cons (s_if (PDW.pt (w_or (t_not (t_val (d_bi fd_isi rfl G.b_isinstance boot_isinstance (l_consT (d_var 2) (l_consT (d_ty rfl G.b_tuple boot_tuple) l_nil))))) (w_or1 (t_cmp (od_ne (uz hr)) (d_bi fd_len rfl G.b_len boot_len (l_consT (d_var 2) l_nil)) (d_bi fd_len rfl G.b_len boot_len (l_consT (d_var 1) l_nil)))))) (s_one (s_ret d_bl)) s_nil) (s_one (s_ret (d_bi (fd_all rfl) rfl G.b_all boot_all (l_consT (d_lc (kp := [0, 1, 2]) rfl sc_is_block_plan.nd (i_enuT (d_var 1) G.b_enumerate) (blkOk_by (N := N_is_block_plan) (sc := defScope t_is_block_plan) (own := [("k", 3), ("statement", 4)]) (by decide +kernel)) rfl (hkp_of (N := N_is_block_plan) [3, 4] (by decide)) (fun _ _ _ _ _ => (g_tup (pg_tup rfl (g_cons (g_name sc_is_block_plan.nd) (g_cons (g_name sc_is_block_plan.nd) g_nil))) (gCs_len (gCs_len gNl_len)))) (fun _ _ _ _ _ => ts_nil) (fun _ _ _ _ _ => PD.to (d_callD D_is_statement_plan (hr.mono (by first | exact Nat.le_refl _ | exact Nat.le_trans (by decide) (Nat.le_add_right 2 n))) takes0 (a_val (d_var 0) (a_val (d_var 4) (a_val (d_ix (d_var 2) (d_var 3)) a_nil)))))) l_nil))))))))
    · exact def_okD F.f_is_statement_plan sc_is_statement_plan rfl rfl (fun _ _ _ _ _ _ us hl => match us, hl with | [_, _, _], _ => rfl) fun f cdv A outer s H E hr => (s_frz (i := 0) (s_frz (i := 1) (s_frz (i := 2) (s_cons (s_asg (d_var 1) (g_tup (pg_tup rfl (g_cons (g_name sc_is_statement_plan.nd) (g_cons (g_name sc_is_statement_plan.nd) g_nil))) (gCs_len (gCs_len gNl_len)))) (s_cons (s_if (t_cmp (od_eq (uz hr)) (d_var 3) d_str) (s_one (s_ret (d_and (d_bi fd_isi rfl G.b_isinstance boot_isinstance (l_consT (d_var 2) (l_consT (d_ty rfl G.b_tuple boot_tuple) l_nil))) (d_one (d_cmp (od_eq (uz hr)) (d_bi fd_len rfl G.b_len boot_len (l_consT (d_var 2) l_nil)) d_int))))) s_nil) (s_cons (s_if (t_cmp (od_eq (uz hr)) (d_var 3) d_str) (s_one (s_ret (d_callD D_are_rounds (hr.mono (by first | exact Nat.le_refl _ | exact Nat.le_trans (by decide) (Nat.le_add_right 2 n))) (takes_of rfl rfl rfl rfl) (a_val (d_var 0) (a_val (d_var 4) (a_val (d_var 2) a_nil)))))) s_nil) (s_cons (s_if (t_cmp (od_eq (uz hr)) (d_var 3) d_str) (s_one (s_ret (d_callD D_is_block_plan (hr.mono (by first | exact Nat.le_refl _ | exact Nat.le_trans (by decide) (Nat.le_add_right 2 n))) (takes_of rfl rfl rfl rfl) (a_val (d_var 0) (a_val (d_ix (d_var 0) (d_var 4)) (a_val (d_var 2) a_nil)))))) s_nil) (s_cons (s_if (t_cmp (od_eq (uz hr)) (d_var 3) d_str) (s_one (s_ret (d_callD D_is_block_plan (hr.mono (by first | exact Nat.le_refl _ | exact Nat.le_trans (by decide) (Nat.le_add_right 2 n))) (takes_of rfl rfl rfl rfl) (a_val (d_var 0) (a_val (d_var 4) (a_val (d_var 2) a_nil)))))) s_nil) (s_one (s_ret (d_callD D_is_choice (hr.mono (by first | exact Nat.le_refl _ | exact Nat.le_trans (by decide) (Nat.le_add_right 2 n))) (takes_of rfl rfl rfl rfl) (a_val (d_var 0) (a_val (d_var 4) (a_val (d_var 2) a_nil))))))))))))))
    · exact def_okD F.f_are_rounds sc_are_rounds rfl rfl (fun _ _ _ _ _ _ us hl => match us, hl with | [_, _, _], _ => rfl) fun f cdv A outer s H E hr => (s_frz (i := 0) (s_frz (i := 1) (s_frz (i := 2) (s_cons (s_if (t_not (t_val (d_bi fd_isi rfl G.b_isinstance boot_isinstance (l_consT (d_var 2) (l_consT (d_ty rfl G.b_tuple boot_tuple) l_nil))))) (s_one (s_ret d_bl)) s_nil) (s_cons (s_for (passes_of rfl) rfl (i_val (d_var 2)) (g_name sc_are_rounds.nd) (s_cons (s_if (PDW.pt (w_or (t_not (t_val (d_callD D_is_pair (hr.mono (by first | exact Nat.le_refl _ | exact Nat.le_trans (by decide) (Nat.le_add_right 2 n))) (takes_of rfl rfl rfl rfl) (a_val (d_var 3) a_nil)))) (w_or (t_not (t_val (d_callD D_is_integer (hr.mono (by first | exact Nat.le_refl _ | exact Nat.le_trans (by decide) (Nat.le_add_right 2 n))) (takes_of rfl rfl rfl rfl) (a_val (d_ix (d_var 3) d_int) a_nil)))) (w_or1 (t_cmp od_lt (d_ix (d_var 3) d_int) d_int))))) (s_one (s_ret d_bl)) s_nil) (s_one (s_if (t_not (t_val (d_callD D_is_block_plan (hr.mono (by first | exact Nat.le_refl _ | exact Nat.le_trans (by decide) (Nat.le_add_right 2 n))) (takes_of rfl rfl rfl rfl) (a_val (d_var 0) (a_val (d_var 1) (a_val (d_ix (d_var 3) d_int) a_nil)))))) (s_one (s_ret d_bl)) s_nil)))) (s_one (s_ret d_bl)))))))
    · exact def_okD F.f_is_choice sc_is_choice rfl rfl (fun _ _ _ _ _ _ us hl => match us, hl with | [_, _, _], _ => rfl) fun f cdv A outer s H E hr => (s_frz (i := 0) (s_frz (i := 1) (s_frz (i := 2) (s_cons (s_if (PDW.pt (w_or (t_not (t_val (d_callD D_is_pair (hr.mono (by first | exact Nat.le_refl _ | exact Nat.le_trans (by decide) (Nat.le_add_right 2 n))) (takes_of rfl rfl rfl rfl) (a_val (d_var 2) a_nil)))) (w_or (t_not (t_val (d_callD D_is_integer (hr.mono (by first | exact Nat.le_refl _ | exact Nat.le_trans (by decide) (Nat.le_add_right 2 n))) (takes_of rfl rfl rfl rfl) (a_val (d_ix (d_var 2) d_int) a_nil)))) (w_or1 (t_not (t_ch od_le od_lt d_int (d_ix (d_var 2) d_int) (d_bi fd_len rfl G.b_len boot_len (l_consT (d_var 1) l_nil)))))))) (s_one (s_ret d_bl)) s_nil) (s_one (s_ret (d_callD D_is_block_plan (hr.mono (by first | exact Nat.le_refl _ | exact Nat.le_trans (by decide) (Nat.le_add_right 2 n))) (takes_of rfl rfl rfl rfl) (a_val (d_var 0) (a_val (d_ix (d_var 1) (d_ix (d_var 2) d_int)) (a_val (d_ix (d_var 2) d_int) a_nil))))))))))
theorem D_is_block_plan {P : Program} {w : World} {K : PySem.W.Frag} {mg : Str → Option Value} {base : Heap} (G : Gs mg) (F : Fa P K mg) : DefOk P w K mg base 16 3 "is_block_plan" ["parts", "block", "thing"] g_is_block_plan := (R_is_block_plan G F 14).1
theorem D_is_statement_plan {P : Program} {w : World} {K : PySem.W.Frag} {mg : Str → Option Value} {base : Heap} (G : Gs mg) (F : Fa P K mg) : DefOk P w K mg base 16 3 "is_statement_plan" ["parts", "statement", "thing"] g_is_statement_plan := (R_is_block_plan G F 14).2.1
theorem D_are_rounds {P : Program} {w : World} {K : PySem.W.Frag} {mg : Str → Option Value} {base : Heap} (G : Gs mg) (F : Fa P K mg) : DefOk P w K mg base 16 3 "are_rounds" ["parts", "block", "thing"] g_are_rounds := (R_is_block_plan G F 14).2.2.1
theorem D_is_choice {P : Program} {w : World} {K : PySem.W.Frag} {mg : Str → Option Value} {base : Heap} (G : Gs mg) (F : Fa P K mg) : DefOk P w K mg base 16 3 "is_choice" ["parts", "blocks", "thing"] g_is_choice := (R_is_block_plan G F 14).2.2.2
def b_is_plan : MS := (sFrz 0 (sFrz 1 (sRet (eCall g_is_block_plan (aVal (eFld "Program" "kept_parts" (eVar 0)) (aVal (eFld "Program" "kept_body" (eVar 0)) (aVal (eVar 1) aNil)))))))
def g_is_plan : List D → Fo := runF [0, 1] 2 0 b_is_plan
theorem D_is_plan {P : Program} {w : World} {K : PySem.W.Frag} {mg : Str → Option Value} {base : Heap} (G : Gs mg) (F : Fa P K mg) : DefOk P w K mg base 17 2 "is_plan" ["program", "thing"] g_is_plan :=
  have D_is_block_plan : DefOk P w K mg base 16 3 "is_block_plan" ["parts", "block", "thing"] g_is_block_plan := D_is_block_plan G F
  def_okD F.f_is_plan sc_is_plan rfl rfl (fun _ _ _ _ _ _ us hl => match us, hl with | [_, _], _ => rfl) fun f cdv A outer s H E hr => (s_frz (i := 0) (s_frz (i := 1) (s_one (s_ret (d_callD D_is_block_plan (hr.mono (by decide)) (takes_of rfl rfl rfl rfl) (a_val (d_fld F.k_Program (d_var 0)) (a_val (d_fld F.k_Program (d_var 0)) (a_val (d_var 1) a_nil))))))))
def b_check_plan : MS := (sFrz 0 (sFrz 1 (sIf (mNot (mB (eCall g_is_plan (aVal (eVar 0) (aVal (eVar 1) aNil))))) sNo sNext)))
def g_check_plan : List D → Fo := runF [0, 1] 2 0 b_check_plan
theorem D_check_plan {P : Program} {w : World} {K : PySem.W.Frag} {mg : Str → Option Value} {base : Heap} (G : Gs mg) (F : Fa P K mg) : DefOk P w K mg base 18 2 "check_plan" ["program", "thing"] g_check_plan :=
  have D_is_plan : DefOk P w K mg base 17 2 "is_plan" ["program", "thing"] g_is_plan := D_is_plan G F
  def_okD F.f_check_plan sc_check_plan rfl rfl (fun _ _ _ _ _ _ us hl => match us, hl with | [_, _], _ => rfl) fun f cdv A outer s H E hr => (s_frz (i := 0) (s_frz (i := 1) (s_one (s_if (t_not (t_val (d_callD D_is_plan (hr.mono (by decide)) (takes_of rfl rfl rfl rfl) (a_val (d_var 0) (a_val (d_var 1) a_nil))))) (s_one s_no) s_nil))))
def b_once_within : MS := (sFrz 0 (sFrz 1 (sFrz 2 (sSeq (sAsg (gT (gCs (gN 3) (gCs (gN 4) gNl))) (eVar 1)) (sSeq (sIf (mB (eOp eqD (eVar 3) (eK (.str [112, 97, 114, 116])))) (sRet (eTup (lCons (eOp idxD (eVar 0) (eVar 4)) (lCons (eVar 2) lNil)))) sNext) (sSeq (sIf (mB (eOp eqD (eVar 3) (eK (.str [117, 110, 100, 111])))) (sRet (eTup (lCons (eVar 4) (lCons (eVar 2) lNil)))) sNext) (sRet (eTup (lCons (eOp idxD (eVar 4) (eOp idxD (eVar 2) (eK (.int 0)))) (lCons (eOp idxD (eVar 2) (eK (.int 1))) lNil))))))))))
def g_once_within : List D → Fo := runF [0, 1, 2] 3 2 b_once_within
theorem D_once_within {P : Program} {w : World} {K : PySem.W.Frag} {mg : Str → Option Value} {base : Heap} (G : Gs mg) (F : Fa P K mg) : DefOk P w K mg base 1 3 "once_within" ["parts", "statement", "item"] g_once_within :=
  def_okD F.f_once_within sc_once_within rfl rfl (fun _ _ _ _ _ _ us hl => match us, hl with | [_, _, _], _ => rfl) fun f cdv A outer s H E hr => (s_frz (i := 0) (s_frz (i := 1) (s_frz (i := 2) (s_cons (s_asg (d_var 1) (g_tup (pg_tup rfl (g_cons (g_name sc_once_within.nd) (g_cons (g_name sc_once_within.nd) g_nil))) (gCs_len (gCs_len gNl_len)))) (s_cons (s_if (t_cmp (od_eq (uz hr)) (d_var 3) d_str) (s_one (s_ret (d_tup (l_consT (d_ix (d_var 0) (d_var 4)) (l_consT (d_var 2) l_nil))))) s_nil) (s_cons (s_if (t_cmp (od_eq (uz hr)) (d_var 3) d_str) (s_one (s_ret (d_tup (l_consT (d_var 4) (l_consT (d_var 2) l_nil))))) s_nil) (s_one (s_ret (d_tup (l_consT (d_ix (d_var 4) (d_ix (d_var 2) d_int)) (l_consT (d_ix (d_var 2) d_int) l_nil)))))))))))
def b_letters_in (self_letters_in : List D → Fo) : MS := (sFrz 0 (sFrz 1 (sFrz 2 (sSeq (sSet 3 (eK (.int 0))) (sSeq (sFor (gT (gCs (gN 4) (gCs (gN 5) gNl))) (iZip2 (eVar 1) (eVar 2)) (sIf (mB (eOp eqD (eOp idxD (eVar 4) (eK (.int 0))) (eK (.str [100, 111])))) (sAug 3 iaddD (eFn lenD (lCons (eOp idxD (eVar 4) (eK (.int 1))) lNil))) (sIf (mB (eOp eqD (eOp idxD (eVar 4) (eK (.int 0))) (eK (.str [108, 111, 111, 112])))) (sAug 3 iaddD (eFn sumD (lCons (eLc (gT (gCs (gN 7) (gCs (gN 8) gNl))) (iVal (eVar 5)) mYes (eOp mulD (eVar 8) (eCall self_letters_in (aVal (eVar 0) (aVal (eOp idxD (eVar 4) (eK (.int 1))) (aVal (eVar 7) aNil))))) [7, 8]) lNil))) (sSeq (sAsg (gT (gCs (gN 6) (gCs (gN 7) gNl))) (eCall g_once_within (aVal (eVar 0) (aVal (eVar 4) (aVal (eVar 5) aNil))))) (sAug 3 iaddD (eCall self_letters_in (aVal (eVar 0) (aVal (eVar 6) (aVal (eVar 7) aNil))))))))) (sRet (eVar 3)))))))
def r_letters_in : Nat → List D → Fo
  | 0 => fun _ => .stuck
  | n + 1 => runF [0, 1, 2] 3 6 (b_letters_in (r_letters_in n))
def g_letters_in : List D → Fo := r_letters_in 6
theorem R_letters_in {P : Program} {w : World} {K : PySem.W.Frag} {mg : Str → Option Value} {base : Heap} (G : Gs mg) (F : Fa P K mg) : ∀ n, DefOk P w K mg base (2 + n) 3 "letters_in" ["parts", "block", "plan"] (r_letters_in n)
  | 0 => def_none F.f_letters_in rfl (fun _ _ _ _ _ _ us hl => match us, hl with | [_, _, _], _ => rfl)
  | n + 1 => by
    have D_letters_in : DefOk P w K mg base (2 + n) 3 "letters_in" ["parts", "block", "plan"] (r_letters_in n) := (R_letters_in G F n)
    have D_once_within : DefOk P w K mg base 1 3 "once_within" ["parts", "statement", "item"] g_once_within := D_once_within G F
    exact def_okD F.f_letters_in sc_letters_in rfl rfl (fun _ _ _ _ _ _ us hl => match us, hl with | [_, _, _], _ => rfl) fun f cdv A outer s H E hr => (s_frz (i := 0) (s_frz (i := 1) (s_frz (i := 2) (s_cons (s_let 3 sc_letters_in.nd d_int) (s_cons (s_for (passes_of rfl) rfl (i_zipT (d_var 1) (d_var 2) G.b_zip) (g_tup (pg_tup rfl (g_cons (g_name sc_letters_in.nd) (g_cons (g_name sc_letters_in.nd) g_nil))) (gCs_len (gCs_len gNl_len))) (s_one (s_if (t_cmp (od_eq (uz hr)) (d_ix (d_var 4) d_int) d_str) (s_one (s_inc 3 od_iadd sc_letters_in.nd (d_bi fd_len rfl G.b_len boot_len (l_consT (d_ix (d_var 4) d_int) l_nil)))) (s_one (s_if (t_cmp (od_eq (uz hr)) (d_ix (d_var 4) d_int) d_str) (s_one (s_inc 3 od_iadd sc_letters_in.nd (d_bi (fd_sum rfl) rfl G.b_sum boot_sum (l_consT (d_lc (kp := [0, 1, 2, 3, 4, 5, 6]) rfl sc_letters_in.nd (i_val (d_var 5)) (blkOk_by (N := N_letters_in) (sc := defScope t_letters_in) (own := [("inner", 7), ("times", 8)]) (by decide +kernel)) rfl (hkp_of (N := N_letters_in) [7, 8] (by decide)) (fun _ _ _ _ _ => (g_tup (pg_tup rfl (g_cons (g_name sc_letters_in.nd) (g_cons (g_name sc_letters_in.nd) g_nil))) (gCs_len (gCs_len gNl_len)))) (fun _ _ _ _ _ => ts_nil) (fun _ _ _ _ _ => PD.to (d_op od_mul (d_var 8) (d_callD D_letters_in (hr.mono (by first | exact Nat.le_refl _ | exact Nat.le_trans (by decide) (Nat.le_add_right 2 n))) takes0 (a_val (d_var 0) (a_val (d_ix (d_var 4) d_int) (a_val (d_var 7) a_nil))))))) l_nil)))) (s_cons (s_asg (d_callD D_once_within (hr.mono (by first | exact Nat.le_refl _ | exact Nat.le_trans (by decide) (Nat.le_add_right 2 n))) (takes_of rfl rfl rfl rfl) (a_val (d_var 0) (a_val (d_var 4) (a_val (d_var 5) a_nil)))) (g_tup (pg_tup rfl (g_cons (g_name sc_letters_in.nd) (g_cons (g_name sc_letters_in.nd) g_nil))) (gCs_len (gCs_len gNl_len)))) (s_one (s_inc 3 od_iadd sc_letters_in.nd (d_callD D_letters_in (hr.mono (by first | exact Nat.le_refl _ | exact Nat.le_trans (by decide) (Nat.le_add_right 2 n))) (takes_of rfl rfl rfl rfl) (a_val (d_var 0) (a_val (d_var 6) (a_val (d_var 7) a_nil)))))))))))) (s_one (s_ret (d_var 3))))))))
theorem D_letters_in {P : Program} {w : World} {K : PySem.W.Frag} {mg : Str → Option Value} {base : Heap} (G : Gs mg) (F : Fa P K mg) : DefOk P w K mg base 8 3 "letters_in" ["parts", "block", "plan"] g_letters_in := (R_letters_in G F 6)
def b_letters_of : MS := (sFrz 0 (sFrz 1 (sSeq (sEx (eCall g_check_plan (aVal (eVar 0) (aVal (eVar 1) aNil)))) (sRet (eCall g_letters_in (aVal (eFld "Program" "kept_parts" (eVar 0)) (aVal (eFld "Program" "kept_body" (eVar 0)) (aVal (eVar 1) aNil))))))))
def g_letters_of : List D → Fo := runF [0, 1] 2 0 b_letters_of
theorem D_letters_of {P : Program} {w : World} {K : PySem.W.Frag} {mg : Str → Option Value} {base : Heap} (G : Gs mg) (F : Fa P K mg) : DefOk P w K mg base 19 2 "letters_of" ["program", "plan"] g_letters_of :=
  have D_check_plan : DefOk P w K mg base 18 2 "check_plan" ["program", "thing"] g_check_plan := D_check_plan G F
  have D_letters_in : DefOk P w K mg base 8 3 "letters_in" ["parts", "block", "plan"] g_letters_in := D_letters_in G F
  def_okD F.f_letters_of sc_letters_of rfl rfl (fun _ _ _ _ _ _ us hl => match us, hl with | [_, _], _ => rfl) fun f cdv A outer s H E hr => (s_frz (i := 0) (s_frz (i := 1) (s_cons (s_expr (d_callD D_check_plan (hr.mono (by decide)) (takes_of rfl rfl rfl rfl) (a_val (d_var 0) (a_val (d_var 1) a_nil)))) (s_one (s_ret (d_callD D_letters_in (hr.mono (by decide)) (takes_of rfl rfl rfl rfl) (a_val (d_fld F.k_Program (d_var 0)) (a_val (d_fld F.k_Program (d_var 0)) (a_val (d_var 1) a_nil)))))))))
def b_undoing_of : MS := (sFrz 0 (sRet (eMt swapM (eVar 0) lNil)))
def g_undoing_of : List D → Fo := runF [0] 1 0 b_undoing_of
theorem D_undoing_of {P : Program} {w : World} {K : PySem.W.Frag} {mg : Str → Option Value} {base : Heap} (G : Gs mg) (F : Fa P K mg) : DefOk P w K mg base 1 1 "undoing_of" ["letter"] g_undoing_of :=
  def_okD F.f_undoing_of sc_undoing_of rfl rfl (fun _ _ _ _ _ _ us hl => match us, hl with | [_], _ => rfl) fun f cdv A outer s H E hr => (s_frz (i := 0) (s_one (s_ret (d_mt0 PySem.F.plainAttrs_str PySem.F.slot_str_swapcase PySem.F.type_str_swapcase md_swap (d_var 0)))))
def b_bent : MS := (sFrz 0 (sSeq (sSet 1 (eK (.int 0))) (sSeq (whileN (mAnd (mB (eOp ltD (eOp addD (eOp mulD (eK (.int 2)) (eVar 1)) (eK (.int 1))) (eFn lenD (lCons (eVar 0) lNil)))) (mB (eOp eqD (eOp idxD (eVar 0) (eVar 1)) (eCall g_undoing_of (aVal (eOp idxD (eVar 0) (eOp subD (eUn negD (eK (.int 1))) (eVar 1))) aNil))))) (sAug 1 iaddD (eK (.int 1))) fuel) (sRet (eVar 1)))))
def g_bent : List D → Fo := runF [0] 1 1 b_bent
theorem D_bent {P : Program} {w : World} {K : PySem.W.Frag} {mg : Str → Option Value} {base : Heap} (G : Gs mg) (F : Fa P K mg) : DefOk P w K mg base 2 1 "bent" ["net"] g_bent :=
  have D_undoing_of : DefOk P w K mg base 1 1 "undoing_of" ["letter"] g_undoing_of := D_undoing_of G F
  def_okD F.f_bent sc_bent rfl rfl (fun _ _ _ _ _ _ us hl => match us, hl with | [_], _ => rfl) fun f cdv A outer s H E hr => (s_frz (i := 0) (s_cons (s_let 1 sc_bent.nd d_int) (s_cons (s_while fuel (passes_of rfl) (PDW.pt (w_and (t_cmp od_lt (d_op od_add (d_op od_mul d_int (d_var 1)) d_int) (d_bi fd_len rfl G.b_len boot_len (l_consT (d_var 0) l_nil))) (w_and1 (t_cmp (od_eq (uz hr)) (d_ix (d_var 0) (d_var 1)) (d_callD D_undoing_of (hr.mono (by decide)) (takes_of rfl rfl rfl rfl) (a_val (d_ix (d_var 0) (d_op od_sub (d_neg d_int) (d_var 1))) a_nil)))))) (s_one (s_inc 1 od_iadd sc_bent.nd d_int))) (s_one (s_ret (d_var 1))))))
def b_turned_about : MS := (sFrz 0 (sRet (eMt swapM (eUn revD (eVar 0)) lNil)))
def g_turned_about : List D → Fo := runF [0] 1 0 b_turned_about
theorem D_turned_about {P : Program} {w : World} {K : PySem.W.Frag} {mg : Str → Option Value} {base : Heap} (G : Gs mg) (F : Fa P K mg) : DefOk P w K mg base 1 1 "turned_about" ["row"] g_turned_about :=
  def_okD F.f_turned_about sc_turned_about rfl rfl (fun _ _ _ _ _ _ us hl => match us, hl with | [_], _ => rfl) fun f cdv A outer s H E hr => (s_frz (i := 0) (s_one (s_ret (d_mt0 PySem.F.plainAttrs_str PySem.F.slot_str_swapcase PySem.F.type_str_swapcase md_swap (d_rev (d_var 0))))))
def b_power_letters (self_power_letters : List D → Fo) : MS := (sFrz 0 (sFrz 1 (sSeq (sIf (mB (eOp ltD (eVar 1) (eK (.int 0)))) (sRet (eCall self_power_letters (aVal (eCall g_turned_about (aVal (eVar 0) aNil)) (aVal (eUn negD (eVar 1)) aNil)))) sNext) (sSeq (sIf (mOr (mB (eOp eqD (eVar 1) (eK (.int 0)))) (mB (eOp eqD (eVar 0) (eK (.str []))))) (sRet (eK (.str []))) sNext) (sSeq (sSet 2 (eCall g_bent (aVal (eVar 0) aNil))) (sRet (eOp addD (eOp addD (eSl (eVar 0) oNone (oSome (eVar 2))) (eOp mulD (eSl (eVar 0) (oSome (eVar 2)) (oSome (eOp subD (eFn lenD (lCons (eVar 0) lNil)) (eVar 2)))) (eVar 1))) (eSl (eVar 0) (oSome (eOp subD (eFn lenD (lCons (eVar 0) lNil)) (eVar 2))) oNone))))))))
def r_power_letters : Nat → List D → Fo
  | 0 => fun _ => .stuck
  | n + 1 => runF [0, 1] 2 1 (b_power_letters (r_power_letters n))
def g_power_letters : List D → Fo := r_power_letters 2
theorem R_power_letters {P : Program} {w : World} {K : PySem.W.Frag} {mg : Str → Option Value} {base : Heap} (G : Gs mg) (F : Fa P K mg) : ∀ n, DefOk P w K mg base (3 + n) 2 "power_letters" ["net", "times"] (r_power_letters n)
  | 0 => def_none F.f_power_letters rfl (fun _ _ _ _ _ _ us hl => match us, hl with | [_, _], _ => rfl)
  | n + 1 => by
    have D_power_letters : DefOk P w K mg base (3 + n) 2 "power_letters" ["net", "times"] (r_power_letters n) := (R_power_letters G F n)
    have D_turned_about : DefOk P w K mg base 1 1 "turned_about" ["row"] g_turned_about := D_turned_about G F
    have D_bent : DefOk P w K mg base 2 1 "bent" ["net"] g_bent := D_bent G F
    exact def_okD F.f_power_letters sc_power_letters rfl rfl (fun _ _ _ _ _ _ us hl => match us, hl with | [_, _], _ => rfl) fun f cdv A outer s H E hr => (s_frz (i := 0) (s_frz (i := 1) (s_cons (s_if (t_cmp od_lt (d_var 1) d_int) (s_one (s_ret (d_callD D_power_letters (hr.mono (by first | exact Nat.le_refl _ | exact Nat.le_trans (by decide) (Nat.le_add_right 3 n))) (takes_of rfl rfl rfl rfl) (a_val (d_callD D_turned_about (hr.mono (by first | exact Nat.le_refl _ | exact Nat.le_trans (by decide) (Nat.le_add_right 3 n))) (takes_of rfl rfl rfl rfl) (a_val (d_var 0) a_nil)) (a_val (d_neg (d_var 1)) a_nil))))) s_nil) (s_cons (s_if (PDW.pt (w_or (t_cmp (od_eq (uz hr)) (d_var 1) d_int) (w_or1 (t_cmp (od_eq (uz hr)) (d_var 0) d_str)))) (s_one (s_ret d_str)) s_nil) (s_cons (s_let 2 sc_power_letters.nd (d_callD D_bent (hr.mono (by first | exact Nat.le_refl _ | exact Nat.le_trans (by decide) (Nat.le_add_right 3 n))) (takes_of rfl rfl rfl rfl) (a_val (d_var 0) a_nil))) (s_one (s_ret (d_op od_add (d_op od_add (d_sl (d_var 0) o_none (o_some (d_var 2))) (d_op od_mul (d_sl (d_var 0) (o_some (d_var 2)) (o_some (d_op od_sub (d_bi fd_len rfl G.b_len boot_len (l_consT (d_var 0) l_nil)) (d_var 2)))) (d_var 1))) (d_sl (d_var 0) (o_some (d_op od_sub (d_bi fd_len rfl G.b_len boot_len (l_consT (d_var 0) l_nil)) (d_var 2))) o_none)))))))))
theorem D_power_letters {P : Program} {w : World} {K : PySem.W.Frag} {mg : Str → Option Value} {base : Heap} (G : Gs mg) (F : Fa P K mg) : DefOk P w K mg base 5 2 "power_letters" ["net", "times"] g_power_letters := (R_power_letters G F 2)
def b_repeated : MS := (sFrz 0 (sFrz 1 (sSeq (sIf (mB (eOp eqD (eVar 0) (eK (.str [])))) (sRet (eVar 0)) sNext) (sSeq (sSet 2 (eCall g_bent (aVal (eVar 0) aNil))) (sSeq (sIf (mB (eOp gtD (eOp addD (eOp mulD (eK (.int 2)) (eVar 2)) (eOp mulD (eOp subD (eFn lenD (lCons (eVar 0) lNil)) (eOp mulD (eK (.int 2)) (eVar 2))) (eVar 1))) (eK (.int 5000)))) (sRaiseF "TooLong" "most" (eK (.int 5000))) sNext) (sRet (eCall g_power_letters (aVal (eVar 0) (aVal (eVar 1) aNil)))))))))
def g_repeated : List D → Fo := runF [0, 1] 2 1 b_repeated
theorem D_repeated {P : Program} {w : World} {K : PySem.W.Frag} {mg : Str → Option Value} {base : Heap} (G : Gs mg) (F : Fa P K mg) : DefOk P w K mg base 6 2 "repeated" ["net", "times"] g_repeated :=
  have D_bent : DefOk P w K mg base 2 1 "bent" ["net"] g_bent := D_bent G F
  have D_power_letters : DefOk P w K mg base 5 2 "power_letters" ["net", "times"] g_power_letters := D_power_letters G F
  def_okD F.f_repeated sc_repeated rfl rfl (fun _ _ _ _ _ _ us hl => match us, hl with | [_, _], _ => rfl) fun f cdv A outer s H E hr => (s_frz (i := 0) (s_frz (i := 1) (s_cons (s_if (t_cmp (od_eq (uz hr)) (d_var 0) d_str) (s_one (s_ret (d_var 0))) s_nil) (s_cons (s_let 2 sc_repeated.nd (d_callD D_bent (hr.mono (by decide)) (takes_of rfl rfl rfl rfl) (a_val (d_var 0) a_nil))) (s_cons (s_if (t_cmp od_gt (d_op od_add (d_op od_mul d_int (d_var 2)) (d_op od_mul (d_op od_sub (d_bi fd_len rfl G.b_len boot_len (l_consT (d_var 0) l_nil)) (d_op od_mul d_int (d_var 2))) (d_var 1))) (d_gint G.c_MOST_LETTERS_plans)) (s_one (s_raiseF F.s_TooLong (hr.mono (by decide)) (takes_of rfl rfl rfl rfl) (d_gint G.c_MOST_LETTERS_plans))) s_nil) (s_one (s_ret (d_callD D_power_letters (hr.mono (by decide)) (takes_of rfl rfl rfl rfl) (a_val (d_var 0) (a_val (d_var 1) a_nil))))))))))
def b_net_letters : MS := (sFrz 0 (sSeq (sSet 1 (eLst lNil)) (sSeq (sFor (gN 2) (iVal (eVar 0)) (sIf (mAnd (mB (eOp gtD (eFn lenD (lCons (ePk 1) lNil)) (eK (.int 0)))) (mB (eOp eqD (eFz (eOp idxD (ePk 1) (eUn negD (eK (.int 1))))) (eCall g_undoing_of (aVal (eVar 2) aNil))))) (sEx (ePop 1)) (sEx (eApp 1 (eVar 2))))) (sRet (eMt joinM (eK (.str [])) (lCons (ePk 1) lNil))))))
def g_net_letters : List D → Fo := runF [0] 1 2 b_net_letters
theorem D_net_letters {P : Program} {w : World} {K : PySem.W.Frag} {mg : Str → Option Value} {base : Heap} (G : Gs mg) (F : Fa P K mg) : DefOk P w K mg base 2 1 "net_letters" ["row"] g_net_letters :=
  have D_undoing_of : DefOk P w K mg base 1 1 "undoing_of" ["letter"] g_undoing_of := D_undoing_of G F
  def_okD F.f_net_letters sc_net_letters rfl rfl (fun _ _ _ _ _ _ us hl => match us, hl with | [_], _ => rfl) fun f cdv A outer s H E hr => (s_frz (i := 0) (s_cons (s_let 1 sc_net_letters.nd (d_lst l_nil)) (s_cons (s_for (passes_of rfl) rfl (i_val (d_var 0)) (g_name sc_net_letters.nd) (s_one (s_if (PDW.pt (w_and (t_cmp od_gt (d_bi fd_len rfl G.b_len boot_len (l_cons (d_pk 1) l_nil)) d_int) (w_and1 (t_cmp (od_eq (uz hr)) (d_fz (d_ix (d_pk 1) (d_neg d_int))) (d_callD D_undoing_of (hr.mono (by decide)) (takes_of rfl rfl rfl rfl) (a_val (d_var 2) a_nil)))))) (s_one (s_expr (s_pop 1))) (s_one (s_expr (s_app 1 (d_var 2))))))) (s_one (s_ret (d_mt (pe_bm PySem.F.plainAttrs_str PySem.F.slot_str_join PySem.F.type_str_join md_join d_str (l_cons (d_pk 1) l_nil))))))))
def b_net_in (self_net_in : List D → Fo) : MS := (sFrz 0 (sFrz 1 (sFrz 2 (sSeq (sSet 3 (eLst lNil)) (sSeq (sFor (gT (gCs (gN 4) (gCs (gN 5) gNl))) (iZip2 (eVar 1) (eVar 2)) (sIf (mB (eOp eqD (eOp idxD (eVar 4) (eK (.int 0))) (eK (.str [100, 111])))) (sEx (eApp 3 (eOp idxD (eVar 4) (eK (.int 1))))) (sIf (mB (eOp eqD (eOp idxD (eVar 4) (eK (.int 0))) (eK (.str [108, 111, 111, 112])))) (sFor (gT (gCs (gN 6) (gCs (gN 7) gNl))) (iVal (eVar 5)) (sEx (eApp 3 (eCall g_repeated (aVal (eCall self_net_in (aVal (eVar 0) (aVal (eOp idxD (eVar 4) (eK (.int 1))) (aVal (eVar 6) aNil)))) (aVal (eVar 7) aNil)))))) (sSeq (sAsg (gT (gCs (gN 8) (gCs (gN 6) gNl))) (eCall g_once_within (aVal (eVar 0) (aVal (eVar 4) (aVal (eVar 5) aNil))))) (sSeq (sSet 9 (eCall self_net_in (aVal (eVar 0) (aVal (eVar 8) (aVal (eVar 6) aNil))))) (sSeq (sIf (mB (eOp eqD (eOp idxD (eVar 4) (eK (.int 0))) (eK (.str [117, 110, 100, 111])))) (sSet 9 (eCall g_turned_about (aVal (eVar 9) aNil))) sNext) (sEx (eApp 3 (eVar 9))))))))) (sSeq (sSet 10 (eCall g_net_letters (aVal (eMt joinM (eK (.str [])) (lCons (ePk 3) lNil)) aNil))) (sSeq (sIf (mB (eOp gtD (eFn lenD (lCons (eVar 10) lNil)) (eK (.int 5000)))) (sRaiseF "TooLong" "most" (eK (.int 5000))) sNext) (sRet (eVar 10)))))))))
def r_net_in : Nat → List D → Fo
  | 0 => fun _ => .stuck
  | n + 1 => runF [0, 1, 2] 3 8 (b_net_in (r_net_in n))
def g_net_in : List D → Fo := r_net_in 6
theorem R_net_in {P : Program} {w : World} {K : PySem.W.Frag} {mg : Str → Option Value} {base : Heap} (G : Gs mg) (F : Fa P K mg) : ∀ n, DefOk P w K mg base (7 + n) 3 "net_in" ["parts", "block", "plan"] (r_net_in n)
  | 0 => def_none F.f_net_in rfl (fun _ _ _ _ _ _ us hl => match us, hl with | [_, _, _], _ => rfl)
  | n + 1 => by
    have D_net_in : DefOk P w K mg base (7 + n) 3 "net_in" ["parts", "block", "plan"] (r_net_in n) := (R_net_in G F n)
    have D_repeated : DefOk P w K mg base 6 2 "repeated" ["net", "times"] g_repeated := D_repeated G F
    have D_once_within : DefOk P w K mg base 1 3 "once_within" ["parts", "statement", "item"] g_once_within := D_once_within G F
    have D_turned_about : DefOk P w K mg base 1 1 "turned_about" ["row"] g_turned_about := D_turned_about G F
    have D_net_letters : DefOk P w K mg base 2 1 "net_letters" ["row"] g_net_letters := D_net_letters G F
    exact def_okD F.f_net_in sc_net_in rfl rfl (fun _ _ _ _ _ _ us hl => match us, hl with | [_, _, _], _ => rfl) fun f cdv A outer s H E hr => (s_frz (i := 0) (s_frz (i := 1) (s_frz (i := 2) (s_cons (s_let 3 sc_net_in.nd (d_lst l_nil)) (s_cons (s_for (passes_of rfl) rfl (i_zipT (d_var 1) (d_var 2) G.b_zip) (g_tup (pg_tup rfl (g_cons (g_name sc_net_in.nd) (g_cons (g_name sc_net_in.nd) g_nil))) (gCs_len (gCs_len gNl_len))) (s_one (s_if (t_cmp (od_eq (uz hr)) (d_ix (d_var 4) d_int) d_str) (s_one (s_expr (s_app 3 (d_ix (d_var 4) d_int)))) (s_one (s_if (t_cmp (od_eq (uz hr)) (d_ix (d_var 4) d_int) d_str) (s_one (s_for (passes_of rfl) rfl (i_val (d_var 5)) (g_tup (pg_tup rfl (g_cons (g_name sc_net_in.nd) (g_cons (g_name sc_net_in.nd) g_nil))) (gCs_len (gCs_len gNl_len))) (s_one (s_expr (s_app 3 (d_callD D_repeated (hr.mono (by first | exact Nat.le_refl _ | exact Nat.le_trans (by decide) (Nat.le_add_right 7 n))) (takes_of rfl rfl rfl rfl) (a_val (d_callD D_net_in (hr.mono (by first | exact Nat.le_refl _ | exact Nat.le_trans (by decide) (Nat.le_add_right 7 n))) (takes_of rfl rfl rfl rfl) (a_val (d_var 0) (a_val (d_ix (d_var 4) d_int) (a_val (d_var 6) a_nil)))) (a_val (d_var 7) a_nil)))))))) (s_cons (s_asg (d_callD D_once_within (hr.mono (by first | exact Nat.le_refl _ | exact Nat.le_trans (by decide) (Nat.le_add_right 7 n))) (takes_of rfl rfl rfl rfl) (a_val (d_var 0) (a_val (d_var 4) (a_val (d_var 5) a_nil)))) (g_tup (pg_tup rfl (g_cons (g_name sc_net_in.nd) (g_cons (g_name sc_net_in.nd) g_nil))) (gCs_len (gCs_len gNl_len)))) (s_cons (s_let 9 sc_net_in.nd (d_callD D_net_in (hr.mono (by first | exact Nat.le_refl _ | exact Nat.le_trans (by decide) (Nat.le_add_right 7 n))) (takes_of rfl rfl rfl rfl) (a_val (d_var 0) (a_val (d_var 8) (a_val (d_var 6) a_nil))))) (s_cons (s_if (t_cmp (od_eq (uz hr)) (d_ix (d_var 4) d_int) d_str) (s_one (s_let 9 sc_net_in.nd (d_callD D_turned_about (hr.mono (by first | exact Nat.le_refl _ | exact Nat.le_trans (by decide) (Nat.le_add_right 7 n))) (takes_of rfl rfl rfl rfl) (a_val (d_var 9) a_nil)))) s_nil) (s_one (s_expr (s_app 3 (d_var 9)))))))))))) (s_cons (s_let 10 sc_net_in.nd (d_callD D_net_letters (hr.mono (by first | exact Nat.le_refl _ | exact Nat.le_trans (by decide) (Nat.le_add_right 7 n))) (takes_of rfl rfl rfl rfl) (a_val (d_mt (pe_bm PySem.F.plainAttrs_str PySem.F.slot_str_join PySem.F.type_str_join md_join d_str (l_cons (d_pk 3) l_nil))) a_nil))) (s_cons (s_if (t_cmp od_gt (d_bi fd_len rfl G.b_len boot_len (l_consT (d_var 10) l_nil)) (d_gint G.c_MOST_LETTERS_plans)) (s_one (s_raiseF F.s_TooLong (hr.mono (by first | exact Nat.le_refl _ | exact Nat.le_trans (by decide) (Nat.le_add_right 7 n))) (takes_of rfl rfl rfl rfl) (d_gint G.c_MOST_LETTERS_plans))) s_nil) (s_one (s_ret (d_var 10))))))))))
theorem D_net_in {P : Program} {w : World} {K : PySem.W.Frag} {mg : Str → Option Value} {base : Heap} (G : Gs mg) (F : Fa P K mg) : DefOk P w K mg base 13 3 "net_in" ["parts", "block", "plan"] g_net_in := (R_net_in G F 6)
def b_net_of : MS := (sFrz 0 (sFrz 1 (sSeq (sEx (eCall g_check_plan (aVal (eVar 0) (aVal (eVar 1) aNil)))) (sRet (eCall g_net_in (aVal (eFld "Program" "kept_parts" (eVar 0)) (aVal (eFld "Program" "kept_body" (eVar 0)) (aVal (eVar 1) aNil))))))))
def g_net_of : List D → Fo := runF [0, 1] 2 0 b_net_of
theorem D_net_of {P : Program} {w : World} {K : PySem.W.Frag} {mg : Str → Option Value} {base : Heap} (G : Gs mg) (F : Fa P K mg) : DefOk P w K mg base 19 2 "net_of" ["program", "plan"] g_net_of :=
  have D_check_plan : DefOk P w K mg base 18 2 "check_plan" ["program", "thing"] g_check_plan := D_check_plan G F
  have D_net_in : DefOk P w K mg base 13 3 "net_in" ["parts", "block", "plan"] g_net_in := D_net_in G F
  def_okD F.f_net_of sc_net_of rfl rfl (fun _ _ _ _ _ _ us hl => match us, hl with | [_, _], _ => rfl) fun f cdv A outer s H E hr => (s_frz (i := 0) (s_frz (i := 1) (s_cons (s_expr (d_callD D_check_plan (hr.mono (by decide)) (takes_of rfl rfl rfl rfl) (a_val (d_var 0) (a_val (d_var 1) a_nil)))) (s_one (s_ret (d_callD D_net_in (hr.mono (by decide)) (takes_of rfl rfl rfl rfl) (a_val (d_fld F.k_Program (d_var 0)) (a_val (d_fld F.k_Program (d_var 0)) (a_val (d_var 1) a_nil)))))))))
def b__law_told : MS := (sFrz 0 (sFrz 1 (sSeq (sTry subT (sSet 2 (eCall g_net_of (aVal (eVar 0) (aVal (eVar 1) aNil)))) (("TooLong", some 3, fun exc => (sSet 2 (eIf (mB (eOp eqD (eXf "most" 3) (eK (.int 5000)))) (eK .non) (eK (.int 0))))) :: [])) (sRet (eVar 2)))))
def g__law_told : List D → Fo := runF [0, 1] 2 2 b__law_told
theorem D__law_told {P : Program} {w : World} {K : PySem.W.Frag} {mg : Str → Option Value} {base : Heap} (G : Gs mg) (F : Fa P K mg) : DefOk P w K mg base 20 2 "_law_told" ["program", "plan"] g__law_told :=
  have D_net_of : DefOk P w K mg base 19 2 "net_of" ["program", "plan"] g_net_of := D_net_of G F
  def_okD F.f__law_told sc__law_told rfl rfl (fun _ _ _ _ _ _ us hl => match us, hl with | [_, _], _ => rfl) fun f cdv A outer s H E hr => (s_frz (i := 0) (s_frz (i := 1) (s_cons (s_try rfl rfl sc__law_told.nd (takes_of rfl rfl rfl rfl) (fun _ _ _ tk pa => (s_one (s_let 2 sc__law_told.nd (d_callD D_net_of (hr.mono (by decide)) tk (a_val (d_var 0) (a_val (d_var 1) a_nil)))))) (h_named 3 F.h_TooLong (fun exc _ _ _ _ _ hz hv cg => (s_one (s_let 2 sc__law_told.nd (d_ifT (t_cmp (od_eq (uzm hr)) (d_xf 3 F.x_TooLong_most hz hv cg) d_int) d_non d_int)))) Hans.nil)) (s_one (s_ret (d_var 2))))))
def b_law : MS := (sFrz 0 (sSeq (sSet 1 (eCall g__law_dice (aVal (eVar 0) aNil))) (sSeq (sSet 2 (eCall g__law_deeds (aLend 1 (aVal (eK (.int 3)) aNil)))) (sSeq (sSet 3 (eLc (gN 15) (iRg1 (eK (.int 4))) mYes (eCall g__law_drawn_row (aLend 1 (aVal (eVar 2) aNil))) [15])) (sFrz 3 (sSeq (sSet 4 (eLc (gN 15) (iRg1 (eK (.int 4))) mYes (eCall g__law_drawn_times (aLend 1 aNil)) [15])) (sFrz 4 (sSeq (sSet 5 (eTup (lCons (eTup (lCons (eK (.str [100, 111])) (lCons (eOp idxD (eVar 3) (eK (.int 0))) lNil))) lNil))) (sFrz 5 (sSeq (sSet 6 (eLst (lCons (eCall g__law_net (aVal (eOp idxD (eVar 3) (eK (.int 0))) aNil)) lNil))) (sFrz 6 (sSeq (sSet 7 (eFn lenD (lCons (eOp idxD (eVar 3) (eK (.int 0))) lNil))) (sSeq (sSet 8 (eTup (lCons (eTup lNil) lNil))) (sFrz 8 (sSeq (sIf (mB (eOp eqD (eCall g__law_draw (aLend 1 (aVal (eK (.int 2)) aNil))) (eK (.int 0)))) (sSeq (sSet 5 (eTup (lCons (eTup (lCons (eK (.str [108, 111, 111, 112])) (lCons (eVar 5) lNil))) (lCons (eTup (lCons (eK (.str [100, 111])) (lCons (eOp idxD (eVar 3) (eK (.int 1))) lNil))) lNil)))) (sFrz 5 (sSeq (sSet 9 (eTup (lCons (eTup (lCons (eVar 8) (lCons (eOp idxD (eVar 4) (eK (.int 1))) lNil))) (lCons (eTup (lCons (eVar 8) (lCons (eOp idxD (eVar 4) (eK (.int 2))) lNil))) lNil)))) (sFrz 9 (sSeq (sSet 6 (eLst (lCons (eCall g__law_times (aVal (eOp idxD (eVar 6) (eK (.int 0))) (aVal (eOp idxD (eVar 4) (eK (.int 1))) aNil))) (lCons (eCall g__law_times (aVal (eOp idxD (eVar 6) (eK (.int 0))) (aVal (eOp idxD (eVar 4) (eK (.int 2))) aNil))) (lCons (eCall g__law_net (aVal (eOp idxD (eVar 3) (eK (.int 1))) aNil)) lNil))))) (sFrz 6 (sSeq (sSet 7 (eOp addD (eOp mulD (eVar 7) (eOp addD (eOp idxD (eVar 4) (eK (.int 1))) (eOp idxD (eVar 4) (eK (.int 2))))) (eFn lenD (lCons (eOp idxD (eVar 3) (eK (.int 1))) lNil)))) (sFrz 7 (sSeq (sSet 8 (eTup (lCons (eVar 9) (lCons (eTup lNil) lNil)))) (sFrz 8 sNext)))))))))) sNext) (sSeq (sSet 10 (eCall g__law_due (aVal (eVar 6) aNil))) (sSeq (sIf (mB (eOp notNonD (eVar 10) (eK .non))) (sSeq (sSet 10 (eCall g__law_times (aVal (eVar 10) (aVal (eOp idxD (eVar 4) (eK (.int 0))) aNil)))) (sFrz 10 sNext)) sNext) (sSeq (sSet 11 (eTup (lCons (eTup (lCons (eK (.str [100, 111])) (lCons (eOp idxD (eVar 3) (eK (.int 2))) lNil))) (lCons (eTup (lCons (eK (.str [108, 111, 111, 112])) (lCons (eVar 5) lNil))) (lCons (eTup (lCons (eK (.str [100, 111])) (lCons (eOp idxD (eVar 3) (eK (.int 3))) lNil))) lNil))))) (sFrz 11 (sSeq (sSet 12 (eCall g__law_due (aVal (eLst (lCons (eCall g__law_net (aVal (eOp idxD (eVar 3) (eK (.int 2))) aNil)) (lCons (eVar 10) (lCons (eCall g__law_net (aVal (eOp idxD (eVar 3) (eK (.int 3))) aNil)) lNil)))) aNil))) (sSeq (sSet 13 (eTup (lCons (eTup lNil) (lCons (eTup (lCons (eTup (lCons (eVar 8) (lCons (eOp idxD (eVar 4) (eK (.int 0))) lNil))) lNil)) (lCons (eTup lNil) lNil))))) (sFrz 13 (sSeq (sIf (mB (eOp eqD (eCall g__law_draw (aLend 1 (aVal (eK (.int 2)) aNil))) (eK (.int 0)))) (sSeq (sSet 11 (eTup (lCons (eTup (lCons (eK (.str [117, 110, 100, 111])) (lCons (eVar 11) lNil))) lNil))) (sFrz 11 (sSeq (sSet 13 (eTup (lCons (eVar 13) lNil))) (sFrz 13 (sSet 12 (eIf (mB (eOp isNonD (eVar 12) (eK .non))) (eVar 12) (eCall g__law_turned (aVal (eVar 12) aNil)))))))) sNext) (sSeq (sSet 14 (eMk "Program" g_Program_init (aVal (eVar 2) (aVal (eK (.dic true [])) (aVal (eVar 11) aNil))))) (sFrz 14 (sSeq (sIf (mB (eOp neD (eCall g_letters_of (aVal (eVar 14) (aVal (eVar 13) aNil))) (eOp addD (eOp addD (eFn lenD (lCons (eOp idxD (eVar 3) (eK (.int 2))) lNil)) (eOp mulD (eVar 7) (eOp idxD (eVar 4) (eK (.int 0))))) (eFn lenD (lCons (eOp idxD (eVar 3) (eK (.int 3))) lNil))))) (sRet (eK (.bl false))) sNext) (sRet (eBo (mAnd (mB (eOp eqD (eCall g__law_told (aVal (eVar 14) (aVal (eVar 13) aNil))) (eVar 12))) (mB (eOp eqD (eCall g__law_told (aVal (eVar 14) (aVal (eVar 13) aNil))) (eVar 12))))))))))))))))))))))))))))))))
def g_law : List D → Fo := runF [0] 1 15 b_law
theorem L_law {P : Program} {w : World} {K : PySem.W.Frag} {mg : Str → Option Value} {base : Heap} {fa : Addr} {fd : FuncData} (G : Gs mg) (F : Fa P K mg) (FL : Fun K "law" "law" t_law fa fd) : FnOk P w K mg base (L2.CX P w) 21 fa fd ["script"] (spD ⟨mg, K, none⟩ 1 g_law) :=
  have D__law_dice : DefOk P w K mg base 1 1 "_law_dice" ["script"] g__law_dice := D__law_dice G F
  have D__law_deeds : DefOk P w K mg base 2 2 "_law_deeds" ["dice", "most"] g__law_deeds := D__law_deeds G F
  have D__law_drawn_row : DefOk P w K mg base 3 2 "_law_drawn_row" ["dice", "deeds"] g__law_drawn_row := D__law_drawn_row G F
  have D__law_drawn_times : DefOk P w K mg base 2 1 "_law_drawn_times" ["dice"] g__law_drawn_times := D__law_drawn_times G F
  have D__law_net : DefOk P w K mg base 2 1 "_law_net" ["row"] g__law_net := D__law_net G F
  have D__law_draw : DefOk P w K mg base 1 2 "_law_draw" ["dice", "sides"] g__law_draw := D__law_draw G F
  have D__law_times : DefOk P w K mg base 2 2 "_law_times" ["net", "times"] g__law_times := D__law_times G F
  have D__law_due : DefOk P w K mg base 3 1 "_law_due" ["pieces"] g__law_due := D__law_due G F
  have D__law_turned : DefOk P w K mg base 2 1 "_law_turned" ["row"] g__law_turned := D__law_turned G F
  have D_Program_init : IniOk P w K mg base 16 4 "Program" ["self", "deeds", "parts", "body"] g_Program_init := D_Program_init G F
  have D_letters_of : DefOk P w K mg base 19 2 "letters_of" ["program", "plan"] g_letters_of := D_letters_of G F
  have D__law_told : DefOk P w K mg base 20 2 "_law_told" ["program", "plan"] g__law_told := D__law_told G F
  def_ok FL sc_law rfl rfl fun cdv A outer s H E hr => (s_frz (i := 0) (s_cons (s_let 1 sc_law.nd (d_callD D__law_dice (hr.mono (by decide)) (takes_of rfl rfl rfl rfl) (a_val (d_var 0) a_nil))) (s_cons (s_let 2 sc_law.nd (d_callD D__law_deeds (hr.mono (by decide)) (takes_of rfl rfl rfl rfl) (a_lend 1 (a_val d_int a_nil)))) (s_cons (s_setLc (i := 3) (kp := [0, 1, 2, 3, 4, 5, 6, 7, 8, 9, 10, 11, 12, 13, 14]) rfl sc_law.nd (i_rg1 d_int G.b_range) (blkOk_by (N := N_law) (sc := defScope t_law) (own := [("k", 15)]) (by decide +kernel)) rfl (hkp_of (N := N_law) [15] (by decide)) (fun _ _ _ _ _ => (g_name sc_law.nd)) (fun _ _ _ _ _ => ts_nil) (fun _ _ _ _ _ => PD.to (d_callD D__law_drawn_row (hr.mono (by decide)) takes0 (a_lend 1 (a_val (d_var 2) a_nil))))) (s_frz (i := 3) (s_cons (s_setLc (i := 4) (kp := [0, 1, 2, 3, 4, 5, 6, 7, 8, 9, 10, 11, 12, 13, 14]) rfl sc_law.nd (i_rg1 d_int G.b_range) (blkOk_by (N := N_law) (sc := defScope t_law) (own := [("k", 15)]) (by decide +kernel)) rfl (hkp_of (N := N_law) [15] (by decide)) (fun _ _ _ _ _ => (g_name sc_law.nd)) (fun _ _ _ _ _ => ts_nil) (fun _ _ _ _ _ => PD.to (d_callD D__law_drawn_times (hr.mono (by decide)) takes0 (a_lend 1 a_nil)))) (s_frz (i := 4) (s_cons (s_let 5 sc_law.nd (d_tup (l_consT (d_tup (l_consT d_str (l_consT (d_ix (d_var 3) d_int) l_nil))) l_nil))) (s_frz (i := 5) (s_cons (s_let 6 sc_law.nd (d_lst (l_consT (d_callD D__law_net (hr.mono (by decide)) (takes_of rfl rfl rfl rfl) (a_val (d_ix (d_var 3) d_int) a_nil)) l_nil))) (s_frz (i := 6) (s_cons (s_let 7 sc_law.nd (d_bi fd_len rfl G.b_len boot_len (l_consT (d_ix (d_var 3) d_int) l_nil))) (s_cons (s_let 8 sc_law.nd (d_tup (l_consT (d_tup l_nil) l_nil))) (s_frz (i := 8) (s_cons (s_if (t_cmp (od_eq (uz hr)) (d_callD D__law_draw (hr.mono (by decide)) (takes_of rfl rfl rfl rfl) (a_lend 1 (a_val d_int a_nil))) d_int) (s_cons (s_let 5 sc_law.nd (d_tup (l_consT (d_tup (l_consT d_str (l_consT (d_var 5) l_nil))) (l_consT (d_tup (l_consT d_str (l_consT (d_ix (d_var 3) d_int) l_nil))) l_nil)))) (s_frz (i := 5) (s_cons (s_let 9 sc_law.nd (d_tup (l_consT (d_tup (l_consT (d_var 8) (l_consT (d_ix (d_var 4) d_int) l_nil))) (l_consT (d_tup (l_consT (d_var 8) (l_consT (d_ix (d_var 4) d_int) l_nil))) l_nil)))) (s_frz (i := 9) (s_cons (s_let 6 sc_law.nd (d_lst (l_consT (d_callD D__law_times (hr.mono (by decide)) (takes_of rfl rfl rfl rfl) (a_val (d_ix (d_var 6) d_int) (a_val (d_ix (d_var 4) d_int) a_nil))) (l_consT (d_callD D__law_times (hr.mono (by decide)) (takes_of rfl rfl rfl rfl) (a_val (d_ix (d_var 6) d_int) (a_val (d_ix (d_var 4) d_int) a_nil))) (l_consT (d_callD D__law_net (hr.mono (by decide)) (takes_of rfl rfl rfl rfl) (a_val (d_ix (d_var 3) d_int) a_nil)) l_nil))))) (s_frz (i := 6) (s_cons (s_let 7 sc_law.nd (d_op od_add (d_op od_mul (d_var 7) (d_op od_add (d_ix (d_var 4) d_int) (d_ix (d_var 4) d_int))) (d_bi fd_len rfl G.b_len boot_len (l_consT (d_ix (d_var 3) d_int) l_nil)))) (s_frz (i := 7) (s_cons (s_let 8 sc_law.nd (d_tup (l_consT (d_var 9) (l_consT (d_tup l_nil) l_nil)))) (s_frz (i := 8) s_nil)))))))))) s_nil) (s_cons (s_let 10 sc_law.nd (d_callD D__law_due (hr.mono (by decide)) (takes_of rfl rfl rfl rfl) (a_val (d_var 6) a_nil))) (s_cons (s_if (t_cmp od_isnot (d_var 10) d_non) (s_cons (s_let 10 sc_law.nd (d_callD D__law_times (hr.mono (by decide)) (takes_of rfl rfl rfl rfl) (a_val (d_var 10) (a_val (d_ix (d_var 4) d_int) a_nil)))) (s_frz (i := 10) s_nil)) s_nil) (s_cons (s_let 11 sc_law.nd (d_tup (l_consT (d_tup (l_consT d_str (l_consT (d_ix (d_var 3) d_int) l_nil))) (l_consT (d_tup (l_consT d_str (l_consT (d_var 5) l_nil))) (l_consT (d_tup (l_consT d_str (l_consT (d_ix (d_var 3) d_int) l_nil))) l_nil))))) (s_frz (i := 11) (s_cons (s_let 12 sc_law.nd (d_callD D__law_due (hr.mono (by decide)) (takes_of rfl rfl rfl rfl) (a_val (d_lst (l_consT (d_callD D__law_net (hr.mono (by decide)) (takes_of rfl rfl rfl rfl) (a_val (d_ix (d_var 3) d_int) a_nil)) (l_consT (d_var 10) (l_consT (d_callD D__law_net (hr.mono (by decide)) (takes_of rfl rfl rfl rfl) (a_val (d_ix (d_var 3) d_int) a_nil)) l_nil)))) a_nil))) (s_cons (s_let 13 sc_law.nd (d_tup (l_consT (d_tup l_nil) (l_consT (d_tup (l_consT (d_tup (l_consT (d_var 8) (l_consT (d_ix (d_var 4) d_int) l_nil))) l_nil)) (l_consT (d_tup l_nil) l_nil))))) (s_frz (i := 13) (s_cons (s_if (t_cmp (od_eq (uz hr)) (d_callD D__law_draw (hr.mono (by decide)) (takes_of rfl rfl rfl rfl) (a_lend 1 (a_val d_int a_nil))) d_int) (s_cons (s_let 11 sc_law.nd (d_tup (l_consT (d_tup (l_consT d_str (l_consT (d_var 11) l_nil))) l_nil))) (s_frz (i := 11) (s_cons (s_let 13 sc_law.nd (d_tup (l_consT (d_var 13) l_nil))) (s_frz (i := 13) (s_one (s_let 12 sc_law.nd (d_ifT (t_cmp od_is (d_var 12) d_non) (d_var 12) (d_callD D__law_turned (hr.mono (by decide)) (takes_of rfl rfl rfl rfl) (a_val (d_var 12) a_nil))))))))) s_nil) (s_cons (s_let 14 sc_law.nd (d_make D_Program_init (hr.mono (by decide)) (takes_of rfl rfl rfl rfl) (a_val (d_var 2) (a_val d_dic0 (a_val (d_var 11) a_nil))))) (s_frz (i := 14) (s_cons (s_if (t_cmp (od_ne (uz hr)) (d_callD D_letters_of (hr.mono (by decide)) (takes_of rfl rfl rfl rfl) (a_val (d_var 14) (a_val (d_var 13) a_nil))) (d_op od_add (d_op od_add (d_bi fd_len rfl G.b_len boot_len (l_consT (d_ix (d_var 3) d_int) l_nil)) (d_op od_mul (d_var 7) (d_ix (d_var 4) d_int))) (d_bi fd_len rfl G.b_len boot_len (l_consT (d_ix (d_var 3) d_int) l_nil)))) (s_one (s_ret d_bl)) s_nil) (s_one (s_ret (d_and (d_cmp (od_eq (uz hr)) (d_callD D__law_told (hr.mono (by decide)) (takes_of rfl rfl rfl rfl) (a_val (d_var 14) (a_val (d_var 13) a_nil))) (d_var 12)) (d_one (d_cmp (od_eq (uz hr)) (d_callD D__law_told (hr.mono (by decide)) (takes_of rfl rfl rfl rfl) (a_val (d_var 14) (a_val (d_var 13) a_nil))) (d_var 12))))))))))))))))))))))))))))))))
end K19
namespace K19
open PySem PySem.Spec PyProof.Rows L2 Eng
abbrev hd (o : Bool) (cells : List D) (a r s t : Int) : D := .lst true [.lst o cells, .int a, .int r, .int s, .int t]
structure OkH (cells : List D) (a r s t n : Int) : Prop where
  c : ∀ x ∈ cells, ∃ i : Int, x = .int i ∧ 0 ≤ i
  a : 0 ≤ a
  r : 0 ≤ r
  s : 0 ≤ s ∧ s < 2147483648
  t : 0 ≤ t ∧ t + n ≤ 1152921504606846976
theorem draw_ok {o : Bool} {cells : List D} {a r s t many n : Int} {E Q} (h : OkH cells a r s t n) (hn : 1 ≤ n) (hm : 1 ≤ many) (hM : many.natAbs < 10 ^ 120)
    (q : ∀ c a' r' s' t', 0 ≤ c → c < many → OkH cells a' r' s' t' (n - 1) → Q (.int c) [some (hd o cells a' r' s' t'), some (.int many)]) : WF (g__law_draw [hd o cells a r s t, .int many]) E Q := by
  obtain ⟨hc, ha, hr, hs, ht⟩ := h
  have get : a < cells.length → ∃ i, atI cells a = some (.int i) ∧ 0 ≤ i := fun h => by
    obtain ⟨k, rfl⟩ := Int.eq_ofNat_of_zero_le ha
    have hk : k < cells.length := by omega
    obtain ⟨i, e, hi⟩ := hc cells[k] (List.getElem_mem hk)
    exact ⟨i, atI_nat' (by rw [List.getElem?_eq_getElem hk, e]), hi⟩
  have md : ∀ x : Int, 0 ≤ x % many ∧ x % many < many := fun x => ⟨Int.emod_nonneg _ (by omega), Int.emod_lt_of_pos _ (by omega)⟩
  have dv : ∀ x : Int, 0 ≤ x → 0 ≤ x / many := fun x hx => Int.ediv_nonneg hx (by omega)
  have hp : powD (.int 10) (.int 18) = some (.int 1000000000000000000) := rfl
  refine wf_run rfl rfl ?_
  show WS b__law_draw [some _, some _, none, none, none] _
  unfold b__law_draw
  (refine w_frz0 ?_ freeze_frz)
  (repeat' (first | with_reducible refine Eng.Stp.imp ?_ | ((with_reducible refine Eng.gWO ?_); (first | ((with_reducible apply wo); (exact hp)) | ((with_reducible refine wo_fdivX (by omega) hM ?_)))) | walk_at "EV2"))
  · obtain ⟨i, hi, hi0⟩ := get (by assumption)
    (repeat' (first | with_reducible refine Eng.Stp.imp ?_ | ((with_reducible refine Eng.gWO ?_); (first | ((with_reducible apply wo); (exact hp)) | ((with_reducible refine wo_fdivX (by omega) hM ?_)))) | walk_at "EV2"))
    all_goals exact q _ _ _ _ _ (md _).1 (md _).2 ⟨hc, by omega, by first | omega | exact dv _ (by omega), by omega, by omega⟩
  all_goals exact q _ _ _ _ _ (md _).1 (md _).2 ⟨hc, by omega, by first | omega | exact dv _ (by omega), by omega, by omega⟩
theorem OkH.mono {cells : List D} {a r s t n m : Int} (h : OkH cells a r s t n) (hm : m ≤ n) : OkH cells a r s t m := ⟨h.c, h.a, h.r, h.s, by have := h.t; omega⟩
end K19
namespace K19
open PySem PySem.Spec PyProof.Rows L2 Eng Words
def isLet (c : Nat) : Prop := (65 ≤ c ∧ c ≤ 90) ∨ (97 ≤ c ∧ c ≤ 122)
def Let (s : List Nat) : Prop := ∀ c ∈ s, isLet c
abbrev ch (c : Nat) : D := .str [c]
theorem let_ascii {s : List Nat} (h : Let s) : s.all (· < 128) = true := List.all_eq_true.mpr fun c hc => by
  have := h c hc
  unfold isLet at this
  exact decide_eq_true (by omega)
theorem let_sw {c : Nat} (h : isLet c) : isLet (sw1 c) := by
  unfold isLet sw1 at *
  repeat' split
  all_goals omega
theorem let_back {s : List Nat} (h : Let s) : Let (back s) := fun c hc => by
  unfold back at hc
  obtain ⟨d, hd, rfl⟩ := List.mem_map.mp hc
  exact let_sw (h d (List.mem_reverse.mp hd))
theorem let_one {c : Nat} (h : isLet c) : Let [c] := fun d hd => by
  rw [List.mem_singleton.mp hd]; exact h
theorem let_app {s t : List Nat} (h : Let s) (k : Let t) : Let (s ++ t) := fun c hc => (List.mem_append.mp hc).elim (h c) (k c)
theorem let_act {c : Nat} {s : List Nat} (h : isLet c) (k : Let s) : Let (act c s) := by
  cases s with
  | nil => exact let_one h
  | cons d r =>
    by_cases e : d = sw1 c
    · rw [act, if_pos e]; exact fun x hx => k x (by simp [hx])
    · rw [act, if_neg e]; exact fun x hx => (List.mem_cons.mp hx).elim (fun e => e ▸ h) (k x)
theorem let_F : ∀ {w s : List Nat}, Let w → Let s → Let (F w s)
  | [], _, _, k => k
  | c :: w, _, h, k => let_F (w := w) (fun x hx => h x (by simp [hx])) (let_act (h c (by simp)) k)
theorem let_nil : Let [] := fun _ h => absurd h (by simp)
theorem let_nf {w : List Nat} (h : Let w) : Let (nf w) := fun c hc => let_F h let_nil c (List.mem_reverse.mp hc)
theorem act_len (c : Nat) (s : List Nat) : (act c s).length ≤ s.length + 1 := by
  cases s with
  | nil => simp [act]
  | cons d r =>
    by_cases e : d = sw1 c
    · rw [act, if_pos e]; simp; omega
    · rw [act, if_neg e]; simp
theorem F_len : ∀ w s : List Nat, (F w s).length ≤ w.length + s.length
  | [], s => by simp [F]
  | c :: w, s => by
    rw [F_cons]
    have := F_len w (act c s)
    have := act_len c s
    simp only [List.length_cons]
    omega
theorem nf_len (w : List Nat) : (nf w).length ≤ w.length := by
  have := F_len w []
  simpa [nf] using this
/-! small defs -/
theorem undoing_law {c : Nat} (h : isLet c) : g__law_other [.str [c]] = .ok (.str [sw1 c]) [some (.str [c])] := by
  refine wf_ok ?_
  have ha := let_ascii (let_one h)
  have hl : [c].length ≤ 5592405 := by simp
  refine wf_run (ρ := [some (.str [c])]) rfl rfl ?_
  unfold b__law_other
  (repeat' (first | with_reducible refine Eng.Stp.imp ?_ | walk_at "EV2"))
  refine bif_b (fun hb => ?_) (fun hb => ?_)
  all_goals (repeat' (first | with_reducible refine Eng.Stp.imp ?_ | walk_at "EV2"))
  · refine ⟨?_, rfl⟩
    unfold isLet at h
    simp [isLowS, isLo, isUp] at hb
    simp only [List.map_cons, List.map_nil, up1, sw1, D.str.injEq, List.cons.injEq, and_true]
    repeat' split
    all_goals omega
  · refine ⟨?_, rfl⟩
    unfold isLet at h
    simp [isLowS, isLo, isUp] at hb
    simp only [List.map_cons, List.map_nil, lo1, sw1, D.str.injEq, List.cons.injEq, and_true]
    repeat' split
    all_goals omega
theorem undoing_pk {c : Nat} (h : isLet c) : g_undoing_of [.str [c]] = .ok (.str [sw1 c]) [some (.str [c])] := by
  refine wf_ok ?_
  have ha := let_ascii (let_one h)
  have hl : [c].length ≤ 5592405 := by simp
  refine wf_run (ρ := [some (.str [c])]) rfl rfl ?_
  unfold b_undoing_of
  (repeat' (first | with_reducible refine Eng.Stp.imp ?_ | walk_at "EV2"))
  first | exact ⟨rfl, rfl⟩ | rfl
theorem turned_pk {s : List Nat} (h : Let s) (hl : s.length ≤ 1000000) : g_turned_about [.str s] = .ok (.str (back s)) [some (.str s)] := by
  refine wf_ok ?_
  have ha := let_ascii (s := s.reverse) fun c hc => h c (List.mem_reverse.mp hc)
  have hl2 : s.reverse.length ≤ 5592405 := by rw [List.length_reverse]; omega
  refine wf_run (ρ := [some (.str s)]) rfl rfl ?_
  unfold b_turned_about
  (repeat' (first | with_reducible refine Eng.Stp.imp ?_ | walk_at "EV2"))
  first | exact ⟨rfl, rfl⟩ | rfl
end K19
namespace K19
open PySem PySem.Spec PyProof.Rows L2 Eng Words
/-! the net -/
def bnet (G : List D → Fo) : MS := (sFrz 0 (sSeq (sSet 1 (eLst lNil)) (sSeq (sFor (gN 2) (iVal (eVar 0)) (sIf (mAnd (mB (eOp gtD (eFn lenD (lCons (ePk 1) lNil)) (eK (.int 0)))) (mB (eOp eqD (eFz (eOp idxD (ePk 1) (eUn negD (eK (.int 1))))) (eCall G (aVal (eVar 2) aNil))))) (sEx (ePop 1)) (sEx (eApp 1 (eVar 2))))) (sRet (eMt joinM (eK (.str [])) (lCons (ePk 1) lNil))))))
theorem bnet_law : b__law_net = bnet g__law_other := rfl
theorem bnet_pk : b_net_letters = bnet g_undoing_of := rfl
theorem strs_ch : ∀ s : List Nat, strsOf (s.map ch) = some (s.map fun c => [c])
  | [] => rfl
  | c :: s => by
    show (strsOf (s.map ch)).map ([c] :: ·) = _
    rw [strs_ch s]; rfl
theorem join_one : ∀ ys : List (List Nat), joinL [] ys = ys.flatten
  | [] => rfl
  | y :: ys => by
    show y ++ (ys.map fun y => [] ++ y).flatten = _
    simp
theorem flat_one : ∀ s : List Nat, (s.map fun c => [c]).flatten = s
  | [] => rfl
  | c :: s => by simp [flat_one s]
theorem sum_one : ∀ s : List Nat, ((s.map fun c => [c]).map List.length).sum = s.length
  | [] => rfl
  | c :: s => by
    rw [List.map_cons, List.map_cons, List.sum_cons, sum_one s]
    simp; omega
theorem join_ch {s : List Nat} {o : Bool} (h : s.length ≤ 1000000) : joinM [] [.lst o (s.map ch)] = some (.str s) := by
  show (match strsOf (s.map ch) with
    | some ys => if (ys.map List.length).sum + ys.length * ([] : List Nat).length ≤ 16777216 then some (D.str (joinL [] ys)) else none
    | none => none) = _
  rw [strs_ch]
  dsimp only
  rw [sum_one, if_pos (by simp; omega), join_one, flat_one]
theorem net_run {G : List D → Fo} (hG : ∀ {c}, isLet c → G [.str [c]] = .ok (.str [sw1 c]) [some (.str [c])]) {s : List Nat} (h : Let s) (hl : s.length ≤ 1000000) : runF [0] 1 2 (bnet G) [.str s] = .ok (.str (nf s)) [some (.str s)] := by
  refine wf_ok ?_
  refine wf_run (ρ := [some (.str s), none, none]) rfl rfl ?_
  unfold bnet
  (repeat' (first | with_reducible refine Eng.Stp.imp ?_ | walk_at "EV2"))
  refine for_inv (fun xs ρ => ∃ rest st o, xs = rest.map ch ∧ ρ = [some (.str s), some (.lst true (st.reverse.map ch)), o] ∧ F rest st = F s [] ∧ Let rest ∧ Let st ∧ st.length + rest.length ≤ s.length) ?_ ?_ _ _ ?_
  · rintro x xs ρ ⟨rest, st, o, hx, rfl, hF, hr, hs, hle⟩
    cases rest with
    | nil => cases hx
    | cons c rest =>
    cases hx
    have hc := hr c (by simp)
    have hr' : Let rest := fun x hx => hr x (by simp [hx])
    simp only [List.length_cons] at hle
    cases st with
    | nil =>
      (repeat' (first | with_reducible refine Eng.Stp.imp ?_ | ((with_reducible refine Eng.gWF ?_); (first | with_reducible refine wf_of (hG hc) ?_)) | walk_at "EV2"))
      all_goals first
        | (exfalso; simp at *; done)
        | skip
      exact ⟨rest, [c], _, rfl, rfl, hF, hr', let_one hc, by simp; omega⟩
    | cons d r =>
      have e : (d :: r).reverse.map ch = r.reverse.map ch ++ [ch d] := by simp
      have ea : atI (r.reverse.map ch ++ [ch d]) (-1) = some (ch d) := atI_last _ _
      have hs' : Let r := fun x hx => hs x (by simp [hx])
      simp only [List.length_cons] at hle
      rw [e]
      have hlen : (r.reverse.map ch ++ [ch d]).length = r.length + 1 := by simp
      have hy : (r.reverse.map ch ++ [ch d])[(r.reverse.map ch ++ [ch d]).length - 1]? = some (ch d) := by rw [hlen, Nat.add_sub_cancel, List.getElem?_append_right (by simp)]; simp
      (repeat' (first | with_reducible refine Eng.Stp.imp ?_ | ((with_reducible refine Eng.gWF ?_); (first | with_reducible refine wf_of (hG hc) ?_)) | (refine ⟨_, hy, ?_⟩) | walk_at "EV2"))
      · rename_i q
        refine ⟨rest, r, _, rfl, by rw [List.dropLast_concat], ?_, hr', hs', by omega⟩
        rw [← hF, F_cons, act, if_pos (by simpa using q)]
      · rename_i q
        refine ⟨rest, c :: d :: r, some (ch c), rfl, by simp, ?_, hr', ?_, by simp only [List.length_cons]; omega⟩
        · rw [← hF, F_cons c rest, act, if_neg (by simpa using q)]
        · exact fun x hx => (List.mem_cons.mp hx).elim (fun e => e ▸ hc) (hs x)
      · rename_i q
        exact absurd (show ((r.reverse.map ch ++ [ch d]).length : Int) > 0 by rw [hlen]; omega) q
  · rintro ρ ⟨rest, st, o, hx, rfl, hF, _, _, hle⟩
    cases rest with
    | cons c rest => cases hx
    | nil =>
      have hj : joinM [] [.lst true (st.reverse.map ch)] = some (.str st.reverse) := join_ch (by simp at hle ⊢; omega)
      (repeat' (first | with_reducible refine Eng.Stp.imp ?_ | walk_at "EV2"))
      have hF : st = F s [] := hF
      subst hF
      first | exact ⟨rfl, rfl⟩ | rfl
  · have e : freezes [] = [] := rfl
    exact ⟨s, [], _, rfl, rfl, rfl, h, let_nil, by simp⟩
theorem net_law {s : List Nat} (h : Let s) (hl : s.length ≤ 1000000) : g__law_net [.str s] = .ok (.str (nf s)) [some (.str s)] := net_run undoing_law h hl
theorem net_pk {s : List Nat} (h : Let s) (hl : s.length ≤ 1000000) : g_net_letters [.str s] = .ok (.str (nf s)) [some (.str s)] := net_run undoing_pk h hl
/-! the undoing of a row -/
theorem back_law {s : List Nat} (h : Let s) (hl : s.length ≤ 1000000) : g__law_turned [.str s] = .ok (.str (back s)) [some (.str s)] := by
  refine wf_ok ?_
  refine wf_run (ρ := [some (.str s), none]) rfl rfl ?_
  unfold b__law_turned
  have hl2 : s.length ≤ 16777216 := by omega
  (repeat' (first | with_reducible refine Eng.Stp.imp ?_ | walk_at "EV2"))
  refine lc_inv (fun xs acc ρ => ∃ rest pre, xs = rest.map ch ∧ acc = (pre.map sw1).map ch ∧ ρ = [some (.str s), none] ∧ pre ++ rest = s.reverse) ?_ ?_ _ _ _ ?_
  · rintro x xs acc ρ ⟨rest, pre, hx, rfl, rfl, hp⟩
    cases rest with
    | nil => cases hx
    | cons c rest =>
    cases hx
    have hc : isLet c := h c (List.mem_reverse.mp (by rw [← hp]; simp))
    have hlen : ((pre.map sw1).map ch).length < 16777216 := by
      have := congrArg List.length hp
      simp at this ⊢
      omega
    (repeat' (first | with_reducible refine Eng.Stp.imp ?_ | ((with_reducible refine Eng.gWF ?_); (first | with_reducible refine wf_of (undoing_law hc) ?_)) | walk_at "EV2"))
    refine ⟨rest, pre ++ [c], rfl, by simp, rfl, by rw [← hp]; simp⟩
  · rintro acc ρ ⟨rest, pre, hx, rfl, rfl, hp⟩
    cases rest with
    | cons c rest => cases hx
    | nil =>
      have hp : pre = s.reverse := by simpa using hp
      subst hp
      have hj : joinM [] [.lst true ((s.reverse.map sw1).map ch)] = some (.str (back s)) := join_ch (by simpa using hl)
      (repeat' (first | with_reducible refine Eng.Stp.imp ?_ | walk_at "EV2"))
      first | exact ⟨rfl, rfl⟩ | rfl
  · exact ⟨s.reverse, [], rfl, rfl, rfl, rfl⟩
/-! rows -/
theorem sof {s L : List Nat} (h : ∀ c ∈ s, c ∈ L) : g_is_string_of [.str s, .str L] = .ok (.bl true) [some (.str s), some (.str L)] := by
  refine wf_ok ?_
  refine wf_run (ρ := [some (.str s), some (.str L), none]) rfl rfl ?_
  unfold b_is_string_of
  have hi : isiD [.str s, .ty "str"] = some (.bl true) := rfl
  (repeat' (first | with_reducible refine Eng.Stp.imp ?_ | walk_at "EV2"))
  refine for_inv (fun xs ρ => ∃ (rest : List Nat) (o : Option D), xs = rest.map ch ∧ ρ = [some (.str s), some (.str L), o] ∧ ∀ c ∈ rest, c ∈ L) ?_ ?_ _ _ ?_
  · rintro x xs ρ ⟨rest, o, hx, rfl, hr⟩
    cases rest with
    | nil => cases hx
    | cons c rest =>
    cases hx
    have hn : ninD (ch c) (.str L) = some (.bl false) := by
      show some (D.bl !(decide (c ∈ L))) = _
      rw [decide_eq_true (hr c (by simp))]; rfl
    (repeat' (first | with_reducible refine Eng.Stp.imp ?_ | walk_at "EV2"))
    first | exact ⟨rest, _, rfl, rfl, fun x hx => hr x (by simp [hx])⟩ | exact fun x hx => hr x (by simp [hx])
  · rintro ρ ⟨rest, o, hx, rfl, hr⟩
    (repeat' (first | with_reducible refine Eng.Stp.imp ?_ | walk_at "EV2"))
    first | exact ⟨rfl, rfl⟩ | rfl
  · exact ⟨s, _, rfl, rfl, h⟩
theorem isword {s : List Nat} (h : ∀ c ∈ s, 97 ≤ c ∧ c ≤ 122) (h0 : 1 ≤ s.length) (h1 : s.length ≤ 1000) : g_is_word [.str s] = .ok (.bl true) [some (.str s)] := by
  refine wf_ok ?_
  refine wf_run (ρ := [some (.str s)]) rfl rfl ?_
  unfold b_is_word
  have hs : ∀ c ∈ s, c ∈ c_SMALL := fun c hc => by
    have k : ∀ c, c < 128 → (97 ≤ c ∧ c ≤ 122) → c ∈ c_SMALL := by decide +kernel
    exact k c (by have := h c hc; omega) (h c hc)
  (repeat' (first | with_reducible refine Eng.Stp.imp ?_ | ((with_reducible refine Eng.gWF ?_); (first | with_reducible refine wf_of (sof hs) ?_)) | walk_at "EV2"))
  · first | exact ⟨congrArg D.bl (decide_eq_true (by omega)), rfl⟩ | exact congrArg D.bl (decide_eq_true (by omega))
theorem isdeeds {s : List Nat} (h : ∀ c ∈ s, 97 ≤ c ∧ c ≤ 122) (h0 : 1 ≤ s.length) (h1 : s.length ≤ 4) (hp : s.Pairwise (· < ·)) : g_is_deeds [.str s] = .ok (.bl true) [some (.str s)] := by
  refine wf_ok ?_
  refine wf_run (ρ := [some (.str s), none]) rfl rfl ?_
  unfold b_is_deeds
  (repeat' (first | with_reducible refine Eng.Stp.imp ?_ | ((with_reducible refine Eng.gWF ?_); (first | with_reducible refine wf_of (isword h h0 (by omega)) ?_)) | walk_at "EV2"))
  · exfalso; omega
  refine for_inv (fun xs ρ => ∃ (k : Nat) (o : Option D), xs = (List.range' k (s.length - 1 - k)).map (fun (i : Nat) => D.int (1 + (i : Int))) ∧ k ≤ s.length - 1 ∧ ρ = [some (.str s), o]) ?_ ?_ _ _ ?_
  · rintro x xs ρ ⟨k, o, hx, hk, rfl⟩
    obtain ⟨j, hj⟩ : ∃ j, s.length - 1 - k = j := ⟨_, rfl⟩
    rw [hj] at hx
    cases j with
    | zero => cases hx
    | succ j =>
    rw [List.range'_succ] at hx
    obtain ⟨rfl, rfl⟩ := List.cons.inj hx
    have g1 : atI s (1 + (k : Int)) = some s[k + 1] := by
      rw [show 1 + (k : Int) = ((k + 1 : Nat) : Int) by omega]
      exact atI_nat' (List.getElem?_eq_getElem (by omega))
    have g0 : atI s (1 + (k : Int) - 1) = some s[k] := by
      rw [show 1 + (k : Int) - 1 = (k : Int) by omega]
      exact atI_nat' (List.getElem?_eq_getElem (by omega))
    have hlt : s[k] < s[k + 1] := List.pairwise_iff_getElem.mp hp k (k + 1) (by omega) (by omega) (by omega)
    have hge : geD (.str [s[k]]) (.str [s[k + 1]]) = some (.bl false) := by
      show some (D.bl (!decide ([s[k]] < [s[k + 1]]))) = _
      rw [decide_eq_true (List.cons_lt_cons_iff.mpr (.inl hlt))]; rfl
    (repeat' (first | with_reducible refine Eng.Stp.imp ?_ | ((with_reducible refine Eng.gWO ?_); (first | ((with_reducible apply wo); (exact hge)))) | walk_at "EV2"))
    exact ⟨k + 1, _, by rw [show s.length - 1 - (k + 1) = j by omega], by omega, rfl⟩
  · rintro ρ ⟨k, o, hx, hk, rfl⟩
    (repeat' (first | with_reducible refine Eng.Stp.imp ?_ | walk_at "EV2"))
    first | exact ⟨rfl, rfl⟩ | rfl
  · exact ⟨0, none, by rw [List.range_eq_range']; congr 2; omega, by omega, rfl⟩
end K19
namespace K19
open PySem PySem.Spec PyProof.Rows L2 Eng Words
theorem frzs_int : ∀ ns : List Int, frzs (ns.map D.int) = true
  | [] => rfl
  | _ :: ns => by
    show (true && frzs (ns.map D.int)) = true
    rw [frzs_int ns]; rfl
theorem freezes_int (ns : List Int) : freezes (ns.map D.int) = ns.map D.int := freezes_frz _ (frzs_int ns)
theorem cut63 {ns : List Int} (h : ns.length ≤ 63) : cutL ns none (some 63) = ns := by
  unfold cutL
  rw [HT.sIx_none, show (63 : Int) = ((63 : Nat) : Int) from rfl, HT.sIx_nat, Nat.min_eq_right h]
  simp
def absI (i : Int) : Int := if i < 0 then -i else i
theorem dice_ok {ns : List Int} (h : ns.length ≤ 63) : ∃ cells : List D, g__law_dice [.scr ns] = .ok (hd true cells 0 0 1 0) [some (.scr ns)] ∧ OkH cells 0 0 1 0 100000 := by
  refine ⟨(ns.map absI).map D.int, ?_, ?_⟩
  · refine wf_ok ?_
    refine wf_run (ρ := [some (.scr ns), none]) rfl rfl ?_
    unfold b__law_dice
    have hsl : slD (.scr ns) none (some 63) = some (.lst true (ns.map D.int)) := by
      show some (D.lst true ((cutL ns none (some 63)).map D.int)) = _
      rw [cut63 h]
    have hi : itD (.lst true (ns.map D.int)) = some (ns.map D.int) := by show some (freezes _) = _; rw [freezes_int]
    (repeat' (first | with_reducible refine Eng.Stp.imp ?_ | ((with_reducible refine Eng.gWO ?_); (first | ((with_reducible apply wo); (exact hsl)) | ((with_reducible apply wo); (exact hi)))) | walk_at "EV2"))
    refine lc_inv (fun xs acc ρ => ∃ rest pre, xs = rest.map D.int ∧ acc = (pre.map absI).map D.int ∧ ρ = [some (.scr ns), none] ∧ pre ++ rest = ns) ?_ ?_ _ _ _ ⟨ns, [], rfl, rfl, rfl, rfl⟩
    · rintro x xs acc ρ ⟨rest, pre, hx, rfl, rfl, hp⟩
      cases rest with
      | nil => cases hx
      | cons c rest =>
      cases hx
      have hlen : ((pre.map absI).map D.int).length < 16777216 := by
        have := congrArg List.length hp
        simp at this ⊢
        omega
      (repeat' (first | with_reducible refine Eng.Stp.imp ?_ | walk_at "EV2"))
      exact ⟨rest, pre ++ [c], rfl, by simp [absI], rfl, by rw [← hp]; simp⟩
    · rintro acc ρ ⟨rest, pre, hx, rfl, rfl, hp⟩
      cases rest with
      | cons c rest => cases hx
      | nil =>
        have hp : pre = ns := by simpa using hp
        subst hp
        (repeat' (first | with_reducible refine Eng.Stp.imp ?_ | walk_at "EV2"))
        first | exact ⟨rfl, rfl⟩ | rfl
  · refine ⟨fun x hx => ?_, by omega, by omega, by omega, by omega⟩
    · obtain ⟨i, hi, rfl⟩ := List.mem_map.mp hx
      obtain ⟨j, hj, rfl⟩ := List.mem_map.mp hi
      refine ⟨_, rfl, ?_⟩
      unfold absI
      split <;> omega
theorem at_mem {α : Type} {ls : List α} {c : Int} (h0 : 0 ≤ c) (h1 : c < ls.length) : ∃ x, atI ls c = some x ∧ x ∈ ls := by
  obtain ⟨k, rfl⟩ := Int.eq_ofNat_of_zero_le h0
  have hk : k < ls.length := by omega
  exact ⟨ls[k], atI_nat' (List.getElem?_eq_getElem hk), List.getElem_mem hk⟩
/-- a row over deeds -/
def Ov (ds s : List Nat) : Prop := ∀ c ∈ s, c ∈ ds ++ ds.map up1
def Low (ds : List Nat) : Prop := ∀ c ∈ ds, 97 ≤ c ∧ c ≤ 122
theorem ov_let {ds s : List Nat} (hd : Low ds) (h : Ov ds s) : Let s := fun c hc => by
  rcases List.mem_append.mp (h c hc) with hc | hc
  · exact .inr (hd c hc)
  · obtain ⟨d, hdm, rfl⟩ := List.mem_map.mp hc
    have := hd d hdm
    unfold isLet up1
    rw [if_pos (by omega)]
    omega
theorem ov_sw {ds : List Nat} {c : Nat} (hd : Low ds) (h : c ∈ ds ++ ds.map up1) : sw1 c ∈ ds ++ ds.map up1 := by
  rcases List.mem_append.mp h with hc | hc
  · have := hd c hc
    refine List.mem_append.mpr (.inr (List.mem_map.mpr ⟨c, hc, ?_⟩))
    unfold sw1 up1
    repeat' split
    all_goals omega
  · obtain ⟨d, hdm, rfl⟩ := List.mem_map.mp hc
    have := hd d hdm
    refine List.mem_append.mpr (.inl ?_)
    have e : sw1 (up1 d) = d := by
      unfold sw1 up1
      repeat' split
      all_goals omega
    rw [e]; exact hdm
theorem ov_back {ds s : List Nat} (hd : Low ds) (h : Ov ds s) : Ov ds (back s) := fun c hc => by
  unfold back at hc
  obtain ⟨d, hd', rfl⟩ := List.mem_map.mp hc
  exact ov_sw hd (h d (List.mem_reverse.mp hd'))
theorem ov_app {ds s t : List Nat} (h : Ov ds s) (k : Ov ds t) : Ov ds (s ++ t) := fun c hc => (List.mem_append.mp hc).elim (h c) (k c)
section
variable {cells : List D} {o : Bool} {a r s t n : Int} {E : Exc → List (Option D) → Prop} {Q : D → List (Option D) → Prop}
theorem row_ok {ds : List Nat} {m : Int} (h : OkH cells a r s t n) (hn : 64 ≤ n) (hd1 : Low ds) (hd2 : 1 ≤ ds.length) (hd3 : ds.length ≤ 26) (hm : 0 ≤ m) (hm7 : m ≤ 60)
    (q : ∀ row a' r' s' t', Ov ds row → row.length ≤ m.toNat → OkH cells a' r' s' t' (n - 62) → Q (.str row) [some (hd o cells a' r' s' t'), some (.str ds), some (.int m)]) : WF (g__law_row [hd o cells a r s t, .str ds, .int m]) E Q := by
  refine wf_run (ρ := [some (hd o cells a r s t), some (.str ds), some (.int m), none, none]) rfl rfl ?_
  unfold b__law_row
  have ha : ds.all (· < 128) = true := List.all_eq_true.mpr fun c hc => decide_eq_true (by have := hd1 c hc; omega)
  have hu : ds.length ≤ 5592405 := by omega
  have hs1 : ds.length + (ds.map up1).length ≤ 16777216 := by rw [List.length_map]; omega
  have hL : (ds ++ ds.map up1).length ≤ 16777216 := by rw [List.length_append]; exact hs1
  have hL2 : (ds ++ ds.map up1).length ≤ 1000 := by rw [List.length_append, List.length_map]; omega
  have hL1 : 1 ≤ (ds ++ ds.map up1).length := by rw [List.length_append, List.length_map]; omega
  have hov : Ov ds (ds ++ ds.map up1) := fun c hc => hc
  unfold Ov at q hov
  (repeat' (first | with_reducible refine Eng.Stp.imp ?_ | walk_at "EV2"))
  generalize ds ++ ds.map up1 = ls at hL hL2 hL1 hov q ⊢
  (repeat' (first | with_reducible refine Eng.Stp.imp ?_ | ((with_reducible refine Eng.gWF ?_); (first | ((with_reducible refine draw_ok (by assumption) (by omega) (by omega) (by omega) (fun cnt a0 r0 s0 t0 hcnt0 hcnt1 hO0 => ?_))))) | walk_at "EV2"))
  refine lc_inv (fun xs acc ρ => ∃ (k : Nat) (row : List Nat) (a' r' s' t' : Int), xs = rng k (cnt.toNat - k) ∧ k ≤ cnt.toNat ∧ acc = row.map ch ∧ row.length = k ∧ (∀ c ∈ row, c ∈ ls) ∧ OkH cells a' r' s' t' (n - 1 - k) ∧ ρ = [some (hd o cells a' r' s' t'), some (.str ds), some (.int m), some (.str ls), none]) ?_ ?_ _ _ _ ?_
  · rintro x xs acc ρ ⟨k, row, a', r', s', t', hx, hk, rfl, hlr, hr, hO, rfl⟩
    obtain ⟨j, hj⟩ : ∃ j, cnt.toNat - k = j := ⟨_, rfl⟩
    rw [hj] at hx
    cases j with
    | zero => cases hx
    | succ j =>
    rw [rng_succ] at hx
    obtain ⟨rfl, rfl⟩ := List.cons.inj hx
    have hlen : (row.map ch).length < 16777216 := by rw [List.length_map]; omega
    (repeat' (first | with_reducible refine Eng.Stp.imp ?_ | ((with_reducible refine Eng.gWF ?_); (first | ((with_reducible refine draw_ok (by assumption) (by omega) (by omega) (by omega) (fun c a1 r1 s1 t1 hc0 hc1 hk1 => ?_))))) | walk_at "EV2"))
    obtain ⟨x, hx1, hx2⟩ := at_mem (ls := ls) hc0 hc1
    refine wo_ixs hL hx1 ?_
    refine ⟨hlen, k + 1, row ++ [x], a1, r1, s1, t1, ?_, by omega, by simp, by simp [hlr], ?_, hk1.mono (by omega), rfl⟩
    · rw [show cnt.toNat - (k + 1) = j by omega]
    · intro c' hc'
      rcases List.mem_append.mp hc' with h | h
      · exact hr c' h
      · rw [List.mem_singleton.mp h]; exact hx2
  · rintro acc ρ ⟨k, row, a', r', s', t', hx, hk, rfl, hlr, hr, hO, rfl⟩
    have hk2 : cnt.toNat - k = 0 := by
      cases hj : cnt.toNat - k with
      | zero => rfl
      | succ j => rw [hj, rng_succ] at hx; cases hx
    have hj : joinM [] [.lst true (row.map ch)] = some (.str row) := join_ch (by omega)
    (repeat' (first | with_reducible refine Eng.Stp.imp ?_ | walk_at "EV2"))
    exact q row a' r' s' t' hr (by omega) (hO.mono (by omega))
  · exact ⟨0, [], _, _, _, _, rfl, by omega, rfl, rfl, fun c hc => absurd hc (by simp), OkH.mono (by assumption) (by omega), rfl⟩
theorem drow_ok {ds : List Nat} (h : OkH cells a r s t n) (hn : 300 ≤ n) (hd1 : Low ds) (hd2 : 1 ≤ ds.length) (hd3 : ds.length ≤ 26)
    (q : ∀ row a' r' s' t', Ov ds row → row.length ≤ 11 → OkH cells a' r' s' t' (n - 200) → Q (.str row) [some (hd o cells a' r' s' t'), some (.str ds)]) : WF (g__law_drawn_row [hd o cells a r s t, .str ds]) E Q := by
  refine wf_run (ρ := [some (hd o cells a r s t), some (.str ds), none, none]) rfl rfl ?_
  unfold b__law_drawn_row
  (repeat' (first | with_reducible refine Eng.Stp.imp ?_ | ((with_reducible refine Eng.gWF ?_); (first | ((with_reducible refine draw_ok (by assumption) (by omega) (by omega) (by omega) (fun c a1 r1 s1 t1 hc0 hc1 hk1 => ?_))) | ((with_reducible refine row_ok (by assumption) (by omega) hd1 hd2 hd3 (by omega) (by omega) (fun lt a2 r2 s2 t2 hl1 hl2 hk2 => ?_))) | ((with_reducible refine wf_of (back_law (ov_let hd1 (by assumption)) (by omega)) ?_)))) | ((with_reducible refine Eng.gWO ?_); (first | ((with_reducible refine wo_adds (by first | (rw [back_len]; omega) | (rw [List.length_append, back_len]; omega)) ?_)))) | walk_at "EV2"))
  · have h1 : Ov ds lt := by assumption
    exact q _ _ _ _ _ (ov_app h1 (ov_back hd1 h1)) (by rw [List.length_append, back_len]; omega) (OkH.mono (by assumption) (by omega))
  · rename_i lt1 _ _ _ _ ho1 hn1 _ _ _
    exact q _ _ _ _ _ (ov_app (ov_app ho1 hl1) (ov_back hd1 ho1)) (by rw [List.length_append, List.length_append, back_len]; omega) (OkH.mono (by assumption) (by omega))
  · exact q _ _ _ _ _ hl1 (by omega) (OkH.mono (by assumption) (by omega))
theorem dtimes_ok (h : OkH cells a r s t n) (hn : 10 ≤ n)
    (q : ∀ c a' r' s' t', 1 ≤ c → c ≤ 10 ^ 50 → OkH cells a' r' s' t' (n - 2) → Q (.int c) [some (hd o cells a' r' s' t')]) : WF (g__law_drawn_times [hd o cells a r s t]) E Q := by
  refine wf_run (ρ := [some (hd o cells a r s t)]) rfl rfl ?_
  unfold b__law_drawn_times
  have hp : powD (.int 10) (.int 50) = some (.int (10 ^ 50)) := rfl
  have hi : ∀ c : Int, 0 ≤ c → c < 4 → ∃ v : Int, idxD (.lst true [.int 3, .int 1000, .int 6000, .int (10 ^ 50)]) (.int c) = some (.int v) ∧ 1 ≤ v ∧ v ≤ 10 ^ 50 := fun c h0 h1 => by
    have : c = 0 ∨ c = 1 ∨ c = 2 ∨ c = 3 := by omega
    rcases this with rfl | rfl | rfl | rfl
    · exact ⟨3, rfl, by omega, by omega⟩
    · exact ⟨1000, rfl, by omega, by omega⟩
    · exact ⟨6000, rfl, by omega, by omega⟩
    · exact ⟨10 ^ 50, rfl, by omega, by omega⟩
  (repeat' (first | with_reducible refine Eng.Stp.imp ?_ | ((with_reducible refine Eng.gWF ?_); (first | ((with_reducible refine draw_ok (by assumption) (by omega) (by omega) (by omega) (fun c a1 r1 s1 t1 hc0 hc1 hk1 => ?_))))) | ((with_reducible refine Eng.gWO ?_); (first | ((with_reducible apply wo); (exact hp)))) | walk_at "EV2"))
  obtain ⟨v, hv, hv0, hv1⟩ := hi c hc0 hc1
  (repeat' (first | with_reducible refine Eng.Stp.imp ?_ | ((with_reducible refine Eng.gWF ?_); (first | ((with_reducible refine draw_ok (by assumption) (by omega) (by omega) (by omega) (fun c a1 r1 s1 t1 hc0 hc1 hk1 => ?_))))) | ((with_reducible refine Eng.gWO ?_); (first | ((with_reducible apply wo); (exact hv)))) | walk_at "EV2"))
  exact q _ _ _ _ _ (by omega) (by omega) (OkH.mono (by assumption) (by omega))
end
end K19
namespace K19
open PySem PySem.Spec PyProof.Rows L2 Eng Words
def toD : Option (List Nat) → D
  | some w => .str w
  | none => .non
def tl : Exc := ⟨"TooLong", [("most", .int 5000)]⟩
def NR (f : Fo) (o : Option (List Nat)) (ps : List (Option D)) : Prop := match o with
  | some v => f = .ok (.str v) ps
  | none => f = .exc tl ps
def NrE (o : Option (List Nat)) (ps : List (Option D)) : Exc → List (Option D) → Prop := fun e ps' => o = none ∧ e = tl ∧ ps' = ps
def NrQ (o : Option (List Nat)) (ps : List (Option D)) : D → List (Option D) → Prop := fun d ps' => ∃ v, o = some v ∧ d = .str v ∧ ps' = ps
theorem nr_of {f : Fo} {o : Option (List Nat)} {ps : List (Option D)} (h : WF f (NrE o ps) (NrQ o ps)) : NR f o ps := by
  unfold WF NrE NrQ at h
  unfold NR
  cases f with
  | ok d p => obtain ⟨v, rfl, rfl, rfl⟩ := h; rfl
  | exc e p => obtain ⟨rfl, rfl, rfl⟩ := h; rfl
  | stuck => exact h.elim
theorem wf_nr {f : Fo} {o : Option (List Nat)} {ps : List (Option D)} {E : Exc → List (Option D) → Prop} {Q : D → List (Option D) → Prop} (h : NR f o ps) (q : ∀ v, o = some v → Q (.str v) ps) (e : o = none → E tl ps) : WF f E Q := by
  unfold NR at h
  cases o with
  | some v => rw [h]; exact q v rfl
  | none => rw [h]; exact e rfl
theorem atI_neg {s : List Nat} {k : Nat} {d : Nat} (h : s[s.length - 1 - k]? = some d) (hk : k < s.length) : atI s (-1 - (k : Int)) = some d := by
  unfold atI ixN
  rw [if_neg (by omega), if_pos (by omega)]
  show s[(-1 - (k : Int) + s.length).toNat]? = some d
  rw [show (-1 - (k : Int) + s.length).toNat = s.length - 1 - k by omega]
  exact h
theorem bent_ok {s : List Nat} (hL : Let s) (hl : s.length ≤ 1000000) : g_bent [.str s] = .ok (.int (endc s)) [some (.str s)] ∧ EndK s (endc s) := by
  suffices H : WF (g_bent [.str s]) (fun _ _ => False) (fun d' ps => ∃ k : Nat, d' = .int k ∧ ps = [some (.str s)] ∧ EndK s k) by
    unfold WF at H
    split at H
    · obtain ⟨k, rfl, rfl, a⟩ := H
      rw [endc_eq a]
      exact ⟨by assumption, a⟩
    · exact H.elim
    · exact H.elim
  refine wf_run (ρ := [some (.str s), none]) rfl rfl ?_
  unfold b_bent
  have hl2 : s.length ≤ 16777216 := by omega
  (repeat' (first | with_reducible refine Eng.Stp.imp ?_ | walk_at "EV2"))
  refine while_inv (k := fuel) (fun j ρ => ∃ k : Nat, ρ = [some (.str s), some (.int k)] ∧ j + k = s.length ∧ Ends s k) ?_ s.length _ (by unfold fuel; omega) ⟨0, rfl, by omega, by omega, fun i hi => by omega⟩
  rintro j ρ ⟨k, rfl, hj, hE⟩
  have g1 : (2 * k + 1 < s.length) → ∃ c d, s[k]? = some c ∧ s[s.length - 1 - k]? = some d := fun hh => ⟨_, _, List.getElem?_eq_getElem (by omega), List.getElem?_eq_getElem (by omega)⟩
  (repeat' (first | with_reducible refine Eng.Stp.imp ?_ | walk_at "EV2"))
  · obtain ⟨c, d, hc, hd⟩ := g1 (by omega)
    have e1 : atI s (k : Int) = some c := atI_nat' hc
    have e2 : atI s (-1 - (k : Int)) = some d := atI_neg hd (by omega)
    have ld : isLet d := hL d (List.mem_of_getElem? hd)
    (repeat' (first | with_reducible refine Eng.Stp.imp ?_ | ((with_reducible refine Eng.gWF ?_); (first | with_reducible refine wf_of (undoing_pk ld) ?_)) | walk_at "EV2"))
    · have q : [c] = [sw1 d] := by assumption
      refine ⟨j - 1, by omega, k + 1, rfl, by omega, by omega, fun i hi c' d' h1 h2 => ?_⟩
      by_cases e : i = k
      · subst e
        rw [hc] at h1; rw [hd] at h2
        cases h1; cases h2
        simpa using q
      · exact hE.2 i (by omega) c' d' h1 h2
    · have q : ¬[c] = [sw1 d] := by assumption
      have hF : EndK s k := ⟨hE, fun c' d' _ h1 h2 => by
        rw [hc] at h1; rw [hd] at h2
        cases h1; cases h2
        simpa using q⟩
      exact hF
  · have q : ¬2 * (k : Int) + 1 < s.length := by assumption
    have hF : EndK s k := ⟨hE, fun c' d' hh => absurd hh (by omega)⟩
    exact hF
section
variable {w : List Nat} {t : Int}
theorem fits {a : Nat} (h0 : 1 ≤ t) (ha : 1 ≤ a) {b : Nat} (h : 2 * (b : Int) + (a : Int) * t ≤ 5000) : t ≤ 5000 ∧ a * t.toNat ≤ 5000 ∧ 2 * b + a * t.toNat ≤ 5000 := by
  obtain ⟨u, rfl⟩ := Int.eq_ofNat_of_zero_le (show 0 ≤ t by omega)
  have e : (a : Int) * (u : Int) = ((a * u : Nat) : Int) := by simp
  rw [e] at h
  have : u ≤ a * u := Nat.le_mul_of_pos_left u ha
  rw [Int.toNat_natCast]
  omega
theorem big {a : Nat} (h0 : 1 ≤ t) {b : Nat} (h : ¬ 2 * (b : Int) + (a : Int) * t > 5000) : 2 * b + a * t.toNat ≤ 5000 := by
  obtain ⟨u, rfl⟩ := Int.eq_ofNat_of_zero_le (show 0 ≤ t by omega)
  have e : (a : Int) * (u : Int) = ((a * u : Nat) : Int) := by simp
  rw [Int.toNat_natCast]
  rw [e] at h
  omega
theorem big2 {a : Nat} (h0 : 1 ≤ t) {b : Nat} (h : 2 * (b : Int) + (a : Int) * t > 5000) : 2 * b + a * t.toNat > 5000 := by
  obtain ⟨u, rfl⟩ := Int.eq_ofNat_of_zero_le (show 0 ≤ t by omega)
  have e : (a : Int) * (u : Int) = ((a * u : Nat) : Int) := by simp
  rw [Int.toNat_natCast]
  rw [e] at h
  omega
theorem rep_none (hw : w ≠ []) (h : 2 * endc w + (w.length - 2 * endc w) * t.toNat > 5000) : rep w t.toNat = none := by
  unfold rep
  rw [if_neg hw, if_pos h]
theorem rep_some (hw : w ≠ []) (h : 2 * endc w + (w.length - 2 * endc w) * t.toNat ≤ 5000) : rep w t.toNat = some (w.take (endc w) ++ (List.replicate t.toNat ((w.drop (endc w)).take (w.length - endc w - endc w))).flatten ++ w.drop (w.length - endc w)) := by
  unfold rep
  rw [if_neg hw, if_neg (by omega)]
theorem ltimes_ok (hr : Red w) (hL : Let w) (hl : w.length ≤ 5000) (h0 : 1 ≤ t) (h1 : t ≤ 10 ^ 50) : g__law_times [.str w, .int t] = .ok (toD (rep w t.toNat)) [some (.str w), some (.int t)] := by
  refine wf_ok ?_
  refine wf_run (ρ := [some (.str w), some (.int t), none, none]) rfl rfl ?_
  unfold b__law_times
  have hl2 : w.length ≤ 16777216 := by omega
  (repeat' (first | with_reducible refine Eng.Stp.imp ?_ | walk_at "EV2"))
  refine ws_imp (R' := fun o => ∃ k : Nat, EndK w k ∧ o = .nx [some (.str w), some (.int t), some (.int k), none]) ?_ ?_
  · refine while_inv (k := fuel) (fun j ρ => ∃ k : Nat, ρ = [some (.str w), some (.int t), some (.int k), none] ∧ j + k = w.length ∧ Ends w k) ?_ w.length _ (by unfold fuel; omega) ⟨0, rfl, by omega, by omega, fun i hi => by omega⟩
    rintro j ρ ⟨k, rfl, hj, hE⟩
    have g1 : (2 * k + 1 < w.length) → ∃ c d, w[k]? = some c ∧ w[w.length - 1 - k]? = some d := fun hh => ⟨_, _, List.getElem?_eq_getElem (by omega), List.getElem?_eq_getElem (by omega)⟩
    (repeat' (first | with_reducible refine Eng.Stp.imp ?_ | walk_at "EV2"))
    · obtain ⟨c, d, hc, hd⟩ := g1 (by omega)
      have e1 : atI w (k : Int) = some c := atI_nat' hc
      have e2 : atI w (-1 - (k : Int)) = some d := atI_neg hd (by omega)
      have ld : isLet d := hL d (List.mem_of_getElem? hd)
      (repeat' (first | with_reducible refine Eng.Stp.imp ?_ | ((with_reducible refine Eng.gWF ?_); (first | with_reducible refine wf_of (undoing_law ld) ?_)) | walk_at "EV2"))
      · have q : [c] = [sw1 d] := by assumption
        refine ⟨j - 1, by omega, k + 1, rfl, by omega, by omega, fun i hi c' d' h1 h2 => ?_⟩
        by_cases e : i = k
        · subst e
          rw [hc] at h1; rw [hd] at h2
          cases h1; cases h2
          simpa using q
        · exact hE.2 i (by omega) c' d' h1 h2
      · have q : ¬[c] = [sw1 d] := by assumption
        have hF : EndK w k := ⟨hE, fun c' d' _ h1 h2 => by
          rw [hc] at h1; rw [hd] at h2
          cases h1; cases h2
          simpa using q⟩
        exact ⟨k, hF, rfl⟩
    · have q : ¬2 * (k : Int) + 1 < w.length := by assumption
      have hF : EndK w k := ⟨hE, fun c' d' hh => absurd hh (by omega)⟩
      exact ⟨k, hF, rfl⟩
  rintro o ⟨k, hK, rfl⟩
  have hk := hK.1.1
  have ek := endc_eq hK
  have hnn : ((w.length : Int) - (k : Int)) = ((w.length - k : Nat) : Int) := by omega
  have c1 : cutL w none (some (k : Int)) = w.take k := cut_to (by omega)
  have c2 : cutL w (some (k : Int)) (some ((w.length : Int) - (k : Int))) = (w.drop k).take (w.length - k - k) := by rw [hnn]; exact cut_mid (by omega) (by omega)
  have c3 : cutL w (some ((w.length : Int) - (k : Int))) none = w.drop (w.length - k) := by rw [hnn]; exact cut_from (by omega)
  have hml : ((w.drop k).take (w.length - k - k)).length = w.length - 2 * k := by rw [List.length_take, List.length_drop]; omega
  have hmn : w ≠ [] → (w.drop k).take (w.length - k - k) ≠ [] := fun hw e => by
    have := mid_ne hK.1 hr hw
    rw [e, List.length_nil] at hml
    omega
  have m1 : ((w.drop k).take (w.length - k - k)).length ≤ 5000 := by omega
  have s1 : slD (.str w) none (some (k : Int)) = some (.str (w.take k)) := by
    show (if w.length ≤ 16777216 then some (D.str (cutL w none (some (k : Int)))) else none) = _
    rw [if_pos hl2, c1]
  have s2 : slD (.str w) (some (k : Int)) (some ((w.length : Int) - (k : Int))) = some (.str ((w.drop k).take (w.length - k - k))) := by
    show (if w.length ≤ 16777216 then some (D.str (cutL w (some (k : Int)) (some ((w.length : Int) - (k : Int))))) else none) = _
    rw [if_pos hl2, c2]
  have s3 : slD (.str w) (some ((w.length : Int) - (k : Int))) none = some (.str (w.drop (w.length - k))) := by
    show (if w.length ≤ 16777216 then some (D.str (cutL w (some ((w.length : Int) - (k : Int))) none)) else none) = _
    rw [if_pos hl2, c3]
  clear c1 c2 c3
  generalize hm : (w.drop k).take (w.length - k - k) = m at hml hmn m1 s2 ⊢
  have m2 : m.length ≤ 16777216 := by omega
  by_cases hw : w = []
  · subst hw
    have m0 : m = [] := List.eq_nil_of_length_eq_zero (by simpa using hml)
    subst m0
    (repeat' (first | with_reducible refine Eng.Stp.imp ?_ | ((with_reducible refine Eng.gWO ?_); (first | ((with_reducible apply wo); (exact s1)) | ((with_reducible apply wo); (exact s2)) | ((with_reducible apply wo); (exact s3)))) | walk_at "EV2"))
    all_goals first
      | exact absurd rfl (by assumption)
      | rfl
      | (refine ⟨?_, rfl⟩; unfold rep toD; rw [if_pos rfl])
  · have hmn := hmn hw
    have m3 : 1 ≤ m.length := List.length_pos_iff.mpr hmn
    (repeat' (first | with_reducible refine Eng.Stp.imp ?_ | ((with_reducible refine Eng.gWO ?_); (first | ((with_reducible apply wo); (exact s1)) | ((with_reducible apply wo); (exact s2)) | ((with_reducible apply wo); (exact s3)) | ((with_reducible refine wo_mulX ?_ ?_ ?_); (omega); (omega)))) | walk_at "EV2"))
    · exact absurd (by assumption) hmn
    · exact absurd (by assumption) hmn
    · refine ⟨?_, rfl⟩
      have hb := big2 (a := m.length) (b := k) h0 (by assumption)
      rw [rep_none hw (by rw [ek, ← hml]; exact hb)]
      rfl
    · exact absurd (by assumption) hmn
    · have hb := big (a := m.length) (b := k) h0 (by assumption)
      have hf := fits (a := m.length) (b := k) h0 m3 (by omega)
      refine wo_muls ⟨by omega, by omega⟩ (by omega) ?_
      have hrl := flat_rep_len m t.toNat
      rw [Nat.mul_comm] at hrl
      have a1 : (w.take k).length + (List.replicate t.toNat m).flatten.length ≤ 16777216 := by rw [List.length_take]; omega
      have a2 : (w.take k ++ (List.replicate t.toNat m).flatten).length + (w.drop (w.length - k)).length ≤ 16777216 := by rw [List.length_append, List.length_take, List.length_drop]; omega
      refine wo_adds a1 ?_
      (repeat' (first | with_reducible refine Eng.Stp.imp ?_ | ((with_reducible refine Eng.gWO ?_); (first | ((with_reducible apply wo); (exact s1)) | ((with_reducible apply wo); (exact s2)) | ((with_reducible apply wo); (exact s3)))) | walk_at "EV2"))
      refine ⟨?_, rfl⟩
      rw [rep_some hw (by rw [ek, ← hml]; exact hb), ek, hm]
      rfl
theorem pl_ok {n : Nat} (hw : w ≠ []) (hr : Red w) (hL : Let w) (hl : w.length ≤ 5000) (h0 : 1 ≤ t) (h1 : 2 * endc w + (w.length - 2 * endc w) * t.toNat ≤ 5000) :
    r_power_letters (n + 1) [.str w, .int t] = .ok (.str (w.take (endc w) ++ (List.replicate t.toNat ((w.drop (endc w)).take (w.length - endc w - endc w))).flatten ++ w.drop (w.length - endc w))) [some (.str w), some (.int t)] := by
  refine wf_ok ?_
  obtain ⟨hb, hK⟩ := bent_ok hL (show w.length ≤ 1000000 by omega)
  have hk := hK.1.1
  have hml : ((w.drop (endc w)).take (w.length - endc w - endc w)).length = w.length - 2 * endc w := by rw [List.length_take, List.length_drop]; omega
  have hmn := mid_ne hK.1 hr hw
  generalize endc w = k at *
  have hl2 : w.length ≤ 16777216 := by omega
  have hnn : ((w.length : Int) - (k : Int)) = ((w.length - k : Nat) : Int) := by omega
  have c1 : cutL w none (some (k : Int)) = w.take k := cut_to (by omega)
  have c2 : cutL w (some (k : Int)) (some ((w.length : Int) - (k : Int))) = (w.drop k).take (w.length - k - k) := by rw [hnn]; exact cut_mid (by omega) (by omega)
  have c3 : cutL w (some ((w.length : Int) - (k : Int))) none = w.drop (w.length - k) := by rw [hnn]; exact cut_from (by omega)
  refine wf_run (ρ := [some (.str w), some (.int t), none]) rfl rfl ?_
  unfold b_power_letters
  (repeat' (first | with_reducible refine Eng.Stp.imp ?_ | ((with_reducible refine Eng.gWF ?_); (first | with_reducible refine wf_of (hb) ?_)) | walk_at "EV2"))
  · exfalso; omega
  · exfalso; omega
  · exact absurd (by assumption) hw
  · rw [c1, c2]
    generalize (w.drop k).take (w.length - k - k) = m at hml ⊢
    have ht : t.toNat ≤ (w.length - 2 * k) * t.toNat := Nat.le_mul_of_pos_left _ (by omega)
    have e : m.length * t.toNat = (w.length - 2 * k) * t.toNat := by rw [hml]
    refine wo_muls ⟨by omega, by omega⟩ (by omega) ?_
    have hrl := flat_rep_len m t.toNat
    rw [Nat.mul_comm] at hrl
    have a1 : (w.take k).length + (List.replicate t.toNat m).flatten.length ≤ 16777216 := by rw [List.length_take]; omega
    have a2 : (w.take k ++ (List.replicate t.toNat m).flatten).length + (w.drop (w.length - k)).length ≤ 16777216 := by rw [List.length_append, List.length_take, List.length_drop]; omega
    refine wo_adds a1 ?_
    (repeat' (first | with_reducible refine Eng.Stp.imp ?_ | walk_at "EV2"))
    rw [c3]
    refine wo_adds a2 ?_
    (repeat' (first | with_reducible refine Eng.Stp.imp ?_ | walk_at "EV2"))
    first | exact ⟨rfl, rfl⟩ | rfl
theorem rep_ok (hr : Red w) (hL : Let w) (hl : w.length ≤ 5000) (h0 : 1 ≤ t) (h1 : t ≤ 10 ^ 50) : NR (g_repeated [.str w, .int t]) (rep w t.toNat) [some (.str w), some (.int t)] := by
  refine nr_of ?_
  obtain ⟨hb, hK⟩ := bent_ok hL (show w.length ≤ 1000000 by omega)
  have hk := hK.1.1
  have hl2 : w.length ≤ 16777216 := by omega
  refine wf_run (ρ := [some (.str w), some (.int t), none]) rfl rfl ?_
  unfold b_repeated
  by_cases hw : w = []
  · subst hw
    (repeat' (first | with_reducible refine Eng.Stp.imp ?_ | ((with_reducible refine Eng.gWF ?_); (first | with_reducible refine wf_of (hb) ?_)) | walk_at "EV2"))
    all_goals first
      | exact absurd rfl (by assumption)
      | (refine ⟨[], ?_, rfl, rfl⟩; unfold rep; rw [if_pos rfl])
  · have hmn := mid_ne hK.1 hr hw
    have e : (w.length : Int) - 2 * (endc w : Int) = ((w.length - 2 * endc w : Nat) : Int) := by omega
    (repeat' (first | with_reducible refine Eng.Stp.imp ?_ | ((with_reducible refine Eng.gWF ?_); (first | with_reducible refine wf_of (hb) ?_)) | ((with_reducible refine Eng.gWO ?_); (first | ((with_reducible refine wo_mulX ?_ ?_ ?_); (omega); (omega)))) | walk_at "EV2"))
    · exact absurd (by assumption) hw
    · rename_i q
      rw [e] at q
      refine ⟨rep_none hw (big2 h0 q), rfl, rfl⟩
    · rename_i q
      rw [e] at q
      have hb2 := big h0 q
      have hp : g_power_letters [.str w, .int t] = _ := pl_ok (n := 1) hw hr hL hl h0 hb2
      (repeat' (first | with_reducible refine Eng.Stp.imp ?_ | ((with_reducible refine Eng.gWF ?_); (first | with_reducible refine wf_of (hp) ?_)) | walk_at "EV2"))
      exact ⟨_, rep_some hw hb2, rfl, rfl⟩
end
end K19
namespace K19
open PySem PySem.Spec PyProof.Rows L2 Eng Words
abbrev sDo (r : List Nat) : D := .tup [.str [100, 111], .str r]
abbrev sLoop (b : List D) : D := .tup [.str [108, 111, 111, 112], .tup b]
abbrev sUndo (b : List D) : D := .tup [.str [117, 110, 100, 111], .tup b]
theorem tup2_frz {a b : D} (ha : a.frz = true) (hb : b.frz = true) : (D.tup [a, b]).frz = true := by
  show (a.frz && (b.frz && true)) = true
  rw [ha, hb]; rfl
theorem frzs_of {ss : List D} (h : ∀ s ∈ ss, s.frz = true) : frzs ss = true := by
  induction ss with
  | nil => rfl
  | cons s r ih =>
    show (s.frz && frzs r) = true
    rw [h s (by simp), ih fun x hx => h x (by simp [hx])]; rfl
theorem frzs_mem {ss : List D} (h : frzs ss = true) : ∀ s ∈ ss, s.frz = true := by
  induction ss with
  | nil => exact fun s hs => absurd hs (by simp)
  | cons x r ih =>
    have h : (x.frz && frzs r) = true := h
    simp only [Bool.and_eq_true] at h
    exact fun s hs => (List.mem_cons.mp hs).elim (fun e => e ▸ h.1) (ih h.2 s)
theorem ispair {a b : D} (hf : (D.tup [a, b]).frz = true) : g_is_pair [.tup [a, b]] = .ok (.bl true) [some (.tup [a, b])] := by
  refine wf_ok ?_
  refine wf_run (ρ := [some (.tup [a, b])]) rfl rfl ?_
  unfold b_is_pair
  (repeat' (first | with_reducible refine Eng.Stp.imp ?_ | walk_at "EV2"))
  first | exact ⟨rfl, rfl⟩ | rfl
theorem goesround : g_goes_round [.dic false []] = .ok (.bl false) [some (.dic false [])] := by
  refine wf_ok ?_
  refine wf_run (ρ := [some (.dic false []), none, none, none, none, none, none, none]) rfl rfl ?_
  unfold b_goes_round
  have hk : (([] : List (D × D)).map (·.1)).all isKeyD = true := rfl
  have hi : itD (.dic false []) = some [] := rfl
  have ha : anyD [.lst true []] = some (.bl false) := rfl
  have hn : lenD [.dic false []] = some (.int 0) := rfl
  (repeat' (first | with_reducible refine Eng.Stp.imp ?_ | ((with_reducible refine Eng.gWO ?_); (first | ((with_reducible apply wo); (exact hi)) | ((with_reducible apply wo); (exact hn)) | ((with_reducible apply wo); (exact ha)))) | ((with_reducible refine Eng.gW ?_); (first | with_reducible refine Eng.w_lcx ?_)) | ((with_reducible refine Eng.gLcx ?_); (first | with_reducible refine Eng.lcx_nil ?_ | with_reducible refine Eng.lcx_cons ?_)) | with_reducible refine Eng.for_nil ?_ | with_reducible refine Eng.for_cons ?_ | walk_at "EV2"))
  refine for_nil ?_
  (repeat' (first | with_reducible refine Eng.Stp.imp ?_ | ((with_reducible refine Eng.gWO ?_); (first | ((with_reducible apply wo); (exact hi)) | ((with_reducible apply wo); (exact hn)) | ((with_reducible apply wo); (exact ha)))) | ((with_reducible refine Eng.gW ?_); (first | with_reducible refine Eng.w_lcx ?_)) | ((with_reducible refine Eng.gLcx ?_); (first | with_reducible refine Eng.lcx_nil ?_ | with_reducible refine Eng.lcx_cons ?_)) | with_reducible refine Eng.for_nil ?_ | with_reducible refine Eng.for_cons ?_ | walk_at "EV2"))
  first | exact ⟨rfl, rfl⟩ | rfl
theorem areparts {ds : List Nat} : g_are_parts [.dic false [], .str ds] = .ok (.bl true) [some (.dic false []), some (.str ds)] := by
  refine wf_ok ?_
  refine wf_run (ρ := [some (.dic false []), some (.str ds), none]) rfl rfl ?_
  unfold b_are_parts
  have hk : (([] : List (D × D)).map (·.1)).all isKeyD = true := rfl
  have hi : itD (.dic false []) = some [] := rfl
  have ha : allD [.lst true []] = some (.bl true) := rfl
  have hn : lenD [.dic false []] = some (.int 0) := rfl
  (repeat' (first | with_reducible refine Eng.Stp.imp ?_ | ((with_reducible refine Eng.gWF ?_); (first | with_reducible refine wf_of (goesround) ?_)) | ((with_reducible refine Eng.gWO ?_); (first | ((with_reducible apply wo); (exact hi)) | ((with_reducible apply wo); (exact hn)) | ((with_reducible apply wo); (exact ha)))) | ((with_reducible refine Eng.gW ?_); (first | with_reducible refine Eng.w_lcx ?_)) | ((with_reducible refine Eng.gLcx ?_); (first | with_reducible refine Eng.lcx_nil ?_ | with_reducible refine Eng.lcx_cons ?_)) | with_reducible refine Eng.for_nil ?_ | with_reducible refine Eng.for_cons ?_ | walk_at "EV2"))
  first | exact ⟨rfl, rfl⟩ | rfl
section
variable {n : Nat} {ds : List Nat} {ps : D} {k : Int}
theorem rowover {r : List Nat} (hd : Low ds) (hl : ds.length ≤ 26) (h : Ov ds r) : g_is_row_over [.str ds, .str r] = .ok (.bl true) [some (.str ds), some (.str r)] := by
  refine wf_ok ?_
  refine wf_run (ρ := [some (.str ds), some (.str r)]) rfl rfl ?_
  unfold b_is_row_over
  have ha : ds.all (· < 128) = true := List.all_eq_true.mpr fun c hc => decide_eq_true (by have := hd c hc; omega)
  have hu : ds.length ≤ 5592405 := by omega
  have hs1 : ds.length + (ds.map up1).length ≤ 16777216 := by rw [List.length_map]; omega
  have h : ∀ c ∈ r, c ∈ ds ++ ds.map up1 := h
  (repeat' (first | with_reducible refine Eng.Stp.imp ?_ | ((with_reducible refine Eng.gWF ?_); (first | with_reducible refine wf_of (sof h) ?_)) | walk_at "EV2"))
  first | exact ⟨rfl, rfl⟩ | rfl
theorem stmt_do {r : List Nat} (hd : Low ds) (hl : ds.length ≤ 26) (h : Ov ds r) (hr : r.length ≤ 12) (hp : ps.frz = true) :
    r_is_statement (n + 1) [sDo r, .str ds, ps, .int k] = .ok (.bl true) [some (sDo r), some (.str ds), some ps, some (.int k)] := by
  refine wf_ok ?_
  show WF (runF _ _ _ (b_is_statement (r_is_block n) (r_is_statement n)) _) _ _
  refine wf_run (ρ := [some (sDo r), some (.str ds), some ps, some (.int k), none, none, none]) rfl rfl ?_
  unfold b_is_statement
  have hf : (sDo r).frz = true := rfl
  (repeat' (first | with_reducible refine Eng.Stp.imp ?_ | ((with_reducible refine Eng.gWF ?_); (first | with_reducible refine wf_of (ispair hf) ?_ | with_reducible refine wf_of (rowover hd hl h) ?_)) | walk_at "EV2"))
  exact ⟨congrArg D.bl (decide_eq_true (by omega)), rfl⟩
theorem in_loop : inD (.str [108, 111, 111, 112]) (.tup [.str [108, 111, 111, 112], .str [117, 110, 100, 111]]) = some (.bl true) := rfl
theorem in_undo : inD (.str [117, 110, 100, 111]) (.tup [.str [108, 111, 111, 112], .str [117, 110, 100, 111]]) = some (.bl true) := rfl
theorem stmt_loop {b : List D} (hb : (D.tup b).frz = true) (hp : ps.frz = true) (h : r_is_block n [.tup b, .str ds, ps, .int (k + 1)] = .ok (.bl true) [some (.tup b), some (.str ds), some ps, some (.int (k + 1))]) :
    r_is_statement (n + 1) [sLoop b, .str ds, ps, .int k] = .ok (.bl true) [some (sLoop b), some (.str ds), some ps, some (.int k)] := by
  refine wf_ok ?_
  show WF (runF _ _ _ (b_is_statement (r_is_block n) (r_is_statement n)) _) _ _
  refine wf_run (ρ := [some (sLoop b), some (.str ds), some ps, some (.int k), none, none, none]) rfl rfl ?_
  unfold b_is_statement
  have hf : (sLoop b).frz = true := tup2_frz rfl hb
  (repeat' (first | with_reducible refine Eng.Stp.imp ?_ | ((with_reducible refine Eng.gWF ?_); (first | with_reducible refine wf_of (ispair hf) ?_ | with_reducible refine wf_of (h) ?_)) | ((with_reducible refine Eng.gWO ?_); (first | ((with_reducible apply wo); (exact in_loop)))) | walk_at "EV2"))
  first | exact ⟨rfl, rfl⟩ | rfl
theorem stmt_undo {b : List D} (hb : (D.tup b).frz = true) (hp : ps.frz = true) (h : r_is_block n [.tup b, .str ds, ps, .int (k + 1)] = .ok (.bl true) [some (.tup b), some (.str ds), some ps, some (.int (k + 1))]) :
    r_is_statement (n + 1) [sUndo b, .str ds, ps, .int k] = .ok (.bl true) [some (sUndo b), some (.str ds), some ps, some (.int k)] := by
  refine wf_ok ?_
  show WF (runF _ _ _ (b_is_statement (r_is_block n) (r_is_statement n)) _) _ _
  refine wf_run (ρ := [some (sUndo b), some (.str ds), some ps, some (.int k), none, none, none]) rfl rfl ?_
  unfold b_is_statement
  have hf : (sUndo b).frz = true := tup2_frz rfl hb
  (repeat' (first | with_reducible refine Eng.Stp.imp ?_ | ((with_reducible refine Eng.gWF ?_); (first | with_reducible refine wf_of (ispair hf) ?_ | with_reducible refine wf_of (h) ?_)) | ((with_reducible refine Eng.gWO ?_); (first | ((with_reducible apply wo); (exact in_undo)))) | walk_at "EV2"))
  first | exact ⟨rfl, rfl⟩ | rfl
theorem block_ok {ss : List D} (hf : frzs ss = true) (hp : ps.frz = true) (hk : k ≤ 6) (hl : ss.length ≤ 8) (h : ∀ s ∈ ss, r_is_statement n [s, .str ds, ps, .int k] = .ok (.bl true) [some s, some (.str ds), some ps, some (.int k)]) :
    r_is_block (n + 1) [.tup ss, .str ds, ps, .int k] = .ok (.bl true) [some (.tup ss), some (.str ds), some ps, some (.int k)] := by
  refine wf_ok ?_
  show WF (runF _ _ _ (b_is_block (r_is_block n) (r_is_statement n)) _) _ _
  refine wf_run (ρ := [some (.tup ss), some (.str ds), some ps, some (.int k), none]) rfl rfl ?_
  unfold b_is_block
  have hz : (D.tup ss).frz = true := hf
  have hi : itD (.tup ss) = some ss := by show some (freezes ss) = _; rw [freezes_frz _ hf]
  have hm := frzs_mem hf
  have ha : allD [.lst true (ss.map fun _ => D.bl true)] = some (.bl true) := all_true ss
  (repeat' (first | with_reducible refine Eng.Stp.imp ?_ | ((with_reducible refine Eng.gWO ?_); (first | ((with_reducible apply wo); (exact hi)) | ((with_reducible apply wo); (exact ha)))) | ((with_reducible refine Eng.gBif ?_); (first | ((with_reducible refine Eng.bif_dT ?_ ?_); (omega)) | ((with_reducible refine Eng.bif_dF ?_ ?_); (omega)))) | (with_reducible refine w_lcm (fun _ => .bl true) ?_) | walk_at "EV2"))
  refine ⟨fun s hs => ?_, by omega, ?_⟩
  · have h1 := h s hs
    have h2 := hm s hs
    (repeat' (first | with_reducible refine Eng.Stp.imp ?_ | ((with_reducible refine Eng.gWF ?_); (first | with_reducible refine wf_of (h1) ?_)) | walk_at "EV2"))
    exact ⟨rfl, rfl⟩
  · (repeat' (first | with_reducible refine Eng.Stp.imp ?_ | ((with_reducible refine Eng.gWO ?_); (first | ((with_reducible apply wo); (exact ha)))) | walk_at "EV2"))
    first | exact ⟨rfl, rfl⟩ | rfl
end
end K19
namespace K19
open PySem PySem.Spec PyProof.Rows L2 Eng Words
theorem frz_do {r : List Nat} : (sDo r).frz = true := rfl
theorem frz_loop {b : List D} (h : (D.tup b).frz = true) : (sLoop b).frz = true := tup2_frz rfl h
theorem frz_undo {b : List D} (h : (D.tup b).frz = true) : (sUndo b).frz = true := tup2_frz rfl h
theorem frz1 {a : D} (ha : a.frz = true) : (D.tup [a]).frz = true := by
  show (a.frz && true) = true
  rw [ha]; rfl
theorem frz3 {a b c : D} (ha : a.frz = true) (hb : b.frz = true) (hc : c.frz = true) : (D.tup [a, b, c]).frz = true := by
  show (a.frz && (b.frz && (c.frz && true))) = true
  rw [ha, hb, hc]; rfl
theorem it_tup {ss : List D} (h : (D.tup ss).frz = true) : itD (.tup ss) = some ss := by show some (freezes ss) = _; rw [freezes_frz _ h]
theorem max2_ok {i j : Int} : max2D [.int i, .int j] = some (.int (max i j)) := by
  show some (D.int (if j > i then j else i)) = _
  congr 2
  split <;> omega
/-! sizes -/
def SzB (n : Nat) (d : D) (b : List D) (P A : Int) : Prop := ∃ p a : Int, r_Sizes_block n [d, .tup b] = .ok (.tup [.int p, .int a]) [some d, some (.tup b)] ∧ 0 ≤ p ∧ p ≤ P ∧ 0 ≤ a ∧ a ≤ A
def SzS (n : Nat) (d : D) (s : D) (P A : Int) : Prop := ∃ p a : Int, r_Sizes_statement n [d, s] = .ok (.tup [.int p, .int a]) [some d, some s] ∧ 0 ≤ p ∧ p ≤ P ∧ 0 ≤ a ∧ a ≤ A
def SzQ (ps : List (Option D)) (P A : Int) : D → List (Option D) → Prop := fun d ps' => ∃ p a : Int, d = .tup [.int p, .int a] ∧ ps' = ps ∧ 0 ≤ p ∧ p ≤ P ∧ 0 ≤ a ∧ a ≤ A
theorem sz_of {f : Fo} {ps : List (Option D)} {P A : Int} (h : WF f (fun _ _ => False) (SzQ ps P A)) : ∃ p a : Int, f = .ok (.tup [.int p, .int a]) ps ∧ 0 ≤ p ∧ p ≤ P ∧ 0 ≤ a ∧ a ≤ A := by
  unfold WF SzQ at h
  cases f with
  | ok d p' => obtain ⟨p, a, rfl, rfl, r⟩ := h; exact ⟨p, a, rfl, r⟩
  | exc e p' => exact h.elim
  | stuck => exact h.elim
section
variable {n : Nat} {fs : List (Str × D)} {P A : Int}
theorem szs_do {d : D} (hd : d.frz = true) {r : List Nat} (hr : r.length ≤ 11) : SzS (n + 1) d (sDo r) 10 11 := by
  refine sz_of ?_
  show WF (runF _ _ _ (b_Sizes_statement (r_Sizes_block n) (r_Sizes_statement n)) _) _ _
  refine wf_run (ρ := [some d, some (sDo r), none, none, none, none, none, none, none]) rfl rfl ?_
  unfold b_Sizes_statement
  have hf : (sDo r).frz = true := rfl
  (repeat' (first | with_reducible refine Eng.Stp.imp ?_ | ((with_reducible refine Eng.gWO ?_); (first | ((with_reducible apply wo); (exact max2_ok)))) | walk_at "EV2"))
  exact ⟨_, _, rfl, rfl, by omega, by omega, by omega, by omega⟩
theorem szs_loop {d : D} (hd : d.frz = true) (hi : isIns "Sizes" "block" d = true) {b : List D} (hb : (D.tup b).frz = true) (h : SzB n d b P A) : SzS (n + 1) d (sLoop b) (P + 1) (A + 2) := by
  refine sz_of ?_
  obtain ⟨p, a, h, h1, h2, h3, h4⟩ := h
  show WF (runF _ _ _ (b_Sizes_statement (r_Sizes_block n) (r_Sizes_statement n)) _) _ _
  refine wf_run (ρ := [some d, some (sLoop b), none, none, none, none, none, none, none]) rfl rfl ?_
  unfold b_Sizes_statement
  have hf := frz_loop hb
  (repeat' (first | with_reducible refine Eng.Stp.imp ?_ | ((with_reducible refine Eng.gWF ?_); (first | with_reducible refine wf_of (h) ?_)) | ((with_reducible refine And.intro hi ?_)) | walk_at "EV2"))
  exact ⟨_, _, rfl, rfl, by omega, by omega, by omega, by omega⟩
theorem szs_undo {d : D} (hd : d.frz = true) (hi : isIns "Sizes" "block" d = true) {b : List D} (hb : (D.tup b).frz = true) (h : SzB n d b P A) : SzS (n + 1) d (sUndo b) P A := by
  refine sz_of ?_
  obtain ⟨p, a, h, h1, h2, h3, h4⟩ := h
  show WF (runF _ _ _ (b_Sizes_statement (r_Sizes_block n) (r_Sizes_statement n)) _) _ _
  refine wf_run (ρ := [some d, some (sUndo b), none, none, none, none, none, none, none]) rfl rfl ?_
  unfold b_Sizes_statement
  have hf := frz_undo hb
  (repeat' (first | with_reducible refine Eng.Stp.imp ?_ | ((with_reducible refine Eng.gWF ?_); (first | with_reducible refine wf_of (h) ?_)) | ((with_reducible refine And.intro hi ?_)) | walk_at "EV2"))
  exact ⟨_, _, rfl, rfl, by omega, by omega, by omega, by omega⟩
theorem szb_1 {d0 d : D} (h0 : d0.freeze = d) (hd : d.frz = true) (hi : isIns "Sizes" "statement" d = true) {s : D} (hz_s : s.frz = true) {Ps As : Int} (h_s : SzS n d s Ps As) : ∃ p a : Int, r_Sizes_block (n + 1) [d0, .tup [s]] = .ok (.tup [.int p, .int a]) [some d, some (.tup [s])] ∧ 0 ≤ p ∧ p ≤ Ps ∧ 0 ≤ a ∧ a ≤ As := by
  refine sz_of ?_
  obtain ⟨ps, as, h_s, bs1, bs2, bs3, bs4⟩ := h_s
  show WF (runF _ _ _ (b_Sizes_block (r_Sizes_block n) (r_Sizes_statement n)) _) _ _
  refine wf_run (ρ := [some d0, some (.tup [s]), none, none, none]) rfl rfl ?_
  unfold b_Sizes_block
  have hf : (D.tup [s]).frz = true := frz1 hz_s
  have it := it_tup hf
  refine w_frz (get_0 (put_0 ?_))
  rw [h0]
  have it2 : itD (.lst false [.tup [.int ps, .int as]]) = some [.tup [.int ps, .int as]] := rfl
  have ln : lenD [.tup [s]] = some (.int 1) := rfl
  have s1 : ∀ x0 : Int, sumD [.lst true [.int x0]] = some (.int (x0)) := fun x0 => by show some (D.int (x0 + 0)) = _; congr 2; omega
  (repeat' (first | ((with_reducible refine w_frzl ?_); (with_reducible refine get_2 ?_); (refine ⟨_, _, rfl, rfl, ?_⟩); (with_reducible refine put_2 ?_)) | with_reducible refine Eng.Stp.imp ?_ | ((with_reducible refine Eng.gWF ?_); (first | with_reducible refine wf_of (h_s) ?_)) | ((with_reducible refine Eng.gWO ?_); (first | ((with_reducible apply wo); (exact it)) | ((with_reducible apply wo); (exact it2)) | ((with_reducible apply wo); (exact ln)) | ((with_reducible apply wo); (exact s1 _)))) | ((with_reducible refine Eng.gW ?_); (first | with_reducible refine Eng.w_lcx ?_)) | ((with_reducible refine Eng.gLcx ?_); (first | with_reducible refine Eng.lcx_nil ?_ | with_reducible refine Eng.lcx_cons ?_)) | with_reducible refine Eng.for_nil ?_ | with_reducible refine Eng.for_cons ?_ | ((with_reducible refine And.intro hi ?_)) | walk_at "EV2"))
  exact ⟨_, _, rfl, rfl, by omega, by omega, by omega, by omega⟩
theorem szb_2 {d0 d : D} (h0 : d0.freeze = d) (hd : d.frz = true) (hi : isIns "Sizes" "statement" d = true) {s : D} (hz_s : s.frz = true) {Ps As : Int} (h_s : SzS n d s Ps As) {u : D} (hz_u : u.frz = true) {Pu Au : Int} (h_u : SzS n d u Pu Au) : ∃ p a : Int, r_Sizes_block (n + 1) [d0, .tup [s, u]] = .ok (.tup [.int p, .int a]) [some d, some (.tup [s, u])] ∧ 0 ≤ p ∧ p ≤ 1 + (Ps + Pu) ∧ 0 ≤ a ∧ a ≤ As + Au := by
  refine sz_of ?_
  obtain ⟨ps, as, h_s, bs1, bs2, bs3, bs4⟩ := h_s
  obtain ⟨pu, au, h_u, bu1, bu2, bu3, bu4⟩ := h_u
  show WF (runF _ _ _ (b_Sizes_block (r_Sizes_block n) (r_Sizes_statement n)) _) _ _
  refine wf_run (ρ := [some d0, some (.tup [s, u]), none, none, none]) rfl rfl ?_
  unfold b_Sizes_block
  have hf : (D.tup [s, u]).frz = true := tup2_frz hz_s hz_u
  have it := it_tup hf
  refine w_frz (get_0 (put_0 ?_))
  rw [h0]
  have it2 : itD (.lst false [.tup [.int ps, .int as], .tup [.int pu, .int au]]) = some [.tup [.int ps, .int as], .tup [.int pu, .int au]] := rfl
  have ln : lenD [.tup [s, u]] = some (.int 2) := rfl
  have s1 : ∀ x0 x1 : Int, sumD [.lst true [.int x0, .int x1]] = some (.int (x0 + x1)) := fun x0 x1 => by show some (D.int (x0 + (x1 + 0))) = _; congr 2; omega
  (repeat' (first | ((with_reducible refine w_frzl ?_); (with_reducible refine get_2 ?_); (refine ⟨_, _, rfl, rfl, ?_⟩); (with_reducible refine put_2 ?_)) | with_reducible refine Eng.Stp.imp ?_ | ((with_reducible refine Eng.gWF ?_); (first | with_reducible refine wf_of (h_s) ?_ | with_reducible refine wf_of (h_u) ?_)) | ((with_reducible refine Eng.gWO ?_); (first | ((with_reducible apply wo); (exact it)) | ((with_reducible apply wo); (exact it2)) | ((with_reducible apply wo); (exact ln)) | ((with_reducible apply wo); (exact s1 _ _)))) | ((with_reducible refine Eng.gW ?_); (first | with_reducible refine Eng.w_lcx ?_)) | ((with_reducible refine Eng.gLcx ?_); (first | with_reducible refine Eng.lcx_nil ?_ | with_reducible refine Eng.lcx_cons ?_)) | with_reducible refine Eng.for_nil ?_ | with_reducible refine Eng.for_cons ?_ | ((with_reducible refine And.intro hi ?_)) | walk_at "EV2"))
  exact ⟨_, _, rfl, rfl, by omega, by omega, by omega, by omega⟩
theorem szb_3 {d0 d : D} (h0 : d0.freeze = d) (hd : d.frz = true) (hi : isIns "Sizes" "statement" d = true) {s : D} (hz_s : s.frz = true) {Ps As : Int} (h_s : SzS n d s Ps As) {u : D} (hz_u : u.frz = true) {Pu Au : Int} (h_u : SzS n d u Pu Au) {v : D} (hz_v : v.frz = true) {Pv Av : Int} (h_v : SzS n d v Pv Av) : ∃ p a : Int, r_Sizes_block (n + 1) [d0, .tup [s, u, v]] = .ok (.tup [.int p, .int a]) [some d, some (.tup [s, u, v])] ∧ 0 ≤ p ∧ p ≤ 2 + (Ps + Pu + Pv) ∧ 0 ≤ a ∧ a ≤ As + Au + Av := by
  refine sz_of ?_
  obtain ⟨ps, as, h_s, bs1, bs2, bs3, bs4⟩ := h_s
  obtain ⟨pu, au, h_u, bu1, bu2, bu3, bu4⟩ := h_u
  obtain ⟨pv, av, h_v, bv1, bv2, bv3, bv4⟩ := h_v
  show WF (runF _ _ _ (b_Sizes_block (r_Sizes_block n) (r_Sizes_statement n)) _) _ _
  refine wf_run (ρ := [some d0, some (.tup [s, u, v]), none, none, none]) rfl rfl ?_
  unfold b_Sizes_block
  have hf : (D.tup [s, u, v]).frz = true := frz3 hz_s hz_u hz_v
  have it := it_tup hf
  refine w_frz (get_0 (put_0 ?_))
  rw [h0]
  have it2 : itD (.lst false [.tup [.int ps, .int as], .tup [.int pu, .int au], .tup [.int pv, .int av]]) = some [.tup [.int ps, .int as], .tup [.int pu, .int au], .tup [.int pv, .int av]] := rfl
  have ln : lenD [.tup [s, u, v]] = some (.int 3) := rfl
  have s1 : ∀ x0 x1 x2 : Int, sumD [.lst true [.int x0, .int x1, .int x2]] = some (.int (x0 + x1 + x2)) := fun x0 x1 x2 => by show some (D.int (x0 + (x1 + (x2 + 0)))) = _; congr 2; omega
  (repeat' (first | ((with_reducible refine w_frzl ?_); (with_reducible refine get_2 ?_); (refine ⟨_, _, rfl, rfl, ?_⟩); (with_reducible refine put_2 ?_)) | with_reducible refine Eng.Stp.imp ?_ | ((with_reducible refine Eng.gWF ?_); (first | with_reducible refine wf_of (h_s) ?_ | with_reducible refine wf_of (h_u) ?_ | with_reducible refine wf_of (h_v) ?_)) | ((with_reducible refine Eng.gWO ?_); (first | ((with_reducible apply wo); (exact it)) | ((with_reducible apply wo); (exact it2)) | ((with_reducible apply wo); (exact ln)) | ((with_reducible apply wo); (exact s1 _ _ _)))) | ((with_reducible refine Eng.gW ?_); (first | with_reducible refine Eng.w_lcx ?_)) | ((with_reducible refine Eng.gLcx ?_); (first | with_reducible refine Eng.lcx_nil ?_ | with_reducible refine Eng.lcx_cons ?_)) | with_reducible refine Eng.for_nil ?_ | with_reducible refine Eng.for_cons ?_ | ((with_reducible refine And.intro hi ?_)) | walk_at "EV2"))
  exact ⟨_, _, rfl, rfl, by omega, by omega, by omega, by omega⟩
end
end K19
namespace K19
open PySem PySem.Spec PyProof.Rows L2 Eng Words
theorem isint {t : Int} : g_is_integer [.int t] = .ok (.bl true) [some (.int t)] := by
  refine wf_ok ?_
  refine wf_run (ρ := [some (.int t)]) rfl rfl ?_
  unfold b_is_integer
  (repeat' (first | with_reducible refine Eng.Stp.imp ?_ | walk_at "EV2"))
  first | exact ⟨rfl, rfl⟩ | rfl
abbrev pr (pl : D) (t : Int) : D := .tup [pl, .int t]
theorem pr_frz {pl : D} {t : Int} (h : pl.frz = true) : (pr pl t).frz = true := tup2_frz h rfl
section
variable {n : Nat} {ps : D} (hp : ps.frz = true)
/-! plans -/
abbrev BP (n : Nat) (ps : D) (ss ts : List D) : Prop := r_is_block_plan n [ps, .tup ss, .tup ts] = .ok (.bl true) [some ps, some (.tup ss), some (.tup ts)]
abbrev SP (n : Nat) (ps : D) (s t : D) : Prop := r_is_statement_plan n [ps, s, t] = .ok (.bl true) [some ps, some s, some t]
abbrev RP (n : Nat) (ps : D) (ss prs : List D) : Prop := r_are_rounds n [ps, .tup ss, .tup prs] = .ok (.bl true) [some ps, some (.tup ss), some (.tup prs)]
include hp
theorem sp_do {r : List Nat} : SP (n + 1) ps (sDo r) (.tup []) := by
  refine wf_ok ?_
  show WF (runF _ _ _ (b_is_statement_plan (r_is_block_plan n) (r_is_statement_plan n) (r_are_rounds n) (r_is_choice n)) _) _ _
  refine wf_run (ρ := [some ps, some (sDo r), some (.tup []), none, none]) rfl rfl ?_
  unfold b_is_statement_plan
  have hf : (sDo r).frz = true := rfl
  (repeat' (first | with_reducible refine Eng.Stp.imp ?_ | walk_at "EV2"))
  first | exact ⟨rfl, rfl⟩ | rfl
theorem sp_undo {b ts : List D} (hb : (D.tup b).frz = true) (ht : (D.tup ts).frz = true) (h : BP n ps b ts) : SP (n + 1) ps (sUndo b) (.tup ts) := by
  refine wf_ok ?_
  show WF (runF _ _ _ (b_is_statement_plan (r_is_block_plan n) (r_is_statement_plan n) (r_are_rounds n) (r_is_choice n)) _) _ _
  refine wf_run (ρ := [some ps, some (sUndo b), some (.tup ts), none, none]) rfl rfl ?_
  unfold b_is_statement_plan
  have hf := frz_undo hb
  (repeat' (first | with_reducible refine Eng.Stp.imp ?_ | ((with_reducible refine Eng.gWF ?_); (first | with_reducible refine wf_of (h) ?_)) | walk_at "EV2"))
  first | exact ⟨rfl, rfl⟩ | rfl
theorem sp_loop {b ts : List D} (hb : (D.tup b).frz = true) (ht : (D.tup ts).frz = true) (h : RP n ps b ts) : SP (n + 1) ps (sLoop b) (.tup ts) := by
  refine wf_ok ?_
  show WF (runF _ _ _ (b_is_statement_plan (r_is_block_plan n) (r_is_statement_plan n) (r_are_rounds n) (r_is_choice n)) _) _ _
  refine wf_run (ρ := [some ps, some (sLoop b), some (.tup ts), none, none]) rfl rfl ?_
  unfold b_is_statement_plan
  have hf := frz_loop hb
  (repeat' (first | with_reducible refine Eng.Stp.imp ?_ | ((with_reducible refine Eng.gWF ?_); (first | with_reducible refine wf_of (h) ?_)) | walk_at "EV2"))
  first | exact ⟨rfl, rfl⟩ | rfl
theorem rp_1 {b pl : List D} {t : Int} (hb : (D.tup b).frz = true) (hl : (D.tup pl).frz = true) (ht : 1 ≤ t) (h : BP n ps b pl) : RP (n + 1) ps b [pr (.tup pl) t] := by
  refine wf_ok ?_
  show WF (runF _ _ _ (b_are_rounds (r_is_block_plan n) (r_is_statement_plan n) (r_are_rounds n) (r_is_choice n)) _) _ _
  refine wf_run (ρ := [some ps, some (.tup b), some (.tup [pr (.tup pl) t]), none]) rfl rfl ?_
  unfold b_are_rounds
  have h1 := pr_frz (t := t) hl
  have hf := frz1 h1
  have it := it_tup hf
  have ip := ispair h1
  (repeat' (first | with_reducible refine Eng.Stp.imp ?_ | ((with_reducible refine Eng.gWF ?_); (first | with_reducible refine wf_of (h) ?_ | with_reducible refine wf_of (ip) ?_ | with_reducible refine wf_of (isint) ?_)) | ((with_reducible refine Eng.gWO ?_); (first | ((with_reducible apply wo); (exact it)))) | ((with_reducible refine Eng.gBif ?_); (first | ((with_reducible refine Eng.bif_dT ?_ ?_); (omega)) | ((with_reducible refine Eng.bif_dF ?_ ?_); (omega)))) | ((with_reducible refine Eng.gW ?_); (first | with_reducible refine Eng.w_lcx ?_)) | ((with_reducible refine Eng.gLcx ?_); (first | with_reducible refine Eng.lcx_nil ?_ | with_reducible refine Eng.lcx_cons ?_)) | with_reducible refine Eng.for_nil ?_ | with_reducible refine Eng.for_cons ?_ | walk_at "EV2"))
  first | exact ⟨rfl, rfl⟩ | rfl
theorem rp_2 {b pl : List D} {t u : Int} (hb : (D.tup b).frz = true) (hl : (D.tup pl).frz = true) (ht : 1 ≤ t) (hu : 1 ≤ u) (h : BP n ps b pl) : RP (n + 1) ps b [pr (.tup pl) t, pr (.tup pl) u] := by
  refine wf_ok ?_
  show WF (runF _ _ _ (b_are_rounds (r_is_block_plan n) (r_is_statement_plan n) (r_are_rounds n) (r_is_choice n)) _) _ _
  refine wf_run (ρ := [some ps, some (.tup b), some (.tup [pr (.tup pl) t, pr (.tup pl) u]), none]) rfl rfl ?_
  unfold b_are_rounds
  have h1 := pr_frz (t := t) hl
  have h2 := pr_frz (t := u) hl
  have hf := tup2_frz h1 h2
  have it := it_tup hf
  have ip := ispair h1
  have iq := ispair h2
  (repeat' (first | with_reducible refine Eng.Stp.imp ?_ | ((with_reducible refine Eng.gWF ?_); (first | with_reducible refine wf_of (h) ?_ | with_reducible refine wf_of (ip) ?_ | with_reducible refine wf_of (iq) ?_ | with_reducible refine wf_of (isint) ?_)) | ((with_reducible refine Eng.gWO ?_); (first | ((with_reducible apply wo); (exact it)))) | ((with_reducible refine Eng.gBif ?_); (first | ((with_reducible refine Eng.bif_dT ?_ ?_); (omega)) | ((with_reducible refine Eng.bif_dF ?_ ?_); (omega)))) | ((with_reducible refine Eng.gW ?_); (first | with_reducible refine Eng.w_lcx ?_)) | ((with_reducible refine Eng.gLcx ?_); (first | with_reducible refine Eng.lcx_nil ?_ | with_reducible refine Eng.lcx_cons ?_)) | with_reducible refine Eng.for_nil ?_ | with_reducible refine Eng.for_cons ?_ | walk_at "EV2"))
  first | exact ⟨rfl, rfl⟩ | rfl
theorem bp_1 {s t : D} (hs : s.frz = true) (ht : t.frz = true) (h : SP n ps s t) : BP (n + 1) ps [s] [t] := by
  refine wf_ok ?_
  show WF (runF _ _ _ (b_is_block_plan (r_is_block_plan n) (r_is_statement_plan n) (r_are_rounds n) (r_is_choice n)) _) _ _
  refine wf_run (ρ := [some ps, some (.tup [s]), some (.tup [t]), none, none]) rfl rfl ?_
  unfold b_is_block_plan
  have hf := frz1 hs
  have hg := frz1 ht
  have hz : frzs [s] = true := hf
  have hq : prs [s] = [.tup [.int 0, s]] := rfl
  have l1 : lenD [.tup [s]] = some (.int 1) := rfl
  have l2 : lenD [.tup [t]] = some (.int 1) := rfl
  have ha : allD [.lst true [.bl true]] = some (.bl true) := rfl
  (repeat' (first | with_reducible refine Eng.Stp.imp ?_ | ((with_reducible refine Eng.gWF ?_); (first | with_reducible refine wf_of (h) ?_)) | ((with_reducible refine Eng.gWO ?_); (first | ((with_reducible apply wo); (exact l1)) | ((with_reducible apply wo); (exact l2)) | ((with_reducible apply wo); (exact ha)))) | ((with_reducible refine Eng.gW ?_); (first | with_reducible refine Eng.w_lcx ?_)) | ((with_reducible refine Eng.gLcx ?_); (first | with_reducible refine Eng.lcx_nil ?_ | with_reducible refine Eng.lcx_cons ?_)) | with_reducible refine Eng.for_nil ?_ | with_reducible refine Eng.for_cons ?_ | ((with_reducible refine And.intro hz ?_)) | (rw [hq]) | walk_at "EV2"))
  first | exact ⟨rfl, rfl⟩ | rfl
theorem bp_2 {s t s2 t2 : D} (hs : s.frz = true) (ht : t.frz = true) (hs2 : s2.frz = true) (ht2 : t2.frz = true) (h : SP n ps s t) (h2 : SP n ps s2 t2) : BP (n + 1) ps [s, s2] [t, t2] := by
  refine wf_ok ?_
  show WF (runF _ _ _ (b_is_block_plan (r_is_block_plan n) (r_is_statement_plan n) (r_are_rounds n) (r_is_choice n)) _) _ _
  refine wf_run (ρ := [some ps, some (.tup [s, s2]), some (.tup [t, t2]), none, none]) rfl rfl ?_
  unfold b_is_block_plan
  have hf := tup2_frz hs hs2
  have hg := tup2_frz ht ht2
  have hz : frzs [s, s2] = true := hf
  have hq : prs [s, s2] = [.tup [.int 0, s], .tup [.int 1, s2]] := rfl
  have l1 : lenD [.tup [s, s2]] = some (.int 2) := rfl
  have l2 : lenD [.tup [t, t2]] = some (.int 2) := rfl
  have ha : allD [.lst true [.bl true, .bl true]] = some (.bl true) := rfl
  (repeat' (first | with_reducible refine Eng.Stp.imp ?_ | ((with_reducible refine Eng.gWF ?_); (first | with_reducible refine wf_of (h) ?_ | with_reducible refine wf_of (h2) ?_)) | ((with_reducible refine Eng.gWO ?_); (first | ((with_reducible apply wo); (exact l1)) | ((with_reducible apply wo); (exact l2)) | ((with_reducible apply wo); (exact ha)))) | ((with_reducible refine Eng.gW ?_); (first | with_reducible refine Eng.w_lcx ?_)) | ((with_reducible refine Eng.gLcx ?_); (first | with_reducible refine Eng.lcx_nil ?_ | with_reducible refine Eng.lcx_cons ?_)) | with_reducible refine Eng.for_nil ?_ | with_reducible refine Eng.for_cons ?_ | ((with_reducible refine And.intro hz ?_)) | (rw [hq]) | walk_at "EV2"))
  first | exact ⟨rfl, rfl⟩ | rfl
theorem bp_3 {s t s2 t2 s3 t3 : D} (hs : s.frz = true) (ht : t.frz = true) (hs2 : s2.frz = true) (ht2 : t2.frz = true) (hs3 : s3.frz = true) (ht3 : t3.frz = true) (h : SP n ps s t) (h2 : SP n ps s2 t2) (h3 : SP n ps s3 t3) : BP (n + 1) ps [s, s2, s3] [t, t2, t3] := by
  refine wf_ok ?_
  show WF (runF _ _ _ (b_is_block_plan (r_is_block_plan n) (r_is_statement_plan n) (r_are_rounds n) (r_is_choice n)) _) _ _
  refine wf_run (ρ := [some ps, some (.tup [s, s2, s3]), some (.tup [t, t2, t3]), none, none]) rfl rfl ?_
  unfold b_is_block_plan
  have hf := frz3 hs hs2 hs3
  have hg := frz3 ht ht2 ht3
  have hz : frzs [s, s2, s3] = true := hf
  have hq : prs [s, s2, s3] = [.tup [.int 0, s], .tup [.int 1, s2], .tup [.int 2, s3]] := rfl
  have l1 : lenD [.tup [s, s2, s3]] = some (.int 3) := rfl
  have l2 : lenD [.tup [t, t2, t3]] = some (.int 3) := rfl
  have ha : allD [.lst true [.bl true, .bl true, .bl true]] = some (.bl true) := rfl
  (repeat' (first | with_reducible refine Eng.Stp.imp ?_ | ((with_reducible refine Eng.gWF ?_); (first | with_reducible refine wf_of (h) ?_ | with_reducible refine wf_of (h2) ?_ | with_reducible refine wf_of (h3) ?_)) | ((with_reducible refine Eng.gWO ?_); (first | ((with_reducible apply wo); (exact l1)) | ((with_reducible apply wo); (exact l2)) | ((with_reducible apply wo); (exact ha)))) | ((with_reducible refine Eng.gW ?_); (first | with_reducible refine Eng.w_lcx ?_)) | ((with_reducible refine Eng.gLcx ?_); (first | with_reducible refine Eng.lcx_nil ?_ | with_reducible refine Eng.lcx_cons ?_)) | with_reducible refine Eng.for_nil ?_ | with_reducible refine Eng.for_cons ?_ | ((with_reducible refine And.intro hz ?_)) | (rw [hq]) | walk_at "EV2"))
  first | exact ⟨rfl, rfl⟩ | rfl
/-! letters -/
omit hp
abbrev LI (n : Nat) (ps : D) (ss ts : List D) (L : Int) : Prop := r_letters_in n [ps, .tup ss, .tup ts] = .ok (.int L) [some ps, some (.tup ss), some (.tup ts)]
include hp
theorem once_undo {b : List D} {t : D} (hb : (D.tup b).frz = true) (ht : t.frz = true) : g_once_within [ps, sUndo b, t] = .ok (.tup [.tup b, t]) [some ps, some (sUndo b), some t] := by
  refine wf_ok ?_
  refine wf_run (ρ := [some ps, some (sUndo b), some t, none, none]) rfl rfl ?_
  unfold b_once_within
  have hf := frz_undo hb
  (repeat' (first | with_reducible refine Eng.Stp.imp ?_ | walk_at "EV2"))
  first | exact ⟨rfl, rfl⟩ | rfl
theorem li_1 {r : List Nat} (hr : r.length ≤ 100) : LI (n + 1) ps [sDo r] [.tup []] r.length := by
  refine wf_ok ?_
  show WF (runF _ _ _ (b_letters_in (r_letters_in n)) _) _ _
  refine wf_run (ρ := [some ps, some (.tup [sDo r]), some (.tup [.tup []]), none, none, none, none, none, none]) rfl rfl ?_
  unfold b_letters_in
  have hz : frzs [sDo r] = true := rfl
  have hw : frzs [D.tup []] = true := rfl
  have hf : (D.tup [sDo r]).frz = true := rfl
  have hq : zps [sDo r] [.tup []] = [.tup [sDo r, .tup []]] := rfl
  (repeat' (first | with_reducible refine Eng.Stp.imp ?_ | ((with_reducible refine Eng.gW ?_); (first | with_reducible refine Eng.w_lcx ?_)) | ((with_reducible refine Eng.gLcx ?_); (first | with_reducible refine Eng.lcx_nil ?_ | with_reducible refine Eng.lcx_cons ?_)) | with_reducible refine Eng.for_nil ?_ | with_reducible refine Eng.for_cons ?_ | ((with_reducible refine And.intro hz ?_)) | ((with_reducible refine And.intro hw ?_)) | (rw [hq]) | walk_at "EV2"))
  exact ⟨congrArg D.int (by omega), rfl⟩
theorem li_2 {b pl : List D} {r : List Nat} {t u L : Int} (hb : (D.tup b).frz = true) (hl : (D.tup pl).frz = true) (h0 : 0 ≤ L) (h1 : L ≤ 10 ^ 60) (ht : 1 ≤ t) (hu : 1 ≤ u) (ht2 : t ≤ 10 ^ 50) (hu2 : u ≤ 10 ^ 50) (hr : r.length ≤ 100) (h : LI n ps b pl L) :
    LI (n + 1) ps [sLoop b, sDo r] [.tup [pr (.tup pl) t, pr (.tup pl) u], .tup []] (t * L + u * L + r.length) := by
  refine wf_ok ?_
  show WF (runF _ _ _ (b_letters_in (r_letters_in n)) _) _ _
  refine wf_run (ρ := [some ps, some (.tup [sLoop b, sDo r]), some (.tup [.tup [pr (.tup pl) t, pr (.tup pl) u], .tup []]), none, none, none, none, none, none]) rfl rfl ?_
  unfold b_letters_in
  have f0 := frz_loop hb
  have f1 : (D.tup [pr (.tup pl) t, pr (.tup pl) u]).frz = true := tup2_frz (pr_frz hl) (pr_frz hl)
  have hf : (D.tup [sLoop b, sDo r]).frz = true := tup2_frz f0 rfl
  have hg : (D.tup [.tup [pr (.tup pl) t, pr (.tup pl) u], .tup []]).frz = true := tup2_frz f1 rfl
  have hz : frzs [sLoop b, sDo r] = true := hf
  have hw : frzs [.tup [pr (.tup pl) t, pr (.tup pl) u], .tup []] = true := hg
  have it := it_tup f1
  have hq : zps [sLoop b, sDo r] [.tup [pr (.tup pl) t, pr (.tup pl) u], .tup []] = [.tup [sLoop b, .tup [pr (.tup pl) t, pr (.tup pl) u]], .tup [sDo r, .tup []]] := rfl
  have sm : ∀ x y : Int, sumD [.lst true [.int x, .int y]] = some (.int (x + y)) := fun x y => by show some (D.int (x + (y + 0))) = _; congr 2; omega
  (repeat' (first | with_reducible refine Eng.Stp.imp ?_ | ((with_reducible refine Eng.gWF ?_); (first | with_reducible refine wf_of (h) ?_)) | ((with_reducible refine Eng.gWO ?_); (first | ((with_reducible apply wo); (exact it)) | ((with_reducible refine wo_mulX ?_ ?_ ?_); (omega); (omega)) | ((with_reducible apply wo); (exact sm _ _)))) | ((with_reducible refine Eng.gW ?_); (first | with_reducible refine Eng.w_lcx ?_)) | ((with_reducible refine Eng.gLcx ?_); (first | with_reducible refine Eng.lcx_nil ?_ | with_reducible refine Eng.lcx_cons ?_)) | with_reducible refine Eng.for_nil ?_ | with_reducible refine Eng.for_cons ?_ | ((with_reducible refine And.intro hz ?_)) | ((with_reducible refine And.intro hw ?_)) | (rw [hq]) | walk_at "EV2"))
  exact ⟨congrArg D.int (by omega), rfl⟩
theorem li_3 {b pl : List D} {r q : List Nat} {t L : Int} (hb : (D.tup b).frz = true) (hl : (D.tup pl).frz = true) (h0 : 0 ≤ L) (h1 : L ≤ 10 ^ 60) (ht : 1 ≤ t) (ht2 : t ≤ 10 ^ 50) (hr : r.length ≤ 100) (hq : q.length ≤ 100) (h : LI n ps b pl L) :
    LI (n + 1) ps [sDo r, sLoop b, sDo q] [.tup [], .tup [pr (.tup pl) t], .tup []] (r.length + t * L + q.length) := by
  refine wf_ok ?_
  show WF (runF _ _ _ (b_letters_in (r_letters_in n)) _) _ _
  refine wf_run (ρ := [some ps, some (.tup [sDo r, sLoop b, sDo q]), some (.tup [.tup [], .tup [pr (.tup pl) t], .tup []]), none, none, none, none, none, none]) rfl rfl ?_
  unfold b_letters_in
  have f0 := frz_loop hb
  have f1 : (D.tup [pr (.tup pl) t]).frz = true := frz1 (pr_frz hl)
  have hf : (D.tup [sDo r, sLoop b, sDo q]).frz = true := frz3 rfl f0 rfl
  have hg : (D.tup [.tup [], .tup [pr (.tup pl) t], .tup []]).frz = true := frz3 rfl f1 rfl
  have hz : frzs [sDo r, sLoop b, sDo q] = true := hf
  have hw : frzs [.tup [], .tup [pr (.tup pl) t], .tup []] = true := hg
  have it := it_tup f1
  have hq : zps [sDo r, sLoop b, sDo q] [.tup [], .tup [pr (.tup pl) t], .tup []] = [.tup [sDo r, .tup []], .tup [sLoop b, .tup [pr (.tup pl) t]], .tup [sDo q, .tup []]] := rfl
  have sm : ∀ x : Int, sumD [.lst true [.int x]] = some (.int x) := fun x => by show some (D.int (x + 0)) = _; congr 2; omega
  (repeat' (first | with_reducible refine Eng.Stp.imp ?_ | ((with_reducible refine Eng.gWF ?_); (first | with_reducible refine wf_of (h) ?_)) | ((with_reducible refine Eng.gWO ?_); (first | ((with_reducible apply wo); (exact it)) | ((with_reducible refine wo_mulX ?_ ?_ ?_); (omega); (omega)) | ((with_reducible apply wo); (exact sm _)))) | ((with_reducible refine Eng.gW ?_); (first | with_reducible refine Eng.w_lcx ?_)) | ((with_reducible refine Eng.gLcx ?_); (first | with_reducible refine Eng.lcx_nil ?_ | with_reducible refine Eng.lcx_cons ?_)) | with_reducible refine Eng.for_nil ?_ | with_reducible refine Eng.for_cons ?_ | ((with_reducible refine And.intro hz ?_)) | ((with_reducible refine And.intro hw ?_)) | (rw [hq]) | walk_at "EV2"))
  exact ⟨congrArg D.int (by omega), rfl⟩
theorem li_4 {b pl : List D} {L : Int} (hb : (D.tup b).frz = true) (hl : (D.tup pl).frz = true) (h : LI n ps b pl L) : LI (n + 1) ps [sUndo b] [.tup pl] L := by
  refine wf_ok ?_
  show WF (runF _ _ _ (b_letters_in (r_letters_in n)) _) _ _
  refine wf_run (ρ := [some ps, some (.tup [sUndo b]), some (.tup [.tup pl]), none, none, none, none, none, none]) rfl rfl ?_
  unfold b_letters_in
  have f0 := frz_undo hb
  have hf : (D.tup [sUndo b]).frz = true := frz1 f0
  have hg : (D.tup [.tup pl]).frz = true := frz1 hl
  have hz : frzs [sUndo b] = true := hf
  have hw : frzs [.tup pl] = true := hg
  have hq : zps [sUndo b] [.tup pl] = [.tup [sUndo b, .tup pl]] := rfl
  have hn2 : (D.tup [.tup b, .tup pl]).frz = true := tup2_frz hb hl
  have ow := once_undo hp hb hl
  (repeat' (first | with_reducible refine Eng.Stp.imp ?_ | ((with_reducible refine Eng.gWF ?_); (first | with_reducible refine wf_of (ow) ?_ | with_reducible refine wf_of (h) ?_)) | ((with_reducible refine Eng.gW ?_); (first | with_reducible refine Eng.w_lcx ?_)) | ((with_reducible refine Eng.gLcx ?_); (first | with_reducible refine Eng.lcx_nil ?_ | with_reducible refine Eng.lcx_cons ?_)) | with_reducible refine Eng.for_nil ?_ | with_reducible refine Eng.for_cons ?_ | ((with_reducible refine And.intro hz ?_)) | ((with_reducible refine And.intro hw ?_)) | (rw [hq]) | walk_at "EV2"))
  exact ⟨congrArg D.int (by omega), rfl⟩
end
end K19
namespace K19
open PySem PySem.Spec PyProof.Rows L2 Eng Words
theorem join3 {a b c : List Nat} (h : a.length + b.length + c.length ≤ 100000) {o : Bool} : joinM [] [.lst o [.str a, .str b, .str c]] = some (.str (a ++ (b ++ c))) := by
  show (if ([a, b, c].map List.length).sum + [a, b, c].length * ([] : List Nat).length ≤ 16777216 then some (D.str (joinL [] [a, b, c])) else none) = _
  rw [if_pos (by simp; omega), join_one]
  simp
theorem join1 {a : List Nat} (h : a.length ≤ 100000) {o : Bool} : joinM [] [.lst o [.str a]] = some (.str a) := by
  show (if ([a].map List.length).sum + [a].length * ([] : List Nat).length ≤ 16777216 then some (D.str (joinL [] [a])) else none) = _
  rw [if_pos (by simp; omega), join_one]
  simp
theorem ends_le {w : List Nat} (hL : Let w) (hl : w.length ≤ 1000000) : 2 * endc w ≤ w.length := (bent_ok hL hl).2.1.1
theorem rep_let {w v : List Nat} {t : Nat} (hL : Let w) (h : rep w t = some v) : Let v := fun c hc => hL c (rep_mem h c hc)
section
variable {n : Nat} {ps : D} (hp : ps.frz = true)
abbrev NI (n : Nat) (ps : D) (ss ts : List D) (o : Option (List Nat)) : Prop := NR (r_net_in n [ps, .tup ss, .tup ts]) o [some ps, some (.tup ss), some (.tup ts)]
/-- what a run's net is, as it may be passed on -/
def Fit (o : Option (List Nat)) : Prop := ∀ w, o = some w → Red w ∧ Let w ∧ w.length ≤ 5000
theorem fit_due {ps : List (Option (List Nat))} (h : ∀ w, some w ∈ ps → Let w) : Fit (due ps) := fun w hw => by
  obtain ⟨rfl, hl⟩ := due_some hw
  refine ⟨red_nf _, let_nf fun c hc => ?_, hl⟩
  obtain ⟨r, hr, hc⟩ := List.mem_flatten.mp hc
  obtain ⟨o, ho, e⟩ := List.mem_filterMap.mp hr
  cases o with
  | none => cases e
  | some x => cases e; exact h _ ho c hc
include hp
theorem ni_1 {r : List Nat} (hL : Let r) (hr : r.length ≤ 100) : NI (n + 1) ps [sDo r] [.tup []] (some (nf r)) := by
  refine nr_of ?_
  show WF (runF _ _ _ (b_net_in (r_net_in n)) _) _ _
  refine wf_run (ρ := [some ps, some (.tup [sDo r]), some (.tup [.tup []]), none, none, none, none, none, none, none, none]) rfl rfl ?_
  unfold b_net_in
  have hz : frzs [sDo r] = true := rfl
  have hw : frzs [D.tup []] = true := rfl
  have hf : (D.tup [sDo r]).frz = true := rfl
  have hq : zps [sDo r] [.tup []] = [.tup [sDo r, .tup []]] := rfl
  have hn := net_pk hL (by omega)
  have hl := nf_len r
  have hj := join1 (a := r) (by omega) (o := true)
  (repeat' (first | with_reducible refine Eng.Stp.imp ?_ | ((with_reducible refine Eng.gWF ?_); (first | with_reducible refine wf_of (hn) ?_)) | ((with_reducible refine Eng.gWO ?_); (first | ((with_reducible apply wo); (exact hj)))) | ((with_reducible refine Eng.gBif ?_); (first | ((with_reducible refine Eng.bif_dT ?_ ?_); (omega)) | ((with_reducible refine Eng.bif_dF ?_ ?_); (omega)))) | ((with_reducible refine Eng.gW ?_); (first | with_reducible refine Eng.w_lcx ?_)) | ((with_reducible refine Eng.gLcx ?_); (first | with_reducible refine Eng.lcx_nil ?_ | with_reducible refine Eng.lcx_cons ?_)) | with_reducible refine Eng.for_nil ?_ | with_reducible refine Eng.for_cons ?_ | ((with_reducible refine And.intro hz ?_)) | ((with_reducible refine And.intro hw ?_)) | (rw [hq]) | walk_at "EV2"))
  exact ⟨_, rfl, rfl, rfl⟩
theorem ni_2 {b pl : List D} {r w : List Nat} {t u : Int} (hb : (D.tup b).frz = true) (hl : (D.tup pl).frz = true) (hL : Let w) (hR : Red w) (hwl : w.length ≤ 5000) (hLr : Let r) (ht : 1 ≤ t) (hu : 1 ≤ u) (ht2 : t ≤ 10 ^ 50) (hu2 : u ≤ 10 ^ 50) (hr : r.length ≤ 100) (h : NI n ps b pl (some w)) :
    NI (n + 1) ps [sLoop b, sDo r] [.tup [pr (.tup pl) t, pr (.tup pl) u], .tup []] (due [rep w t.toNat, rep w u.toNat, some r]) := by
  refine nr_of ?_
  show WF (runF _ _ _ (b_net_in (r_net_in n)) _) _ _
  refine wf_run (ρ := [some ps, some (.tup [sLoop b, sDo r]), some (.tup [.tup [pr (.tup pl) t, pr (.tup pl) u], .tup []]), none, none, none, none, none, none, none, none]) rfl rfl ?_
  unfold b_net_in
  have f0 := frz_loop hb
  have f1 : (D.tup [pr (.tup pl) t, pr (.tup pl) u]).frz = true := tup2_frz (pr_frz hl) (pr_frz hl)
  have hf : (D.tup [sLoop b, sDo r]).frz = true := tup2_frz f0 rfl
  have hg : (D.tup [.tup [pr (.tup pl) t, pr (.tup pl) u], .tup []]).frz = true := tup2_frz f1 rfl
  have hz : frzs [sLoop b, sDo r] = true := hf
  have hw : frzs [.tup [pr (.tup pl) t, pr (.tup pl) u], .tup []] = true := hg
  have it := it_tup f1
  have hq : zps [sLoop b, sDo r] [.tup [pr (.tup pl) t, pr (.tup pl) u], .tup []] = [.tup [sLoop b, .tup [pr (.tup pl) t, pr (.tup pl) u]], .tup [sDo r, .tup []]] := rfl
  have h : r_net_in n [ps, .tup b, .tup pl] = .ok (.str w) [some ps, some (.tup b), some (.tup pl)] := h
  have hk := ends_le hL (by omega)
  have rt := rep_ok hR hL hwl ht ht2
  have ru := rep_ok hR hL hwl hu hu2
  cases e1 : rep w t.toNat with
  | none =>
    rw [e1] at rt
    have rt : g_repeated [.str w, .int t] = .exc tl [some (.str w), some (.int t)] := rt
    (repeat' (first | with_reducible refine Eng.Stp.imp ?_ | ((with_reducible refine Eng.gWF ?_); (first | with_reducible refine wf_of (h) ?_ | ((with_reducible refine wf_exc rt ?_)))) | ((with_reducible refine Eng.gWO ?_); (first | ((with_reducible apply wo); (exact it)))) | ((with_reducible refine Eng.gW ?_); (first | with_reducible refine Eng.w_lcx ?_)) | ((with_reducible refine Eng.gLcx ?_); (first | with_reducible refine Eng.lcx_nil ?_ | with_reducible refine Eng.lcx_cons ?_)) | with_reducible refine Eng.for_nil ?_ | with_reducible refine Eng.for_cons ?_ | ((with_reducible refine And.intro hz ?_)) | ((with_reducible refine And.intro hw ?_)) | (rw [hq]) | walk_at "EV2"))
    refine ⟨?_, rfl, rfl⟩
    unfold due; simp
  | some x =>
    rw [e1] at rt
    have rt : g_repeated [.str w, .int t] = .ok (.str x) [some (.str w), some (.int t)] := rt
    cases e2 : rep w u.toNat with
    | none =>
      rw [e2] at ru
      have ru : g_repeated [.str w, .int u] = .exc tl [some (.str w), some (.int u)] := ru
      by_cases tu : t = u
      · subst tu; rw [e1] at e2; cases e2
      (repeat' (first | with_reducible refine Eng.Stp.imp ?_ | ((with_reducible refine Eng.gWF ?_); (first | with_reducible refine wf_of (h) ?_ | with_reducible refine wf_of (rt) ?_ | ((with_reducible refine wf_exc ru ?_)))) | ((with_reducible refine Eng.gWO ?_); (first | ((with_reducible apply wo); (exact it)))) | ((with_reducible refine Eng.gW ?_); (first | with_reducible refine Eng.w_lcx ?_)) | ((with_reducible refine Eng.gLcx ?_); (first | with_reducible refine Eng.lcx_nil ?_ | with_reducible refine Eng.lcx_cons ?_)) | with_reducible refine Eng.for_nil ?_ | with_reducible refine Eng.for_cons ?_ | ((with_reducible refine And.intro hz ?_)) | ((with_reducible refine And.intro hw ?_)) | (rw [hq]) | walk_at "EV2"))
      refine ⟨?_, rfl, rfl⟩
      unfold due; simp
    | some y =>
      rw [e2] at ru
      have ru : g_repeated [.str w, .int u] = .ok (.str y) [some (.str w), some (.int u)] := ru
      have lx := rep_len hk e1
      have ly := rep_len hk e2
      have Lx := rep_let hL e1
      have Ly := rep_let hL e2
      have hj := join3 (a := x) (b := y) (c := r) (by omega) (o := true)
      have hn := net_pk (let_app Lx (let_app Ly hLr)) (by simp only [List.length_append]; omega)
      have hl := nf_len (x ++ (y ++ r))
      simp only [List.length_append] at hl
      have e : due [some x, some y, some r] = if (nf (x ++ (y ++ r))).length ≤ 5000 then some (nf (x ++ (y ++ r))) else none := by
        unfold due
        rw [if_neg (by simp)]
        simp
      rw [e]
      (repeat' (first | with_reducible refine Eng.Stp.imp ?_ | ((with_reducible refine Eng.gWF ?_); (first | with_reducible refine wf_of (h) ?_ | with_reducible refine wf_of (rt) ?_ | with_reducible refine wf_of (ru) ?_ | with_reducible refine wf_of (hn) ?_)) | ((with_reducible refine Eng.gWO ?_); (first | ((with_reducible apply wo); (exact it)) | ((with_reducible apply wo); (exact hj)))) | ((with_reducible refine Eng.gW ?_); (first | with_reducible refine Eng.w_lcx ?_)) | ((with_reducible refine Eng.gLcx ?_); (first | with_reducible refine Eng.lcx_nil ?_ | with_reducible refine Eng.lcx_cons ?_)) | with_reducible refine Eng.for_nil ?_ | with_reducible refine Eng.for_cons ?_ | ((with_reducible refine And.intro hz ?_)) | ((with_reducible refine And.intro hw ?_)) | (rw [hq]) | walk_at "EV2"))
      · exact ⟨if_neg (by omega), rfl, rfl⟩
      · exact ⟨_, if_pos (by omega), rfl, rfl⟩
theorem ni_3 {b pl : List D} {r q : List Nat} {o : Option (List Nat)} {t : Int} (hb : (D.tup b).frz = true) (hl : (D.tup pl).frz = true) (ho : Fit o) (hLr : Let r) (hLq : Let q) (ht : 1 ≤ t) (ht2 : t ≤ 10 ^ 50) (hr : r.length ≤ 100) (hq : q.length ≤ 100) (h : NI n ps b pl o) :
    NI (n + 1) ps [sDo r, sLoop b, sDo q] [.tup [], .tup [pr (.tup pl) t], .tup []] (due [some r, o.bind (fun w => rep w t.toNat), some q]) := by
  refine nr_of ?_
  show WF (runF _ _ _ (b_net_in (r_net_in n)) _) _ _
  refine wf_run (ρ := [some ps, some (.tup [sDo r, sLoop b, sDo q]), some (.tup [.tup [], .tup [pr (.tup pl) t], .tup []]), none, none, none, none, none, none, none, none]) rfl rfl ?_
  unfold b_net_in
  have f0 := frz_loop hb
  have f1 : (D.tup [pr (.tup pl) t]).frz = true := frz1 (pr_frz hl)
  have hf : (D.tup [sDo r, sLoop b, sDo q]).frz = true := frz3 rfl f0 rfl
  have hg : (D.tup [.tup [], .tup [pr (.tup pl) t], .tup []]).frz = true := frz3 rfl f1 rfl
  have hz : frzs [sDo r, sLoop b, sDo q] = true := hf
  have hw : frzs [.tup [], .tup [pr (.tup pl) t], .tup []] = true := hg
  have it := it_tup f1
  have hq0 : zps [sDo r, sLoop b, sDo q] [.tup [], .tup [pr (.tup pl) t], .tup []] = [.tup [sDo r, .tup []], .tup [sLoop b, .tup [pr (.tup pl) t]], .tup [sDo q, .tup []]] := rfl
  cases o with
  | none =>
    have h : r_net_in n [ps, .tup b, .tup pl] = .exc tl [some ps, some (.tup b), some (.tup pl)] := h
    (repeat' (first | with_reducible refine Eng.Stp.imp ?_ | ((with_reducible refine Eng.gWF ?_); (first | ((with_reducible refine wf_exc h ?_)))) | ((with_reducible refine Eng.gWO ?_); (first | ((with_reducible apply wo); (exact it)))) | ((with_reducible refine Eng.gW ?_); (first | with_reducible refine Eng.w_lcx ?_)) | ((with_reducible refine Eng.gLcx ?_); (first | with_reducible refine Eng.lcx_nil ?_ | with_reducible refine Eng.lcx_cons ?_)) | with_reducible refine Eng.for_nil ?_ | with_reducible refine Eng.for_cons ?_ | ((with_reducible refine And.intro hz ?_)) | ((with_reducible refine And.intro hw ?_)) | (rw [hq0]) | walk_at "EV2"))
    refine ⟨?_, rfl, rfl⟩
    unfold due; simp
  | some w =>
    obtain ⟨hR, hL, hwl⟩ := ho w rfl
    have h : r_net_in n [ps, .tup b, .tup pl] = .ok (.str w) [some ps, some (.tup b), some (.tup pl)] := h
    have hk := ends_le hL (by omega)
    have rt := rep_ok hR hL hwl ht ht2
    have eb : (some w).bind (fun w => rep w t.toNat) = rep w t.toNat := rfl
    rw [eb]
    cases e1 : rep w t.toNat with
    | none =>
      rw [e1] at rt
      have rt : g_repeated [.str w, .int t] = .exc tl [some (.str w), some (.int t)] := rt
      (repeat' (first | with_reducible refine Eng.Stp.imp ?_ | ((with_reducible refine Eng.gWF ?_); (first | with_reducible refine wf_of (h) ?_ | ((with_reducible refine wf_exc rt ?_)))) | ((with_reducible refine Eng.gWO ?_); (first | ((with_reducible apply wo); (exact it)))) | ((with_reducible refine Eng.gW ?_); (first | with_reducible refine Eng.w_lcx ?_)) | ((with_reducible refine Eng.gLcx ?_); (first | with_reducible refine Eng.lcx_nil ?_ | with_reducible refine Eng.lcx_cons ?_)) | with_reducible refine Eng.for_nil ?_ | with_reducible refine Eng.for_cons ?_ | ((with_reducible refine And.intro hz ?_)) | ((with_reducible refine And.intro hw ?_)) | (rw [hq0]) | walk_at "EV2"))
      refine ⟨?_, rfl, rfl⟩
      unfold due; simp
    | some x =>
      rw [e1] at rt
      have rt : g_repeated [.str w, .int t] = .ok (.str x) [some (.str w), some (.int t)] := rt
      have lx := rep_len hk e1
      have Lx := rep_let hL e1
      have hj := join3 (a := r) (b := x) (c := q) (by omega) (o := true)
      have hn := net_pk (let_app hLr (let_app Lx hLq)) (by simp only [List.length_append]; omega)
      have hl := nf_len (r ++ (x ++ q))
      simp only [List.length_append] at hl
      have e : due [some r, some x, some q] = if (nf (r ++ (x ++ q))).length ≤ 5000 then some (nf (r ++ (x ++ q))) else none := by
        unfold due
        rw [if_neg (by simp)]
        simp
      rw [e]
      (repeat' (first | with_reducible refine Eng.Stp.imp ?_ | ((with_reducible refine Eng.gWF ?_); (first | with_reducible refine wf_of (h) ?_ | with_reducible refine wf_of (rt) ?_ | with_reducible refine wf_of (hn) ?_)) | ((with_reducible refine Eng.gWO ?_); (first | ((with_reducible apply wo); (exact it)) | ((with_reducible apply wo); (exact hj)))) | ((with_reducible refine Eng.gW ?_); (first | with_reducible refine Eng.w_lcx ?_)) | ((with_reducible refine Eng.gLcx ?_); (first | with_reducible refine Eng.lcx_nil ?_ | with_reducible refine Eng.lcx_cons ?_)) | with_reducible refine Eng.for_nil ?_ | with_reducible refine Eng.for_cons ?_ | ((with_reducible refine And.intro hz ?_)) | ((with_reducible refine And.intro hw ?_)) | (rw [hq0]) | walk_at "EV2"))
      · exact ⟨if_neg (by omega), rfl, rfl⟩
      · exact ⟨_, if_pos (by omega), rfl, rfl⟩
theorem ni_4 {b pl : List D} {o : Option (List Nat)} (hb : (D.tup b).frz = true) (hl : (D.tup pl).frz = true) (ho : Fit o) (h : NI n ps b pl o) : NI (n + 1) ps [sUndo b] [.tup pl] (o.map back) := by
  refine nr_of ?_
  show WF (runF _ _ _ (b_net_in (r_net_in n)) _) _ _
  refine wf_run (ρ := [some ps, some (.tup [sUndo b]), some (.tup [.tup pl]), none, none, none, none, none, none, none, none]) rfl rfl ?_
  unfold b_net_in
  have f0 := frz_undo hb
  have hf : (D.tup [sUndo b]).frz = true := frz1 f0
  have hg : (D.tup [.tup pl]).frz = true := frz1 hl
  have hz : frzs [sUndo b] = true := hf
  have hw : frzs [.tup pl] = true := hg
  have hq : zps [sUndo b] [.tup pl] = [.tup [sUndo b, .tup pl]] := rfl
  have hn2 : (D.tup [.tup b, .tup pl]).frz = true := tup2_frz hb hl
  have ow := once_undo hp hb hl
  cases o with
  | none =>
    have h : r_net_in n [ps, .tup b, .tup pl] = .exc tl [some ps, some (.tup b), some (.tup pl)] := h
    (repeat' (first | with_reducible refine Eng.Stp.imp ?_ | ((with_reducible refine Eng.gWF ?_); (first | with_reducible refine wf_of (ow) ?_ | ((with_reducible refine wf_exc h ?_)))) | ((with_reducible refine Eng.gW ?_); (first | with_reducible refine Eng.w_lcx ?_)) | ((with_reducible refine Eng.gLcx ?_); (first | with_reducible refine Eng.lcx_nil ?_ | with_reducible refine Eng.lcx_cons ?_)) | with_reducible refine Eng.for_nil ?_ | with_reducible refine Eng.for_cons ?_ | ((with_reducible refine And.intro hz ?_)) | ((with_reducible refine And.intro hw ?_)) | (rw [hq]) | walk_at "EV2"))
    exact ⟨rfl, rfl, rfl⟩
  | some w =>
    obtain ⟨hR, hL, hwl⟩ := ho w rfl
    have h : r_net_in n [ps, .tup b, .tup pl] = .ok (.str w) [some ps, some (.tup b), some (.tup pl)] := h
    have htn := turned_pk hL (by omega)
    have bl := back_len w
    have hj := join1 (a := back w) (by omega) (o := true)
    have hn := net_pk (let_back hL) (by omega)
    rw [nf_of_red (red_back hR)] at hn
    (repeat' (first | with_reducible refine Eng.Stp.imp ?_ | ((with_reducible refine Eng.gWF ?_); (first | with_reducible refine wf_of (ow) ?_ | with_reducible refine wf_of (h) ?_ | with_reducible refine wf_of (htn) ?_ | with_reducible refine wf_of (hn) ?_)) | ((with_reducible refine Eng.gWO ?_); (first | ((with_reducible apply wo); (exact hj)))) | ((with_reducible refine Eng.gBif ?_); (first | ((with_reducible refine Eng.bif_dT ?_ ?_); (omega)) | ((with_reducible refine Eng.bif_dF ?_ ?_); (omega)))) | ((with_reducible refine Eng.gW ?_); (first | with_reducible refine Eng.w_lcx ?_)) | ((with_reducible refine Eng.gLcx ?_); (first | with_reducible refine Eng.lcx_nil ?_ | with_reducible refine Eng.lcx_cons ?_)) | with_reducible refine Eng.for_nil ?_ | with_reducible refine Eng.for_cons ?_ | ((with_reducible refine And.intro hz ?_)) | ((with_reducible refine And.intro hw ?_)) | (rw [hq]) | walk_at "EV2"))
    exact ⟨_, rfl, rfl, rfl⟩
end
end K19
namespace K19
open PySem PySem.Spec PyProof.Rows L2 Eng Words
abbrev sz0 : D := .ins true "Sizes" [("parts_asked", .dic false []), ("known", .dic true [])]
abbrev sz1 : D := .ins false "Sizes" [("parts_asked", .dic false []), ("known", .dic false [])]
abbrev prF (ds : List Nat) (body : List D) : List (Str × D) := [("deeds", .str ds), ("body", .tup body), ("kept_deeds", .str ds), ("kept_parts", .dic true []), ("kept_body", .tup body), ("kept_flow", .non)]
abbrev prD (ds : List Nat) (body : List D) : D := .ins false "Program" [("deeds", .str ds), ("body", .tup body), ("kept_deeds", .str ds), ("kept_parts", .dic false []), ("kept_body", .tup body), ("kept_flow", .non)]
theorem szinit : g_Sizes_init [.ins true "Sizes" [], .dic false []] = .ok .non [some sz0, some (.dic false [])] := by
  refine wf_ok ?_
  refine wf_run (ρ := [some (.ins true "Sizes" []), some (.dic false [])]) rfl rfl ?_
  unfold b_Sizes_init
  (repeat' (first | with_reducible refine Eng.Stp.imp ?_ | walk_at "EV2"))
  first | exact ⟨rfl, rfl⟩ | rfl
theorem prog_ok {ds : List Nat} {body : List D} (hd : Low ds) (h0 : 1 ≤ ds.length) (h1 : ds.length ≤ 4) (hP : ds.Pairwise (· < ·)) (hf : (D.tup body).frz = true)
    (hb : g_is_block [.tup body, .str ds, .dic false [], .int 1] = .ok (.bl true) [some (.tup body), some (.str ds), some (.dic false []), some (.int 1)])
    (hs : ∃ p a : Int, g_Sizes_block [sz0, .tup body] = .ok (.tup [.int p, .int a]) [some sz1, some (.tup body)] ∧ 0 ≤ p ∧ p ≤ 58 ∧ 0 ≤ a ∧ a ≤ 200) :
    g_Program_init [.ins true "Program" [], .str ds, .dic true [], .tup body] = .ok .non [some (.ins true "Program" (prF ds body)), some (.str ds), some (.dic false []), some (.tup body)] := by
  obtain ⟨p, a, hs, hp0, hp1, ha0, ha1⟩ := hs
  refine wf_ok ?_
  refine wf_run (ρ := [some (.ins true "Program" []), some (.str ds), some (.dic true []), some (.tup body), none, none, none]) rfl rfl ?_
  unfold b_Program_init
  refine w_frz0 (gef_1 rfl ?_) freeze_frz
  refine w_frz (get_2 (put_2 ?_))
  rw [show (D.dic true []).freeze = D.dic false [] from rfl]
  have hi := isdeeds hd h0 h1 hP
  have hso : sortD [.dic false []] = some (.lst true []) := rfl
  have hit : itD (.lst true []) = some [] := rfl
  have ii : isIns "Sizes" "block" sz0 = true := rfl
  (repeat' (first | with_reducible refine Eng.Stp.imp ?_ | ((with_reducible refine Eng.gWF ?_); (first | with_reducible refine wf_of (hi) ?_ | with_reducible refine wf_of (areparts) ?_ | with_reducible refine wf_of (hb) ?_ | ((with_reducible refine wf_of szinit ?_)) | with_reducible refine wf_of (hs) ?_)) | ((with_reducible refine Eng.gWO ?_); (first | ((with_reducible apply wo); (exact hso)) | ((with_reducible apply wo); (exact hit)))) | ((with_reducible refine Eng.gBif ?_); (first | ((with_reducible refine Eng.bif_dT ?_ ?_); (omega)) | ((with_reducible refine Eng.bif_dF ?_ ?_); (omega)))) | ((with_reducible refine And.intro ii ?_)) | (with_reducible refine w_dcW ?_) | walk_at "EV2"))
  first | exact ⟨rfl, rfl⟩ | rfl
section
variable {ds : List Nat} {body plan : List D} (hf : (D.tup body).frz = true) (hg : (D.tup plan).frz = true) (hp : BP 14 (.dic false []) body plan)
include hf hg hp
theorem pr_frz' : (prD ds body).frz = true := by
  have hf : frzs body = true := hf
  show (true && (frzs body && (true && (true && (frzs body && true))))) = true
  rw [hf]; rfl
theorem check_ok : g_check_plan [prD ds body, .tup plan] = .ok .non [some (prD ds body), some (.tup plan)] := by
  have pf := pr_frz' (ds := ds) hf hg hp
  have hip : g_is_plan [prD ds body, .tup plan] = .ok (.bl true) [some (prD ds body), some (.tup plan)] := by
    refine wf_ok ?_
    refine wf_run (ρ := [some (prD ds body), some (.tup plan)]) rfl rfl ?_
    unfold b_is_plan
    have hp : g_is_block_plan [.dic false [], .tup body, .tup plan] = _ := hp
    (repeat' (first | with_reducible refine Eng.Stp.imp ?_ | ((with_reducible refine Eng.gWF ?_); (first | with_reducible refine wf_of (hp) ?_)) | walk_at "EV2"))
    first | exact ⟨rfl, rfl⟩ | rfl
  refine wf_ok ?_
  refine wf_run (ρ := [some (prD ds body), some (.tup plan)]) rfl rfl ?_
  unfold b_check_plan
  (repeat' (first | with_reducible refine Eng.Stp.imp ?_ | ((with_reducible refine Eng.gWF ?_); (first | with_reducible refine wf_of (hip) ?_)) | walk_at "EV2"))
  first | exact ⟨rfl, rfl⟩ | rfl
theorem letters_ok {L : Int} (h : LI 6 (.dic false []) body plan L) : g_letters_of [prD ds body, .tup plan] = .ok (.int L) [some (prD ds body), some (.tup plan)] := by
  have pf := pr_frz' (ds := ds) hf hg hp
  have hc := check_ok (ds := ds) hf hg hp
  have h : g_letters_in [.dic false [], .tup body, .tup plan] = _ := h
  refine wf_ok ?_
  refine wf_run (ρ := [some (prD ds body), some (.tup plan)]) rfl rfl ?_
  unfold b_letters_of
  (repeat' (first | with_reducible refine Eng.Stp.imp ?_ | ((with_reducible refine Eng.gWF ?_); (first | with_reducible refine wf_of (hc) ?_ | with_reducible refine wf_of (h) ?_)) | walk_at "EV2"))
  first | exact ⟨rfl, rfl⟩ | rfl
theorem netof_ok {o : Option (List Nat)} (h : NI 6 (.dic false []) body plan o) : NR (g_net_of [prD ds body, .tup plan]) o [some (prD ds body), some (.tup plan)] := by
  have pf := pr_frz' (ds := ds) hf hg hp
  have hc := check_ok (ds := ds) hf hg hp
  refine nr_of ?_
  refine wf_run (ρ := [some (prD ds body), some (.tup plan)]) rfl rfl ?_
  unfold b_net_of
  cases o with
  | none =>
    have h : g_net_in [.dic false [], .tup body, .tup plan] = .exc tl _ := h
    (repeat' (first | with_reducible refine Eng.Stp.imp ?_ | ((with_reducible refine Eng.gWF ?_); (first | with_reducible refine wf_of (hc) ?_ | ((with_reducible refine wf_exc h ?_)))) | walk_at "EV2"))
    exact ⟨rfl, rfl, rfl⟩
  | some w =>
    have h : g_net_in [.dic false [], .tup body, .tup plan] = .ok (.str w) _ := h
    (repeat' (first | with_reducible refine Eng.Stp.imp ?_ | ((with_reducible refine Eng.gWF ?_); (first | with_reducible refine wf_of (hc) ?_ | with_reducible refine wf_of (h) ?_)) | walk_at "EV2"))
    exact ⟨_, rfl, rfl, rfl⟩
theorem told_ok {o : Option (List Nat)} (hx1 : (D.tup body).nx = true) (hx2 : (D.tup plan).nx = true) (h : NI 6 (.dic false []) body plan o) : g__law_told [prD ds body, .tup plan] = .ok (toD o) [some (prD ds body), some (.tup plan)] := by
  have pf := pr_frz' (ds := ds) hf hg hp
  have hn := netof_ok (ds := ds) hf hg hp h
  have hx0 : (prD ds body).nx = true := by
    have hx1 : nxs body = true := hx1
    show (true && (nxs body && (true && (true && (nxs body && true))))) = true
    rw [hx1]; rfl
  refine wf_ok ?_
  refine wf_run (ρ := [some (prD ds body), some (.tup plan), none, none]) rfl rfl ?_
  unfold b__law_told
  cases o with
  | none =>
    have hn : g_net_of [prD ds body, .tup plan] = .exc tl _ := hn
    have nr : nxR [some (prD ds body), some (.tup plan), none, none] = true := by
      show ((prD ds body).nx && ((D.tup plan).nx && true)) = true
      rw [hx0, hx2]; rfl
    have nr2 : nxR [some (prD ds body), some (.tup plan), some .non, none] = true := by
      show ((prD ds body).nx && ((D.tup plan).nx && (true && true))) = true
      rw [hx0, hx2]; rfl
    have st : subT "TooLong" "TooLong" = some true := by decide +kernel
    (repeat' (first | with_reducible refine Eng.Stp.imp ?_ | ((with_reducible refine Eng.gWF ?_); (first | ((with_reducible refine wf_exc hn ?_)))) | walk_at "EV2"))
    refine ⟨_, _, rfl, ?_⟩
    refine ⟨.int 5000, rfl, ?_⟩
    (repeat' (first | with_reducible refine Eng.Stp.imp ?_ | ((with_reducible refine And.intro nr2 ?_)) | walk_at "EV2"))
    first | exact ⟨rfl, rfl⟩ | rfl
  | some w =>
    have hn : g_net_of [prD ds body, .tup plan] = .ok (.str w) _ := hn
    (repeat' (first | with_reducible refine Eng.Stp.imp ?_ | ((with_reducible refine Eng.gWF ?_); (first | with_reducible refine wf_of (hn) ?_)) | walk_at "EV2"))
    first | exact ⟨rfl, rfl⟩ | rfl
end
end K19
namespace K19
open PySem PySem.Spec PyProof.Rows L2 Eng Words
/-! the law's own sum of pieces -/
theorem in_none : ∀ os : List (Option (List Nat)), inD .non (.lst false (os.map toD)) = some (.bl (decide (none ∈ os))) := fun os => by
  have hfl : (os.map toD).all flatD = true := by
    refine List.all_eq_true.mpr fun d hd => ?_
    obtain ⟨o, _, rfl⟩ := List.mem_map.mp hd
    cases o <;> rfl
  show (if flatD .non && (os.map toD).all flatD then some ((os.map toD).any fun x => eqB x .non) else none).map D.bl = _
  rw [hfl]
  show some (D.bl ((os.map toD).any fun x => eqB x .non)) = _
  congr 2
  induction os with
  | nil => rfl
  | cons o r ih =>
    rw [List.map_cons, List.any_cons, ih (by
      rw [List.map_cons, List.all_cons, Bool.and_eq_true] at hfl
      exact hfl.2)]
    cases o with
    | none =>
      have : eqB (toD none) .non = true := rfl
      rw [this]; simp
    | some w =>
      have : eqB (toD (some w)) .non = false := rfl
      rw [this]; simp
theorem strs_somes : ∀ ws : List (List Nat), strsOf (ws.map D.str) = some ws
  | [] => rfl
  | w :: ws => by
    show (strsOf (ws.map D.str)).map (w :: ·) = _
    rw [strs_somes ws]; rfl
theorem joinS {ws : List (List Nat)} (h : (ws.map List.length).sum ≤ 1000000) {o : Bool} : joinM [] [.lst o (ws.map D.str)] = some (.str ws.flatten) := by
  show (match strsOf (ws.map D.str) with
    | some ys => if (ys.map List.length).sum + ys.length * ([] : List Nat).length ≤ 16777216 then some (D.str (joinL [] ys)) else none
    | none => none) = _
  rw [strs_somes]
  dsimp only
  rw [if_pos (by simp; omega), join_one]
theorem all_some : ∀ {os : List (Option (List Nat))}, none ∉ os → ∃ ws : List (List Nat), os = ws.map some
  | [], _ => ⟨[], rfl⟩
  | none :: os, h => absurd (by simp) h
  | some w :: os, h => by
    obtain ⟨ws, rfl⟩ := all_some (os := os) fun z => h (by simp [z])
    exact ⟨w :: ws, rfl⟩
theorem flat_len (ws : List (List Nat)) : ws.flatten.length = (ws.map List.length).sum := by
  rw [List.length_flatten]
theorem ldue_ok {os : List (Option (List Nat))} {o : Bool} (hL : ∀ w, some w ∈ os → Let w ∧ w.length ≤ 5000) (hl : os.length ≤ 10) : g__law_due [.lst o (os.map toD)] = .ok (toD (due os)) [some (.lst false (os.map toD))] := by
  refine wf_ok ?_
  refine wf_run (ρ := [some (.lst o (os.map toD)), none]) rfl rfl ?_
  unfold b__law_due
  have hf : (D.lst false (os.map toD)).frz = true := by
    show frzs (os.map toD) = true
    refine frzs_of fun s hs => ?_
    obtain ⟨o, _, rfl⟩ := List.mem_map.mp hs
    cases o <;> rfl
  refine w_frzl (get_0 ⟨_, _, rfl, (show frzs (os.map toD) = true from hf), put_0 ?_⟩)
  have hi := in_none os
  by_cases hn : none ∈ os
  · rw [decide_eq_true hn] at hi
    have hd : due os = none := by unfold due; rw [if_pos hn]
    rw [hd]
    (repeat' (first | with_reducible refine Eng.Stp.imp ?_ | ((with_reducible refine Eng.gWO ?_); (first | ((with_reducible apply wo); (exact hi)))) | walk_at "EV2"))
    first | exact ⟨rfl, rfl⟩ | rfl
  · rw [decide_eq_false hn] at hi
    obtain ⟨ws, rfl⟩ := all_some hn
    have hm : (ws.map some).map toD = ws.map D.str := by rw [List.map_map]; rfl
    have hd : due (ws.map some) = if (nf ws.flatten).length ≤ 5000 then some (nf ws.flatten) else none := by
      unfold due
      rw [if_neg hn]
      have : (ws.map some).filterMap id = ws := by simp [List.filterMap_map]
      rw [this]
    rw [hd]
    rw [hm] at hi hf ⊢
    have hW : ∀ w ∈ ws, Let w ∧ w.length ≤ 5000 := fun w hw => hL w (by simpa using hw)
    have hS : (ws.map List.length).sum ≤ ws.length * 5000 := by
      clear hi hf hd hm hL hl hn
      induction ws with
      | nil => simp
      | cons w r ih =>
        have := (hW w (by simp)).2
        have := ih fun x hx => hW x (by simp [hx])
        simp only [List.map_cons, List.sum_cons, List.length_cons]
        omega
    have hll : ws.length ≤ 10 := by simpa using hl
    have hj := joinS (ws := ws) (by omega) (o := false)
    have hLf : Let ws.flatten := fun c hc => by
      obtain ⟨w, hw, hc⟩ := List.mem_flatten.mp hc
      exact (hW w hw).1 c hc
    have hnl := nf_len ws.flatten
    have hfl := flat_len ws
    have hnn := net_law hLf (by omega)
    (repeat' (first | with_reducible refine Eng.Stp.imp ?_ | ((with_reducible refine Eng.gWF ?_); (first | with_reducible refine wf_of (hnn) ?_)) | ((with_reducible refine Eng.gWO ?_); (first | ((with_reducible apply wo); (exact hi)) | ((with_reducible apply wo); (exact hj)))) | walk_at "EV2"))
    · rename_i q
      rw [if_pos (by omega)]
      exact ⟨rfl, rfl⟩
    · rename_i q
      rw [if_neg (by omega)]
      exact ⟨rfl, rfl⟩
end K19
namespace K19
open PySem PySem.Spec PyProof.Rows L2 Eng Words
theorem ixn {n : Nat} {k : Int} (h0 : 0 ≤ k) (h1 : k < n) : ixN n k = some k.toNat := by
  unfold ixN
  rw [if_pos (by omega), if_pos (by omega)]
theorem erase_perm {α : Type} : ∀ {l : List α} {i : Nat} (h : i < l.length), (l[i] :: l.eraseIdx i).Perm l
  | x :: l, 0, _ => List.Perm.refl _
  | x :: l, i + 1, h => by
    have ih := erase_perm (l := l) (i := i) (by simpa using h)
    rw [List.getElem_cons_succ, List.eraseIdx_cons_succ]
    exact (List.Perm.swap _ _ _).trans (ih.cons x)
theorem erase_map {α β : Type} (f : α → β) : ∀ (l : List α) (i : Nat), (l.map f).eraseIdx i = (l.eraseIdx i).map f
  | [], i => by simp
  | x :: l, 0 => by simp
  | x :: l, i + 1 => by simp [erase_map f l i]
theorem singles : ∀ {l : List (List Nat)}, (∀ x ∈ l, ∃ c, x = [c]) → l = l.flatten.map fun c => [c]
  | [], _ => rfl
  | x :: l, h => by
    obtain ⟨c, rfl⟩ := h x (by simp)
    have ih := singles (l := l) fun y hy => h y (by simp [hy])
    simp only [List.flatten_cons, List.cons_append, List.nil_append, List.map_cons]
    rw [← ih]
theorem sort_single {found : List Nat} (hn : found.Nodup) (hl : found.length < 64) {o : Bool} : ∃ ds : List Nat, sortD [.lst o (found.map ch)] = some (.lst true (ds.map ch)) ∧ ds.Perm found ∧ ds.Pairwise (· < ·) := by
  have hs : strsOf (found.map ch) = some (found.map fun c => [c]) := strs_ch found
  have hp := isort_perm (le := leS) (found.map fun c => [c])
  have hS := isort_srt (le := leS) leS_tot leS_tr (found.map fun c => [c])
  have h1 : ∀ x ∈ isort leS (found.map fun c => [c]), ∃ c, x = [c] := fun x hx => by
    obtain ⟨c, _, rfl⟩ := List.mem_map.mp (hp.mem_iff.mp hx)
    exact ⟨c, rfl⟩
  have h2 := singles h1
  have hv : sortD [.lst o (found.map ch)] = some (.lst true ((isort leS (found.map fun c => [c])).map D.str)) := by
    show (match strsOf (found.map ch) with
      | some ys => if ys.length < 64 then some (D.lst true ((isort leS ys).map D.str)) else none
      | none => none) = _
    rw [hs]
    dsimp only
    rw [if_pos (by rw [List.length_map]; exact hl)]
  generalize isort leS (found.map fun c => [c]) = l at *
  have h3 := hp.flatten
  rw [flat_one] at h3
  refine ⟨l.flatten, ?_, h3, ?_⟩
  · rw [hv]
    conv => lhs; rw [h2]
    rw [List.map_map]; rfl
  · have hnd : l.flatten.Nodup := h3.nodup_iff.mpr hn
    rw [h2] at hS
    unfold Srt at hS
    rw [List.pairwise_map] at hS
    have : l.flatten.Pairwise fun a b => a ≤ b := hS.imp fun {a b} h => by
      unfold leS at h
      simp only [Bool.not_eq_true', decide_eq_false_iff_not] at h
      exact Nat.le_of_not_lt fun z => h (List.cons_lt_cons_iff.mpr (.inl z))
    exact (List.pairwise_and_iff.mpr ⟨this, hnd⟩).imp fun {a b} h => Nat.lt_of_le_of_ne h.1 h.2
section
variable {cells : List D} {o : Bool} {a r s t n : Int} {E : Exc → List (Option D) → Prop} {Q : D → List (Option D) → Prop}
theorem deeds_ok (h : OkH cells a r s t n) (hn : 10 ≤ n)
    (q : ∀ ds a' r' s' t', Low ds → 1 ≤ ds.length → ds.length ≤ 3 → ds.Pairwise (· < ·) → OkH cells a' r' s' t' (n - 10) → Q (.str ds) [some (hd o cells a' r' s' t'), some (.int 3)]) : WF (g__law_deeds [hd o cells a r s t, .int 3]) E Q := by
  refine wf_run (ρ := [some (hd o cells a r s t), some (.int 3), none, none, none]) rfl rfl ?_
  unfold b__law_deeds
  have hli : listD [.str [97, 98, 99, 100, 101, 102, 103, 104, 105, 106, 107, 108, 109, 110, 111, 112, 113, 114, 115, 116, 117, 118, 119, 120, 121, 122]] = some (.lst true ([97, 98, 99, 100, 101, 102, 103, 104, 105, 106, 107, 108, 109, 110, 111, 112, 113, 114, 115, 116, 117, 118, 119, 120, 121, 122].map ch)) := rfl
  (repeat' (first | with_reducible refine Eng.Stp.imp ?_ | ((with_reducible refine Eng.gWF ?_); (first | ((with_reducible refine draw_ok (by assumption) (by omega) (by omega) (by omega) (fun cnt a0 r0 s0 t0 hcnt0 hcnt1 hO0 => ?_))))) | ((with_reducible refine Eng.gWO ?_); (first | ((with_reducible apply wo); (exact hli)))) | walk_at "EV2"))
  refine lc_inv (fun xs acc ρ => ∃ (k : Nat) (rest found : List Nat) (a' r' s' t' : Int), xs = rng k ((1 + cnt).toNat - k) ∧ k ≤ (1 + cnt).toNat ∧ acc = found.map ch ∧ found.length = k ∧ rest.length + k = 26 ∧ (found ++ rest).Nodup ∧ Low (found ++ rest) ∧ OkH cells a' r' s' t' (n - 1 - k) ∧ ρ = [some (hd o cells a' r' s' t'), some (.int 3), some (.lst true (rest.map ch)), none, none]) ?_ ?_ _ _ _ ?_
  · rintro x xs acc ρ ⟨k, rest, found, a', r', s', t', hx, hk, rfl, hlf, hlr, hnd, hlow, hO, rfl⟩
    obtain ⟨j, hj⟩ : ∃ j, (1 + cnt).toNat - k = j := ⟨_, rfl⟩
    rw [hj] at hx
    cases j with
    | zero => cases hx
    | succ j =>
    rw [rng_succ] at hx
    obtain ⟨rfl, rfl⟩ := List.cons.inj hx
    have hlen : (found.map ch).length < 16777216 := by rw [List.length_map]; omega
    have hl2 : (rest.map ch).length = rest.length := List.length_map _
    (repeat' (first | with_reducible refine Eng.Stp.imp ?_ | ((with_reducible refine Eng.gWF ?_); (first | ((with_reducible refine draw_ok (by assumption) (by omega) (by omega) (by omega) (fun c a1 r1 s1 t1 hc0 hc1 hk1 => ?_))))) | walk_at "EV2"))
    have hcr : c.toNat < rest.length := by omega
    refine ⟨c, c.toNat, ch rest[c.toNat], rfl, ixn hc0 (by omega), by rw [List.getElem?_map, List.getElem?_eq_getElem hcr]; rfl, ?_, by omega, ?_⟩
    · refine frzs_of fun s hs => ?_
      obtain ⟨d, _, rfl⟩ := List.mem_map.mp hs
      rfl
    have hperm : (found ++ [rest[c.toNat]] ++ rest.eraseIdx c.toNat).Perm (found ++ rest) := by
      rw [List.append_assoc]
      exact (erase_perm hcr).append_left found
    have her : (rest.map ch).eraseIdx c.toNat = (rest.eraseIdx c.toNat).map ch := erase_map _ _ _
    rw [her]
    (repeat' (first | with_reducible refine Eng.Stp.imp ?_ | walk_at "EV2"))
    refine ⟨k + 1, rest.eraseIdx c.toNat, found ++ [rest[c.toNat]], a1, r1, s1, t1, ?_, by omega, by simp, by simp [hlf], ?_, hperm.nodup_iff.mpr hnd, fun x hx => hlow x (hperm.mem_iff.mp hx), hk1.mono (by omega), rfl⟩
    · rw [show (1 + cnt).toNat - (k + 1) = j by omega]
    · rw [List.length_eraseIdx, if_pos hcr]; omega
  · rintro acc ρ ⟨k, rest, found, a', r', s', t', hx, hk, rfl, hlf, hlr, hnd, hlow, hO, rfl⟩
    have hk2 : (1 + cnt).toNat - k = 0 := by
      cases hj : (1 + cnt).toNat - k with
      | zero => rfl
      | succ j => rw [hj, rng_succ] at hx; cases hx
    have hfz : frzs (found.map ch) = true := frzs_of fun s hs => by
      obtain ⟨d, _, rfl⟩ := List.mem_map.mp hs
      rfl
    obtain ⟨ds, hs1, hs2, hs3⟩ := sort_single (o := false) (List.nodup_append.mp hnd).1 (by omega)
    have hdl := hs2.length_eq
    have hj : joinM [] [.lst true (ds.map ch)] = some (.str ds) := join_ch (by omega)
    (repeat' (first | ((with_reducible refine w_frzl ?_); (with_reducible refine get_3 ?_); (with_reducible refine ⟨_, _, rfl, hfz, ?_⟩); (with_reducible refine put_3 ?_)) | with_reducible refine Eng.Stp.imp ?_ | ((with_reducible refine Eng.gWO ?_); (first | ((with_reducible apply wo); (exact hs1)) | ((with_reducible apply wo); (exact hj)))) | walk_at "EV2"))
    exact q ds a' r' s' t' (fun x hx => hlow x (List.mem_append.mpr (.inl (hs2.mem_iff.mp hx)))) (by omega) (by omega) hs3 (hO.mono (by omega))
  · exact ⟨0, _, [], _, _, _, _, rfl, by omega, rfl, rfl, by decide, by decide, by unfold Low; decide, OkH.mono (by assumption) (by omega), rfl⟩
end
end K19
namespace K19
open PySem PySem.Spec PyProof.Rows L2 Eng Words
abbrev tailM : MS := (sSeq (sIf (mB (eOp notNonD (eVar 10) (eK .non))) (sSeq (sSet 10 (eCall g__law_times (aVal (eVar 10) (aVal (eOp idxD (eVar 4) (eK (.int 0))) aNil)))) (sFrz 10 sNext)) sNext) (sSeq (sSet 11 (eTup (lCons (eTup (lCons (eK (.str [100, 111])) (lCons (eOp idxD (eVar 3) (eK (.int 2))) lNil))) (lCons (eTup (lCons (eK (.str [108, 111, 111, 112])) (lCons (eVar 5) lNil))) (lCons (eTup (lCons (eK (.str [100, 111])) (lCons (eOp idxD (eVar 3) (eK (.int 3))) lNil))) lNil))))) (sFrz 11 (sSeq (sSet 12 (eCall g__law_due (aVal (eLst (lCons (eCall g__law_net (aVal (eOp idxD (eVar 3) (eK (.int 2))) aNil)) (lCons (eVar 10) (lCons (eCall g__law_net (aVal (eOp idxD (eVar 3) (eK (.int 3))) aNil)) lNil)))) aNil))) (sSeq (sSet 13 (eTup (lCons (eTup lNil) (lCons (eTup (lCons (eTup (lCons (eVar 8) (lCons (eOp idxD (eVar 4) (eK (.int 0))) lNil))) lNil)) (lCons (eTup lNil) lNil))))) (sFrz 13 (sSeq (sIf (mB (eOp eqD (eCall g__law_draw (aLend 1 (aVal (eK (.int 2)) aNil))) (eK (.int 0)))) (sSeq (sSet 11 (eTup (lCons (eTup (lCons (eK (.str [117, 110, 100, 111])) (lCons (eVar 11) lNil))) lNil))) (sFrz 11 (sSeq (sSet 13 (eTup (lCons (eVar 13) lNil))) (sFrz 13 (sSet 12 (eIf (mB (eOp isNonD (eVar 12) (eK .non))) (eVar 12) (eCall g__law_turned (aVal (eVar 12) aNil)))))))) sNext) (sSeq (sSet 14 (eMk "Program" g_Program_init (aVal (eVar 2) (aVal (eK (.dic true [])) (aVal (eVar 11) aNil))))) (sFrz 14 (sSeq (sIf (mB (eOp neD (eCall g_letters_of (aVal (eVar 14) (aVal (eVar 13) aNil))) (eOp addD (eOp addD (eFn lenD (lCons (eOp idxD (eVar 3) (eK (.int 2))) lNil)) (eOp mulD (eVar 7) (eOp idxD (eVar 4) (eK (.int 0))))) (eFn lenD (lCons (eOp idxD (eVar 3) (eK (.int 3))) lNil))))) (sRet (eK (.bl false))) sNext) (sRet (eBo (mAnd (mB (eOp eqD (eCall g__law_told (aVal (eVar 14) (aVal (eVar 13) aNil))) (eVar 12))) (mB (eOp eqD (eCall g__law_told (aVal (eVar 14) (aVal (eVar 13) aNil))) (eVar 12))))))))))))))))
structure Inn (ds : List Nat) (inner plan : List D) (L : Int) (m : Option (List Nat)) : Prop where
  fi : (D.tup inner).frz = true
  fp : (D.tup plan).frz = true
  xi : (D.tup inner).nx = true
  xp : (D.tup plan).nx = true
  bl : ∀ (n : Nat) (k : Int), k ≤ 5 → r_is_block (n + 4) [.tup inner, .str ds, .dic false [], .int k] = .ok (.bl true) [some (.tup inner), some (.str ds), some (.dic false []), some (.int k)]
  sz : ∀ n : Nat, SzB (n + 4) sz1 inner 22 24
  bp : ∀ n : Nat, BP (n + 5) (.dic false []) inner plan
  l0 : 0 ≤ L
  l1 : L ≤ 10 ^ 53
  li : ∀ n : Nat, LI (n + 2) (.dic false []) inner plan L
  fit : Fit m
  ni : ∀ n : Nat, NI (n + 2) (.dic false []) inner plan m
theorem dz : (D.dic false []).frz = true := rfl
section
variable {ds : List Nat} {r0 r1 : List Nat} {t1 t2 : Int} (hd : Low ds) (hl : ds.length ≤ 26) (h0 : Ov ds r0) (k0 : r0.length ≤ 11)
include hd hl h0 k0
theorem inn1 : Inn ds [sDo r0] [.tup []] r0.length (some (nf r0)) where
  fi := rfl
  fp := rfl
  xi := rfl
  xp := rfl
  bl := fun n k hk => block_ok (n := n + 3) rfl dz (by omega) (by simp) fun s hs => by
    rw [List.mem_singleton.mp hs]
    exact stmt_do (n := n + 2) hd hl h0 (by omega) dz
  sz := fun n => by
    obtain ⟨p, a, h, h1, h2, h3, h4⟩ := szb_1 (n := n + 3) (d0 := sz1) (d := sz1) rfl rfl rfl (s := sDo r0) rfl (szs_do (n := n + 2) rfl k0)
    exact ⟨p, a, h, h1, by omega, h3, by omega⟩
  bp := fun n => bp_1 (n := n + 4) dz rfl rfl (sp_do (n := n + 3) dz)
  l0 := by omega
  l1 := by omega
  li := fun n => li_1 (n := n + 1) dz (by omega)
  fit := fun w hw => by
    cases hw
    have := nf_len r0
    exact ⟨red_nf _, let_nf (ov_let hd h0), by omega⟩
  ni := fun n => ni_1 (n := n + 1) dz (ov_let hd h0) (by omega)
theorem inn2 (h1 : Ov ds r1) (k1 : r1.length ≤ 11) (a1 : 1 ≤ t1) (b1 : t1 ≤ 10 ^ 50) (a2 : 1 ≤ t2) (b2 : t2 ≤ 10 ^ 50) :
    Inn ds [sLoop [sDo r0], sDo r1] [.tup [pr (.tup [.tup []]) t1, pr (.tup [.tup []]) t2], .tup []] (t1 * r0.length + t2 * r0.length + r1.length) (due [rep (nf r0) t1.toNat, rep (nf r0) t2.toNat, some r1]) where
  fi := rfl
  fp := rfl
  xi := rfl
  xp := rfl
  bl := fun n k hk => block_ok (n := n + 3) rfl dz (by omega) (by simp) fun s hs => by
    rcases List.mem_cons.mp hs with rfl | hs
    · refine stmt_loop (n := n + 2) rfl dz (block_ok (n := n + 1) rfl dz (by omega) (by simp) fun s hs => ?_)
      rw [List.mem_singleton.mp hs]
      exact stmt_do (n := n) hd hl h0 (by omega) dz
    · rw [List.mem_singleton.mp hs]
      exact stmt_do (n := n + 2) hd hl h1 (by omega) dz
  sz := fun n => by
    have hin : SzB (n + 2) sz1 [sDo r0] 10 11 := szb_1 (n := n + 1) (d0 := sz1) (d := sz1) rfl rfl rfl (s := sDo r0) rfl (szs_do (n := n) rfl k0)
    have hlo : SzS (n + 3) sz1 (sLoop [sDo r0]) (10 + 1) (11 + 2) := szs_loop (n := n + 2) rfl rfl rfl hin
    obtain ⟨p, a, h, h1, h2, h3, h4⟩ := szb_2 (n := n + 3) (d0 := sz1) (d := sz1) rfl rfl rfl (s := sLoop [sDo r0]) rfl hlo (u := sDo r1) rfl (szs_do (n := n + 2) rfl k1)
    exact ⟨p, a, h, h1, by omega, h3, by omega⟩
  bp := fun n => bp_2 (n := n + 4) dz rfl rfl rfl rfl (sp_loop (n := n + 3) dz rfl rfl (rp_2 (n := n + 2) dz rfl rfl a1 a2 (bp_1 (n := n + 1) dz rfl rfl (sp_do (n := n) dz)))) (sp_do (n := n + 3) dz)
  l0 := by
    have e1 : 0 ≤ t1 * (r0.length : Int) := Int.mul_nonneg (by omega) (by omega)
    have e2 : 0 ≤ t2 * (r0.length : Int) := Int.mul_nonneg (by omega) (by omega)
    omega
  l1 := by
    have e1 : t1 * (r0.length : Int) ≤ 10 ^ 50 * 11 := Int.mul_le_mul b1 (by omega) (by omega) (by omega)
    have e2 : t2 * (r0.length : Int) ≤ 10 ^ 50 * 11 := Int.mul_le_mul b2 (by omega) (by omega) (by omega)
    omega
  li := fun n => li_2 (n := n + 1) dz rfl rfl (by omega) (by omega) a1 a2 b1 b2 (by omega) (li_1 (n := n) dz (by omega))
  fit := by
    have hk := ends_le (let_nf (ov_let hd h0)) (show (nf r0).length ≤ 1000000 by have := nf_len r0; omega)
    refine fit_due fun w hw => ?_
    simp only [List.mem_cons, List.not_mem_nil, or_false] at hw
    rcases hw with hw | hw | hw
    · exact rep_let (let_nf (ov_let hd h0)) hw.symm
    · exact rep_let (let_nf (ov_let hd h0)) hw.symm
    · cases hw; exact ov_let hd h1
  ni := fun n => ni_2 (n := n + 1) dz rfl rfl (let_nf (ov_let hd h0)) (red_nf _) (by have := nf_len r0; omega) (ov_let hd h1) a1 a2 b1 b2 (by omega) (ni_1 (n := n) dz (ov_let hd h0) (by omega))
end
/-- a body, its plan, its letters, its net -/
structure Bod (ds : List Nat) (body plan : List D) (L : Int) (m : Option (List Nat)) : Prop where
  fi : (D.tup body).frz = true
  fp : (D.tup plan).frz = true
  xi : (D.tup body).nx = true
  xp : (D.tup plan).nx = true
  bl : g_is_block [.tup body, .str ds, .dic false [], .int 1] = .ok (.bl true) [some (.tup body), some (.str ds), some (.dic false []), some (.int 1)]
  sz : ∃ p a : Int, g_Sizes_block [sz0, .tup body] = .ok (.tup [.int p, .int a]) [some sz1, some (.tup body)] ∧ 0 ≤ p ∧ p ≤ 58 ∧ 0 ≤ a ∧ a ≤ 200
  bp : BP 14 (.dic false []) body plan
  li : LI 6 (.dic false []) body plan L
  ni : NI 6 (.dic false []) body plan m
section
variable {ds : List Nat} {inner plan : List D} {L t : Int} {m : Option (List Nat)} {r q : List Nat} (I : Inn ds inner plan L m) (hd : Low ds) (hl : ds.length ≤ 26) (hr : Ov ds r) (hq : Ov ds q) (kr : r.length ≤ 11) (kq : q.length ≤ 11) (h1 : 1 ≤ t) (h2 : t ≤ 10 ^ 50)
include I hd hl hr hq kr kq h1 h2
theorem nx_l {b : List D} (h : (D.tup b).nx = true) : (sLoop b).nx = true := by
  have h : nxs b = true := h
  show (true && (nxs b && true)) = true
  rw [h]; rfl
theorem bod3 : Bod ds [sDo r, sLoop inner, sDo q] [.tup [], .tup [pr (.tup plan) t], .tup []] (r.length + t * L + q.length) (due [some r, m.bind (fun w => rep w t.toNat), some q]) where
  fi := frz3 rfl (frz_loop I.fi) rfl
  fp := frz3 rfl (frz1 (pr_frz I.fp)) rfl
  xi := by
    have h : nxs inner = true := I.xi
    show (true && ((true && (nxs inner && true)) && (true && true))) = true
    rw [h]; rfl
  xp := by
    have h : nxs plan = true := I.xp
    show (true && (((nxs plan && (true && true)) && true) && (true && true))) = true
    rw [h]; rfl
  bl := block_ok (n := 11) (frz3 rfl (frz_loop I.fi) rfl) dz (by omega) (by simp) fun s hs => by
    simp only [List.mem_cons, List.not_mem_nil, or_false] at hs
    rcases hs with rfl | rfl | rfl
    · exact stmt_do (n := 10) hd hl hr (by omega) dz
    · exact stmt_loop (n := 10) I.fi dz (I.bl 6 (1 + 1) (by omega))
    · exact stmt_do (n := 10) hd hl hq (by omega) dz
  sz := by
    obtain ⟨p, a, h, h1, h2, h3, h4⟩ := szb_3 (n := 11) (d0 := sz0) (d := sz1) rfl rfl rfl (s := sDo r) rfl (szs_do (n := 10) rfl kr) (u := sLoop inner) (frz_loop I.fi) (szs_loop (n := 10) rfl rfl I.fi (I.sz 6)) (v := sDo q) rfl (szs_do (n := 10) rfl kq)
    exact ⟨p, a, h, h1, by omega, h3, by omega⟩
  bp := bp_3 (n := 13) dz rfl rfl (frz_loop I.fi) (frz1 (pr_frz I.fp)) rfl rfl (sp_do (n := 12) dz) (sp_loop (n := 12) dz I.fi (frz1 (pr_frz I.fp)) (rp_1 (n := 11) dz I.fi I.fp h1 (I.bp 6))) (sp_do (n := 12) dz)
  li := li_3 (n := 5) dz I.fi I.fp I.l0 (by have := I.l1; omega) h1 h2 (by omega) (by omega) (I.li 3)
  ni := ni_3 (n := 5) dz I.fi I.fp I.fit (ov_let hd hr) (ov_let hd hq) h1 h2 (by omega) (by omega) (I.ni 3)
theorem bodU : Bod ds [sUndo [sDo r, sLoop inner, sDo q]] [.tup [.tup [], .tup [pr (.tup plan) t], .tup []]] (r.length + t * L + q.length) ((due [some r, m.bind (fun w => rep w t.toNat), some q]).map back) where
  fi := frz1 (frz_undo (frz3 rfl (frz_loop I.fi) rfl))
  fp := frz1 (frz3 rfl (frz1 (pr_frz I.fp)) rfl)
  xi := by
    have h : nxs inner = true := I.xi
    show ((true && ((true && ((true && (nxs inner && true)) && (true && true))) && true)) && true) = true
    rw [h]; rfl
  xp := by
    have h : nxs plan = true := I.xp
    show ((true && (((nxs plan && (true && true)) && true) && (true && true))) && true) = true
    rw [h]; rfl
  bl := block_ok (n := 11) (frz1 (frz_undo (frz3 rfl (frz_loop I.fi) rfl))) dz (by omega) (by simp) fun s hs => by
    rw [List.mem_singleton.mp hs]
    refine stmt_undo (n := 10) (frz3 rfl (frz_loop I.fi) rfl) dz (block_ok (n := 9) (frz3 rfl (frz_loop I.fi) rfl) dz (by omega) (by simp) fun s hs => ?_)
    simp only [List.mem_cons, List.not_mem_nil, or_false] at hs
    rcases hs with rfl | rfl | rfl
    · exact stmt_do (n := 8) hd hl hr (by omega) dz
    · exact stmt_loop (n := 8) I.fi dz (I.bl 4 (1 + 1 + 1) (by omega))
    · exact stmt_do (n := 8) hd hl hq (by omega) dz
  sz := by
    have hb : SzB 10 sz1 [sDo r, sLoop inner, sDo q] 45 48 := by
      obtain ⟨p, a, h, h1, h2, h3, h4⟩ := szb_3 (n := 9) (d0 := sz1) (d := sz1) rfl rfl rfl (s := sDo r) rfl (szs_do (n := 8) rfl kr) (u := sLoop inner) (frz_loop I.fi) (szs_loop (n := 8) rfl rfl I.fi (I.sz 4)) (v := sDo q) rfl (szs_do (n := 8) rfl kq)
      exact ⟨p, a, h, h1, by omega, h3, by omega⟩
    obtain ⟨p, a, h, h1, h2, h3, h4⟩ := szb_1 (n := 11) (d0 := sz0) (d := sz1) rfl rfl rfl (s := sUndo [sDo r, sLoop inner, sDo q]) (frz_undo (frz3 rfl (frz_loop I.fi) rfl)) (szs_undo (n := 10) rfl rfl (frz3 rfl (frz_loop I.fi) rfl) hb)
    exact ⟨p, a, h, h1, by omega, h3, by omega⟩
  bp := bp_1 (n := 13) dz (frz_undo (frz3 rfl (frz_loop I.fi) rfl)) (frz3 rfl (frz1 (pr_frz I.fp)) rfl) (sp_undo (n := 12) dz (frz3 rfl (frz_loop I.fi) rfl) (frz3 rfl (frz1 (pr_frz I.fp)) rfl) (bp_3 (n := 11) dz rfl rfl (frz_loop I.fi) (frz1 (pr_frz I.fp)) rfl rfl (sp_do (n := 10) dz) (sp_loop (n := 10) dz I.fi (frz1 (pr_frz I.fp)) (rp_1 (n := 9) dz I.fi I.fp h1 (I.bp 4))) (sp_do (n := 10) dz)))
  li := li_4 (n := 5) dz (frz3 rfl (frz_loop I.fi) rfl) (frz3 rfl (frz1 (pr_frz I.fp)) rfl) (li_3 (n := 4) dz I.fi I.fp I.l0 (by have := I.l1; omega) h1 h2 (by omega) (by omega) (I.li 2))
  ni := by
    refine ni_4 (n := 5) dz (frz3 rfl (frz_loop I.fi) rfl) (frz3 rfl (frz1 (pr_frz I.fp)) rfl) ?_ (ni_3 (n := 4) dz I.fi I.fp I.fit (ov_let hd hr) (ov_let hd hq) h1 h2 (by omega) (by omega) (I.ni 2))
    refine fit_due fun w hw => ?_
    simp only [List.mem_cons, List.not_mem_nil, or_false] at hw
    rcases hw with hw | hw | hw
    · cases hw; exact ov_let hd hr
    · cases m with
      | none => cases hw
      | some x => exact rep_let (I.fit x rfl).2.1 hw.symm
    · cases hw; exact ov_let hd hq
end
end K19
namespace K19
open PySem PySem.Spec PyProof.Rows L2 Eng Words
theorem toD_frz (o : Option (List Nat)) : (toD o).frz = true := by cases o <;> rfl
theorem toD_eq (o : Option (List Nat)) : eqD (toD o) (toD o) = some (.bl true) := by
  cases o with
  | none => rfl
  | some w =>
    show some (D.bl (decide (w = w))) = _
    rw [decide_eq_true rfl]
theorem due3' {a b : List Nat} {m : Option (List Nat)} : due [some (nf a), m, some (nf b)] = due [some a, m, some b] := by
  cases m with
  | none => unfold due; simp
  | some m => exact due3
theorem due_last' {a b : Option (List Nat)} {c : List Nat} : due [a, b, some (nf c)] = due [a, b, some c] := by
  cases a with
  | none => unfold due; simp
  | some a =>
    cases b with
    | none => unfold due; simp
    | some b => exact due_last
section
variable {cells : List D} {a r s t n : Int} {ns : List Int} {ds : List Nat} {inner plan : List D} {L L' t0 t1 t2 t3 : Int} {m : Option (List Nat)} {r0 r1 r2 r3 : List Nat} {o6 o9 : Option D}
theorem tail_ok (I : Inn ds inner plan L m) (hO : OkH cells a r s t n) (hn : 10 ≤ n) (hd1 : Low ds) (hd2 : 1 ≤ ds.length) (hd3 : ds.length ≤ 3) (hP : ds.Pairwise (· < ·)) (h2 : Ov ds r2) (h3 : Ov ds r3) (k2 : r2.length ≤ 11) (k3 : r3.length ≤ 11) (a0 : 1 ≤ t0) (b0 : t0 ≤ 10 ^ 50) (hL : L' = L) :
    WS tailM [some (.scr ns), some (hd true cells a r s t), some (.str ds), some (.lst false [.str r0, .str r1, .str r2, .str r3]), some (.lst false [.int t0, .int t1, .int t2, .int t3]), some (.tup inner), o6, some (.int L'), some (.tup plan), o9, some (toD m), none, none, none, none, none]
      (Eng.Fin [0] 1 (fun _ _ => False) (fun d ps => d = .bl true)) := by
  subst hL
  have fi := I.fi
  have fp := I.fp
  have Lr2 := ov_let hd1 h2
  have Lr3 := ov_let hd1 h3
  refine s_seq (ws_imp (R' := fun o => o = .nx [some (.scr ns), some (hd true cells a r s t), some (.str ds), some (.lst false [.str r0, .str r1, .str r2, .str r3]), some (.lst false [.int t0, .int t1, .int t2, .int t3]), some (.tup inner), o6, some (.int L'), some (.tup plan), o9, some (toD (m.bind fun w => rep w t0.toNat)), none, none, none, none, none]) ?_ ?_)
  · cases m with
    | none =>
      show WS _ [some (.scr ns), some (hd true cells a r s t), some (.str ds), some (.lst false [.str r0, .str r1, .str r2, .str r3]), some (.lst false [.int t0, .int t1, .int t2, .int t3]), some (.tup inner), o6, some (.int L'), some (.tup plan), o9, some .non, none, none, none, none, none] _
      (repeat' (first | with_reducible refine Eng.Stp.imp ?_ | walk_at "EV2"))
      rfl
    | some w =>
      obtain ⟨hR, hLw, hwl⟩ := I.fit w rfl
      show WS _ [some (.scr ns), some (hd true cells a r s t), some (.str ds), some (.lst false [.str r0, .str r1, .str r2, .str r3]), some (.lst false [.int t0, .int t1, .int t2, .int t3]), some (.tup inner), o6, some (.int L'), some (.tup plan), o9, some (.str w), none, none, none, none, none] _
      have hz := toD_frz (rep w t0.toNat)
      have ht := ltimes_ok hR hLw hwl a0 b0
      (repeat' (first | with_reducible refine Eng.Stp.imp ?_ | ((with_reducible refine Eng.gWF ?_); (first | with_reducible refine wf_of (ht) ?_)) | walk_at "EV2"))
      rfl
  · rintro o rfl
    have hm1 : ∀ w, (m.bind fun w => rep w t0.toNat) = some w → Let w ∧ w.length ≤ 5000 := fun w hw => by
      cases m with
      | none => cases hw
      | some x =>
        obtain ⟨hR, hLw, hwl⟩ := I.fit x rfl
        exact ⟨rep_let hLw hw, rep_len (ends_le hLw (by omega)) hw⟩
    have bd3 := bod3 I hd1 (by omega) h2 h3 k2 k3 a0 b0
    have bdU := bodU I hd1 (by omega) h2 h3 k2 k3 a0 b0
    have n2 := nf_len r2
    have n3 := nf_len r3
    have hdue : g__law_due [.lst true [.str (nf r2), toD (m.bind fun w => rep w t0.toNat), .str (nf r3)]] = .ok (toD (due [some (nf r2), m.bind (fun w => rep w t0.toNat), some (nf r3)])) [some (.lst false [.str (nf r2), toD (m.bind fun w => rep w t0.toNat), .str (nf r3)])] :=
      ldue_ok (os := [some (nf r2), m.bind (fun w => rep w t0.toNat), some (nf r3)]) (o := true) (fun w hw => by
        simp only [List.mem_cons, List.not_mem_nil, or_false] at hw
        rcases hw with hw | hw | hw
        · cases hw; exact ⟨let_nf Lr2, by omega⟩
        · exact hm1 w hw.symm
        · cases hw; exact ⟨let_nf Lr3, by omega⟩) (by simp)
    rw [due3'] at hdue
    have hdd : Fit (due [some r2, m.bind (fun w => rep w t0.toNat), some r3]) := fit_due fun w hw => by
      simp only [List.mem_cons, List.not_mem_nil, or_false] at hw
      rcases hw with hw | hw | hw
      · cases hw; exact Lr2
      · exact (hm1 w hw.symm).1
      · cases hw; exact Lr3
    have hz1 := toD_frz (m.bind fun w => rep w t0.toNat)
    have hn2 := net_law Lr2 (by omega)
    have hn3 := net_law Lr3 (by omega)
    generalize m.bind (fun w => rep w t0.toNat) = m1 at *
    generalize due [some r2, m1, some r3] = dd at *
    have hz2 := toD_frz dd
    have i0 : idxD (.lst false [.int t0, .int t1, .int t2, .int t3]) (.int 0) = some (.int t0) := rfl
    have i2 : idxD (.lst false [.str r0, .str r1, .str r2, .str r3]) (.int 2) = some (.str r2) := rfl
    have i3 : idxD (.lst false [.str r0, .str r1, .str r2, .str r3]) (.int 3) = some (.str r3) := rfl
    have f5 : (D.tup [sDo r2, sLoop inner, sDo r3]).frz = true := bd3.fi
    have f6 : (D.tup [.tup [], .tup [pr (.tup plan) t0], .tup []]).frz = true := bd3.fp
    have f7 := bdU.fi
    have f8 := bdU.fp
    have p1 := prog_ok hd1 hd2 (by omega) hP bd3.fi bd3.bl bd3.sz
    have p2 := prog_ok hd1 hd2 (by omega) hP bdU.fi bdU.bl bdU.sz
    have fr : ∀ {body : List D}, (D.tup body).frz = true → (D.ins true "Program" (prF ds body)).freeze = prD ds body := fun {body} h => by
      have e : (D.tup body).freeze = .tup body := freeze_frz _ h
      show D.ins false "Program" [("deeds", .str ds), ("body", (D.tup body).freeze), ("kept_deeds", .str ds), ("kept_parts", .dic false []), ("kept_body", (D.tup body).freeze), ("kept_flow", .non)] = _
      rw [e]
    have fr1 := fr bd3.fi
    have fr2 := fr bdU.fi
    have g1 := pr_frz' (ds := ds) bd3.fi bd3.fp bd3.bp
    have g2 := pr_frz' (ds := ds) bdU.fi bdU.fp bdU.bp
    have l1 := letters_ok (ds := ds) bd3.fi bd3.fp bd3.bp bd3.li
    have l2 := letters_ok (ds := ds) bdU.fi bdU.fp bdU.bp bdU.li
    have w1 := told_ok (ds := ds) bd3.fi bd3.fp bd3.bp bd3.xi bd3.xp bd3.ni
    have w2 := told_ok (ds := ds) bdU.fi bdU.fp bdU.bp bdU.xi bdU.xp bdU.ni
    have e1 := toD_eq dd
    have e2 := toD_eq (dd.map back)
    have cm : L' * t0 = t0 * L' := Int.mul_comm _ _
    have hl0 := I.l0
    have hl1 := I.l1
    (repeat' (first | with_reducible refine Eng.Stp.imp ?_ | ((with_reducible refine Eng.gWF ?_); (first | with_reducible refine wf_of (hn2) ?_ | with_reducible refine wf_of (hn3) ?_ | with_reducible refine wf_of (hdue) ?_ | ((with_reducible refine draw_ok (by assumption) (by omega) (by omega) (by omega) (fun c a1 r1 s1 t1 hc0 hc1 hk1 => ?_))))) | ((with_reducible refine Eng.gWO ?_); (first | ((with_reducible apply wo); (exact i0)) | ((with_reducible apply wo); (exact i2)) | ((with_reducible apply wo); (exact i3)))) | walk_at "EV2"))
    · cases dd with
      | none =>
        have q : isNonD (toD none) .non = some (.bl true) := rfl
        (repeat' (first | ((with_reducible refine w_frz ?_); (with_reducible refine get_14 ?_); (with_reducible refine put_14 ?_); (rw [fr2])) | with_reducible refine Eng.Stp.imp ?_ | ((with_reducible refine Eng.gWF ?_); (first | with_reducible refine wf_of (p2) ?_ | with_reducible refine wf_of (l2) ?_ | with_reducible refine wf_of (w2) ?_)) | ((with_reducible refine Eng.gWO ?_); (first | ((with_reducible apply wo); (exact q)) | ((with_reducible apply wo); (exact i0)) | ((with_reducible apply wo); (exact i2)) | ((with_reducible apply wo); (exact i3)) | ((with_reducible refine wo_mulX ?_ ?_ ?_); (omega); (omega)) | ((with_reducible apply wo); (exact e2)))) | ((with_reducible refine Eng.gBif ?_); (first | ((with_reducible refine Eng.bif_dT ?_ ?_); (omega)) | ((with_reducible refine Eng.bif_dF ?_ ?_); (omega)))) | walk_at "EV2"))
        rfl
      | some w =>
        obtain ⟨hR, hLw, hwl⟩ := hdd w rfl
        have q : isNonD (toD (some w)) .non = some (.bl false) := rfl
        have hb : g__law_turned [toD (some w)] = .ok (toD (some (back w))) [some (toD (some w))] := back_law hLw (by omega)
        (repeat' (first | ((with_reducible refine w_frz ?_); (with_reducible refine get_14 ?_); (with_reducible refine put_14 ?_); (rw [fr2])) | with_reducible refine Eng.Stp.imp ?_ | ((with_reducible refine Eng.gWF ?_); (first | with_reducible refine wf_of (hb) ?_ | with_reducible refine wf_of (p2) ?_ | with_reducible refine wf_of (l2) ?_ | with_reducible refine wf_of (w2) ?_)) | ((with_reducible refine Eng.gWO ?_); (first | ((with_reducible apply wo); (exact q)) | ((with_reducible apply wo); (exact i0)) | ((with_reducible apply wo); (exact i2)) | ((with_reducible apply wo); (exact i3)) | ((with_reducible refine wo_mulX ?_ ?_ ?_); (omega); (omega)) | ((with_reducible apply wo); (exact e2)))) | ((with_reducible refine Eng.gBif ?_); (first | ((with_reducible refine Eng.bif_dT ?_ ?_); (omega)) | ((with_reducible refine Eng.bif_dF ?_ ?_); (omega)))) | walk_at "EV2"))
        rfl
    · (repeat' (first | ((with_reducible refine w_frz ?_); (with_reducible refine get_14 ?_); (with_reducible refine put_14 ?_); (rw [fr1])) | with_reducible refine Eng.Stp.imp ?_ | ((with_reducible refine Eng.gWF ?_); (first | with_reducible refine wf_of (p1) ?_ | with_reducible refine wf_of (l1) ?_ | with_reducible refine wf_of (w1) ?_)) | ((with_reducible refine Eng.gWO ?_); (first | ((with_reducible apply wo); (exact i0)) | ((with_reducible apply wo); (exact i2)) | ((with_reducible apply wo); (exact i3)) | ((with_reducible refine wo_mulX ?_ ?_ ?_); (omega); (omega)) | ((with_reducible apply wo); (exact e1)))) | ((with_reducible refine Eng.gBif ?_); (first | ((with_reducible refine Eng.bif_dT ?_ ?_); (omega)) | ((with_reducible refine Eng.bif_dF ?_ ?_); (omega)))) | walk_at "EV2"))
      rfl
end
theorem law_ok {ns : List Int} (h : ns.length ≤ 63) : WF (g_law [.scr ns]) (fun _ _ => False) (fun d ps => d = .bl true) := by
  obtain ⟨cells, hh, hO⟩ := dice_ok h
  refine wf_run (ρ := [some (.scr ns), none, none, none, none, none, none, none, none, none, none, none, none, none, none, none]) rfl rfl ?_
  unfold b_law
  have hr4 : rng 0 (Int.toNat 4) = [.int 0, .int 1, .int 2, .int 3] := rfl
  (repeat' (first | ((with_reducible refine w_frzl ?_); (with_reducible refine get_3 ?_); (refine ⟨_, _, rfl, rfl, ?_⟩); (with_reducible refine put_3 ?_)) | ((with_reducible refine w_frzl ?_); (with_reducible refine get_4 ?_); (refine ⟨_, _, rfl, rfl, ?_⟩); (with_reducible refine put_4 ?_)) | with_reducible refine Eng.Stp.imp ?_ | ((with_reducible refine Eng.gWF ?_); (first | with_reducible refine wf_of (hh) ?_ | ((with_reducible refine deeds_ok (by assumption) (by omega) (fun ds a2 r2 s2 t2 hd1 hd2 hd3 hP hk2 => ?_))) | ((with_reducible refine drow_ok (by assumption) (by omega) (by assumption) (by assumption) (by omega) (fun row a2 r2 s2 t2 ho hl hk2 => ?_))) | ((with_reducible refine dtimes_ok (by assumption) (by omega) (fun tt a2 r2 s2 t2 htl htu hk2 => ?_))))) | ((with_reducible refine Eng.gW ?_); (first | with_reducible refine Eng.w_lcx ?_)) | ((with_reducible refine Eng.gLcx ?_); (first | with_reducible refine Eng.lcx_nil ?_ | with_reducible refine Eng.lcx_cons ?_)) | with_reducible refine Eng.for_nil ?_ | with_reducible refine Eng.for_cons ?_ | (rw [hr4]) | walk_at "EV2"))
  simp only [List.nil_append, List.cons_append]
  rename_i a7 b7 c7 d7 e7 w0 a6 b6 c6 d6 ho0 hl0 e6 w1 a5 b5 c5 d5 ho1 hl1 e5 w2 a4 b4 c4 d4 ho2 hl2 e4 a3 b3 c3 d3 e3 u0 p2 q2 v2 x2 l0 m0 e2 u1 p1 q1 v1 x1 l1 m1 e1 u2 p0 q0 v0 x0 l2 m2 e0
  have L0 := ov_let hd1 ho0
  have L1 := ov_let hd1 ho1
  have n0 := nf_len w0
  have n1 := nf_len w1
  have hn0 := net_law L0 (by omega)
  have hn1 := net_law L1 (by omega)
  have lt1 := ltimes_ok (red_nf w0) (let_nf L0) (by omega) l1 m1
  have lt2 := ltimes_ok (red_nf w0) (let_nf L0) (by omega) l2 m2
  have hk0 := ends_le (let_nf L0) (show (nf w0).length ≤ 1000000 by omega)
  have I1 := inn1 hd1 (by omega) ho0 hl0
  have I2 := inn2 hd1 (by omega) ho0 hl0 ho1 hl1 l1 m1 l2 m2
  have hdA : g__law_due [.lst false [toD (rep (nf w0) u1.toNat), toD (rep (nf w0) u2.toNat), .str (nf w1)]] = .ok (toD (due [rep (nf w0) u1.toNat, rep (nf w0) u2.toNat, some (nf w1)])) [some (.lst false [toD (rep (nf w0) u1.toNat), toD (rep (nf w0) u2.toNat), .str (nf w1)])] :=
    ldue_ok (os := [rep (nf w0) u1.toNat, rep (nf w0) u2.toNat, some (nf w1)]) (o := false) (fun w hw => by
      simp only [List.mem_cons, List.not_mem_nil, or_false] at hw
      rcases hw with hw | hw | hw
      · exact ⟨rep_let (let_nf L0) hw.symm, rep_len hk0 hw.symm⟩
      · exact ⟨rep_let (let_nf L0) hw.symm, rep_len hk0 hw.symm⟩
      · cases hw; exact ⟨let_nf L1, by omega⟩) (by simp)
  rw [due_last'] at hdA
  have hdB : g__law_due [.lst false [.str (nf w0)]] = .ok (toD (some (nf w0))) [some (.lst false [.str (nf w0)])] := by
    have e : due [some (nf w0)] = some (nf w0) := by
      unfold due
      have e2 : nf ([some (nf w0)].filterMap id).flatten = nf w0 := by
        simp only [List.filterMap_cons, id, List.filterMap_nil, List.flatten_cons, List.flatten_nil, List.append_nil]
        exact nf_of_red (red_nf w0)
      rw [e2, if_neg (by simp), if_pos (by omega)]
    have k := ldue_ok (os := [some (nf w0)]) (o := false) (fun w hw => by
      simp only [List.mem_cons, List.not_mem_nil, or_false] at hw
      cases hw; exact ⟨let_nf L0, by omega⟩) (by simp)
    rw [e] at k
    exact k
  have hzz : frzs [toD (rep (nf w0) u1.toNat), toD (rep (nf w0) u2.toNat), .str (nf w1)] = true := by
    show ((toD _).frz && ((toD _).frz && (true && true))) = true
    rw [toD_frz, toD_frz]; rfl
  have eL : (w0.length : Int) * (u1 + u2) + w1.length = u1 * w0.length + u2 * w0.length + w1.length := by
    rw [Int.mul_add, Int.mul_comm (w0.length : Int) u1, Int.mul_comm (w0.length : Int) u2]
  (repeat' (first | ((with_reducible refine w_frzl ?_); (with_reducible refine get_6 ?_); (refine ⟨_, _, rfl, (by first | rfl | exact hzz), ?_⟩); (with_reducible refine put_6 ?_)) | (with_reducible exact tail_ok I2 (by assumption) (by omega) hd1 hd2 hd3 hP ho2 ho hl2 hl l0 m0 eL) | (with_reducible exact tail_ok I1 (by assumption) (by omega) hd1 hd2 hd3 hP ho2 ho hl2 hl l0 m0 rfl) | with_reducible refine Eng.Stp.imp ?_ | ((with_reducible refine Eng.gWF ?_); (first | with_reducible refine wf_of (hn0) ?_ | with_reducible refine wf_of (hn1) ?_ | with_reducible refine wf_of (hdA) ?_ | with_reducible refine wf_of (hdB) ?_ | with_reducible refine wf_of (lt1) ?_ | with_reducible refine wf_of (lt2) ?_ | ((with_reducible refine draw_ok (by assumption) (by omega) (by omega) (by omega) (fun c a1 r1 s1 t1 hc0 hc1 hk1 => ?_))))) | ((with_reducible refine Eng.gWO ?_); (first | ((with_reducible refine wo_mulX ?_ ?_ ?_); (omega); (omega)))) | walk_at "EV2"))


theorem promise : ∀ ns : List Int, ns.length ≤ 63 → ∃ ps, g_law [.scr ns] = .ok (.bl true) ps := fun ns h => by
  have k := law_ok h
  unfold WF at k
  split at k
  · subst k; exact ⟨_, by assumption⟩
  · exact k.elim
  · exact k.elim
end K19
namespace K19
open PySem PySem.Spec PyProof.Rows L2 Eng
theorem all_mk {l : PySem.W.OpenLaw} {w : World} {K : PySem.W.Frag} {h : Heap} {mg : Str → Option Value} {fa : Addr} (X : K.In h) (G : h.Ns mainGlobals mg) (hfa : mg "law" = some (.ref fa))
    {p0 : Addr} {oc0 kv0 dc0 pm0 cd0 ct0 : Value} {od0 an0 : Option Addr} {sl0 : Array (Option Value)} (a0 : PySem.W.nsIn K mainGlobals "_law_dice" = some (some (.ref p0))) (l0 : K.lookup p0 = some ⟨oc0, od0, .func (PySem.W.fnOf "_law_dice" "_law_dice" (defArgs t__law_dice) (defBody t__law_dice) (defScope t__law_dice) .none kv0 dc0 pm0 an0 cd0 ct0), sl0⟩) (c0 : PySem.W.codeIn K cd0 "_law_dice" = true) (k0 : PySem.W.keepIn K (.ref p0) = true)
    {p1 : Addr} {oc1 kv1 dc1 pm1 cd1 ct1 : Value} {od1 an1 : Option Addr} {sl1 : Array (Option Value)} (a1 : PySem.W.nsIn K mainGlobals "_law_draw" = some (some (.ref p1))) (l1 : K.lookup p1 = some ⟨oc1, od1, .func (PySem.W.fnOf "_law_draw" "_law_draw" (defArgs t__law_draw) (defBody t__law_draw) (defScope t__law_draw) .none kv1 dc1 pm1 an1 cd1 ct1), sl1⟩) (c1 : PySem.W.codeIn K cd1 "_law_draw" = true) (k1 : PySem.W.keepIn K (.ref p1) = true)
    {p2 : Addr} {oc2 kv2 dc2 pm2 cd2 ct2 : Value} {od2 an2 : Option Addr} {sl2 : Array (Option Value)} (a2 : PySem.W.nsIn K mainGlobals "_law_deeds" = some (some (.ref p2))) (l2 : K.lookup p2 = some ⟨oc2, od2, .func (PySem.W.fnOf "_law_deeds" "_law_deeds" (defArgs t__law_deeds) (defBody t__law_deeds) (defScope t__law_deeds) .none kv2 dc2 pm2 an2 cd2 ct2), sl2⟩) (c2 : PySem.W.codeIn K cd2 "_law_deeds" = true) (k2 : PySem.W.keepIn K (.ref p2) = true)
    {p3 : Addr} {oc3 kv3 dc3 pm3 cd3 ct3 : Value} {od3 an3 : Option Addr} {sl3 : Array (Option Value)} (a3 : PySem.W.nsIn K mainGlobals "_law_row" = some (some (.ref p3))) (l3 : K.lookup p3 = some ⟨oc3, od3, .func (PySem.W.fnOf "_law_row" "_law_row" (defArgs t__law_row) (defBody t__law_row) (defScope t__law_row) .none kv3 dc3 pm3 an3 cd3 ct3), sl3⟩) (c3 : PySem.W.codeIn K cd3 "_law_row" = true) (k3 : PySem.W.keepIn K (.ref p3) = true)
    {p4 : Addr} {oc4 kv4 dc4 pm4 cd4 ct4 : Value} {od4 an4 : Option Addr} {sl4 : Array (Option Value)} (a4 : PySem.W.nsIn K mainGlobals "_law_other" = some (some (.ref p4))) (l4 : K.lookup p4 = some ⟨oc4, od4, .func (PySem.W.fnOf "_law_other" "_law_other" (defArgs t__law_other) (defBody t__law_other) (defScope t__law_other) .none kv4 dc4 pm4 an4 cd4 ct4), sl4⟩) (c4 : PySem.W.codeIn K cd4 "_law_other" = true) (k4 : PySem.W.keepIn K (.ref p4) = true)
    {p5 : Addr} {oc5 kv5 dc5 pm5 cd5 ct5 : Value} {od5 an5 : Option Addr} {sl5 : Array (Option Value)} (a5 : PySem.W.nsIn K mainGlobals "_law_turned" = some (some (.ref p5))) (l5 : K.lookup p5 = some ⟨oc5, od5, .func (PySem.W.fnOf "_law_turned" "_law_turned" (defArgs t__law_turned) (defBody t__law_turned) (defScope t__law_turned) .none kv5 dc5 pm5 an5 cd5 ct5), sl5⟩) (c5 : PySem.W.codeIn K cd5 "_law_turned" = true) (k5 : PySem.W.keepIn K (.ref p5) = true)
    {p6 : Addr} {oc6 kv6 dc6 pm6 cd6 ct6 : Value} {od6 an6 : Option Addr} {sl6 : Array (Option Value)} (a6 : PySem.W.nsIn K mainGlobals "_law_drawn_row" = some (some (.ref p6))) (l6 : K.lookup p6 = some ⟨oc6, od6, .func (PySem.W.fnOf "_law_drawn_row" "_law_drawn_row" (defArgs t__law_drawn_row) (defBody t__law_drawn_row) (defScope t__law_drawn_row) .none kv6 dc6 pm6 an6 cd6 ct6), sl6⟩) (c6 : PySem.W.codeIn K cd6 "_law_drawn_row" = true) (k6 : PySem.W.keepIn K (.ref p6) = true)
    {p7 : Addr} {oc7 kv7 dc7 pm7 cd7 ct7 : Value} {od7 an7 : Option Addr} {sl7 : Array (Option Value)} (a7 : PySem.W.nsIn K mainGlobals "_law_drawn_times" = some (some (.ref p7))) (l7 : K.lookup p7 = some ⟨oc7, od7, .func (PySem.W.fnOf "_law_drawn_times" "_law_drawn_times" (defArgs t__law_drawn_times) (defBody t__law_drawn_times) (defScope t__law_drawn_times) .none kv7 dc7 pm7 an7 cd7 ct7), sl7⟩) (c7 : PySem.W.codeIn K cd7 "_law_drawn_times" = true) (k7 : PySem.W.keepIn K (.ref p7) = true)
    {p8 : Addr} {oc8 kv8 dc8 pm8 cd8 ct8 : Value} {od8 an8 : Option Addr} {sl8 : Array (Option Value)} (a8 : PySem.W.nsIn K mainGlobals "_law_net" = some (some (.ref p8))) (l8 : K.lookup p8 = some ⟨oc8, od8, .func (PySem.W.fnOf "_law_net" "_law_net" (defArgs t__law_net) (defBody t__law_net) (defScope t__law_net) .none kv8 dc8 pm8 an8 cd8 ct8), sl8⟩) (c8 : PySem.W.codeIn K cd8 "_law_net" = true) (k8 : PySem.W.keepIn K (.ref p8) = true)
    {p9 : Addr} {oc9 kv9 dc9 pm9 cd9 ct9 : Value} {od9 an9 : Option Addr} {sl9 : Array (Option Value)} (a9 : PySem.W.nsIn K mainGlobals "_law_times" = some (some (.ref p9))) (l9 : K.lookup p9 = some ⟨oc9, od9, .func (PySem.W.fnOf "_law_times" "_law_times" (defArgs t__law_times) (defBody t__law_times) (defScope t__law_times) .none kv9 dc9 pm9 an9 cd9 ct9), sl9⟩) (c9 : PySem.W.codeIn K cd9 "_law_times" = true) (k9 : PySem.W.keepIn K (.ref p9) = true)
    {p10 : Addr} {oc10 kv10 dc10 pm10 cd10 ct10 : Value} {od10 an10 : Option Addr} {sl10 : Array (Option Value)} (a10 : PySem.W.nsIn K mainGlobals "_law_due" = some (some (.ref p10))) (l10 : K.lookup p10 = some ⟨oc10, od10, .func (PySem.W.fnOf "_law_due" "_law_due" (defArgs t__law_due) (defBody t__law_due) (defScope t__law_due) .none kv10 dc10 pm10 an10 cd10 ct10), sl10⟩) (c10 : PySem.W.codeIn K cd10 "_law_due" = true) (k10 : PySem.W.keepIn K (.ref p10) = true)
    {p11 : Addr} {oc11 kv11 dc11 pm11 cd11 ct11 : Value} {od11 an11 : Option Addr} {sl11 : Array (Option Value)} (a11 : PySem.W.nsIn K mainGlobals "is_string_of" = some (some (.ref p11))) (l11 : K.lookup p11 = some ⟨oc11, od11, .func (PySem.W.fnOf "is_string_of" "is_string_of" (defArgs t_is_string_of) (defBody t_is_string_of) (defScope t_is_string_of) .none kv11 dc11 pm11 an11 cd11 ct11), sl11⟩) (c11 : PySem.W.codeIn K cd11 "is_string_of" = true) (k11 : PySem.W.keepIn K (.ref p11) = true)
    {p12 : Addr} {oc12 kv12 dc12 pm12 cd12 ct12 : Value} {od12 an12 : Option Addr} {sl12 : Array (Option Value)} (a12 : PySem.W.nsIn K mainGlobals "is_word" = some (some (.ref p12))) (l12 : K.lookup p12 = some ⟨oc12, od12, .func (PySem.W.fnOf "is_word" "is_word" (defArgs t_is_word) (defBody t_is_word) (defScope t_is_word) .none kv12 dc12 pm12 an12 cd12 ct12), sl12⟩) (c12 : PySem.W.codeIn K cd12 "is_word" = true) (k12 : PySem.W.keepIn K (.ref p12) = true)
    {p13 : Addr} {oc13 kv13 dc13 pm13 cd13 ct13 : Value} {od13 an13 : Option Addr} {sl13 : Array (Option Value)} (a13 : PySem.W.nsIn K mainGlobals "is_deeds" = some (some (.ref p13))) (l13 : K.lookup p13 = some ⟨oc13, od13, .func (PySem.W.fnOf "is_deeds" "is_deeds" (defArgs t_is_deeds) (defBody t_is_deeds) (defScope t_is_deeds) .none kv13 dc13 pm13 an13 cd13 ct13), sl13⟩) (c13 : PySem.W.codeIn K cd13 "is_deeds" = true) (k13 : PySem.W.keepIn K (.ref p13) = true)
    {p14 : Addr} {oc14 kv14 dc14 pm14 cd14 ct14 : Value} {od14 an14 : Option Addr} {sl14 : Array (Option Value)} (a14 : PySem.W.nsIn K mainGlobals "goes_round" = some (some (.ref p14))) (l14 : K.lookup p14 = some ⟨oc14, od14, .func (PySem.W.fnOf "goes_round" "goes_round" (defArgs t_goes_round) (defBody t_goes_round) (defScope t_goes_round) .none kv14 dc14 pm14 an14 cd14 ct14), sl14⟩) (c14 : PySem.W.codeIn K cd14 "goes_round" = true) (k14 : PySem.W.keepIn K (.ref p14) = true)
    {p15 : Addr} {oc15 kv15 dc15 pm15 cd15 ct15 : Value} {od15 an15 : Option Addr} {sl15 : Array (Option Value)} (a15 : PySem.W.nsIn K mainGlobals "are_parts" = some (some (.ref p15))) (l15 : K.lookup p15 = some ⟨oc15, od15, .func (PySem.W.fnOf "are_parts" "are_parts" (defArgs t_are_parts) (defBody t_are_parts) (defScope t_are_parts) .none kv15 dc15 pm15 an15 cd15 ct15), sl15⟩) (c15 : PySem.W.codeIn K cd15 "are_parts" = true) (k15 : PySem.W.keepIn K (.ref p15) = true)
    {p16 : Addr} {oc16 kv16 dc16 pm16 cd16 ct16 : Value} {od16 an16 : Option Addr} {sl16 : Array (Option Value)} (a16 : PySem.W.nsIn K mainGlobals "is_pair" = some (some (.ref p16))) (l16 : K.lookup p16 = some ⟨oc16, od16, .func (PySem.W.fnOf "is_pair" "is_pair" (defArgs t_is_pair) (defBody t_is_pair) (defScope t_is_pair) .none kv16 dc16 pm16 an16 cd16 ct16), sl16⟩) (c16 : PySem.W.codeIn K cd16 "is_pair" = true) (k16 : PySem.W.keepIn K (.ref p16) = true)
    {p17 : Addr} {oc17 kv17 dc17 pm17 cd17 ct17 : Value} {od17 an17 : Option Addr} {sl17 : Array (Option Value)} (a17 : PySem.W.nsIn K mainGlobals "is_row_over" = some (some (.ref p17))) (l17 : K.lookup p17 = some ⟨oc17, od17, .func (PySem.W.fnOf "is_row_over" "is_row_over" (defArgs t_is_row_over) (defBody t_is_row_over) (defScope t_is_row_over) .none kv17 dc17 pm17 an17 cd17 ct17), sl17⟩) (c17 : PySem.W.codeIn K cd17 "is_row_over" = true) (k17 : PySem.W.keepIn K (.ref p17) = true)
    {p18 : Addr} {oc18 kv18 dc18 pm18 cd18 ct18 : Value} {od18 an18 : Option Addr} {sl18 : Array (Option Value)} (a18 : PySem.W.nsIn K mainGlobals "is_block" = some (some (.ref p18))) (l18 : K.lookup p18 = some ⟨oc18, od18, .func (PySem.W.fnOf "is_block" "is_block" (defArgs t_is_block) (defBody t_is_block) (defScope t_is_block) .none kv18 dc18 pm18 an18 cd18 ct18), sl18⟩) (c18 : PySem.W.codeIn K cd18 "is_block" = true) (k18 : PySem.W.keepIn K (.ref p18) = true)
    {p19 : Addr} {oc19 kv19 dc19 pm19 cd19 ct19 : Value} {od19 an19 : Option Addr} {sl19 : Array (Option Value)} (a19 : PySem.W.nsIn K mainGlobals "is_statement" = some (some (.ref p19))) (l19 : K.lookup p19 = some ⟨oc19, od19, .func (PySem.W.fnOf "is_statement" "is_statement" (defArgs t_is_statement) (defBody t_is_statement) (defScope t_is_statement) .none kv19 dc19 pm19 an19 cd19 ct19), sl19⟩) (c19 : PySem.W.codeIn K cd19 "is_statement" = true) (k19 : PySem.W.keepIn K (.ref p19) = true)
    {p20 : Addr} {oc20 kv20 dc20 pm20 cd20 ct20 : Value} {od20 an20 : Option Addr} {sl20 : Array (Option Value)} (l20 : K.lookup p20 = some ⟨oc20, od20, .func (PySem.W.fnOf "block" "Sizes.block" (defArgs t_Sizes_block) (defBody t_Sizes_block) (defScope t_Sizes_block) .none kv20 dc20 pm20 an20 cd20 ct20), sl20⟩) (c20 : PySem.W.codeIn K cd20 "Sizes.block" = true) (k20 : PySem.W.keepIn K (.ref p20) = true)
    {p21 : Addr} {oc21 kv21 dc21 pm21 cd21 ct21 : Value} {od21 an21 : Option Addr} {sl21 : Array (Option Value)} (l21 : K.lookup p21 = some ⟨oc21, od21, .func (PySem.W.fnOf "statement" "Sizes.statement" (defArgs t_Sizes_statement) (defBody t_Sizes_statement) (defScope t_Sizes_statement) .none kv21 dc21 pm21 an21 cd21 ct21), sl21⟩) (c21 : PySem.W.codeIn K cd21 "Sizes.statement" = true) (k21 : PySem.W.keepIn K (.ref p21) = true)
    {p22 : Addr} {oc22 kv22 dc22 pm22 cd22 ct22 : Value} {od22 an22 : Option Addr} {sl22 : Array (Option Value)} (l22 : K.lookup p22 = some ⟨oc22, od22, .func (PySem.W.fnOf "__init__" "Sizes.__init__" (defArgs t_Sizes_init) (defBody t_Sizes_init) (defScope t_Sizes_init) .none kv22 dc22 pm22 an22 cd22 ct22), sl22⟩) (c22 : PySem.W.codeIn K cd22 "Sizes.__init__" = true) (k22 : PySem.W.keepIn K (.ref p22) = true)
    {p23 : Addr} {oc23 kv23 dc23 pm23 cd23 ct23 : Value} {od23 an23 : Option Addr} {sl23 : Array (Option Value)} (l23 : K.lookup p23 = some ⟨oc23, od23, .func (PySem.W.fnOf "__init__" "Program.__init__" (defArgs t_Program_init) (defBody t_Program_init) (defScope t_Program_init) .none kv23 dc23 pm23 an23 cd23 ct23), sl23⟩) (c23 : PySem.W.codeIn K cd23 "Program.__init__" = true) (k23 : PySem.W.keepIn K (.ref p23) = true)
    {p24 : Addr} {oc24 kv24 dc24 pm24 cd24 ct24 : Value} {od24 an24 : Option Addr} {sl24 : Array (Option Value)} (a24 : PySem.W.nsIn K mainGlobals "is_integer" = some (some (.ref p24))) (l24 : K.lookup p24 = some ⟨oc24, od24, .func (PySem.W.fnOf "is_integer" "is_integer" (defArgs t_is_integer) (defBody t_is_integer) (defScope t_is_integer) .none kv24 dc24 pm24 an24 cd24 ct24), sl24⟩) (c24 : PySem.W.codeIn K cd24 "is_integer" = true) (k24 : PySem.W.keepIn K (.ref p24) = true)
    {p25 : Addr} {oc25 kv25 dc25 pm25 cd25 ct25 : Value} {od25 an25 : Option Addr} {sl25 : Array (Option Value)} (a25 : PySem.W.nsIn K mainGlobals "is_block_plan" = some (some (.ref p25))) (l25 : K.lookup p25 = some ⟨oc25, od25, .func (PySem.W.fnOf "is_block_plan" "is_block_plan" (defArgs t_is_block_plan) (defBody t_is_block_plan) (defScope t_is_block_plan) .none kv25 dc25 pm25 an25 cd25 ct25), sl25⟩) (c25 : PySem.W.codeIn K cd25 "is_block_plan" = true) (k25 : PySem.W.keepIn K (.ref p25) = true)
    {p26 : Addr} {oc26 kv26 dc26 pm26 cd26 ct26 : Value} {od26 an26 : Option Addr} {sl26 : Array (Option Value)} (a26 : PySem.W.nsIn K mainGlobals "is_statement_plan" = some (some (.ref p26))) (l26 : K.lookup p26 = some ⟨oc26, od26, .func (PySem.W.fnOf "is_statement_plan" "is_statement_plan" (defArgs t_is_statement_plan) (defBody t_is_statement_plan) (defScope t_is_statement_plan) .none kv26 dc26 pm26 an26 cd26 ct26), sl26⟩) (c26 : PySem.W.codeIn K cd26 "is_statement_plan" = true) (k26 : PySem.W.keepIn K (.ref p26) = true)
    {p27 : Addr} {oc27 kv27 dc27 pm27 cd27 ct27 : Value} {od27 an27 : Option Addr} {sl27 : Array (Option Value)} (a27 : PySem.W.nsIn K mainGlobals "are_rounds" = some (some (.ref p27))) (l27 : K.lookup p27 = some ⟨oc27, od27, .func (PySem.W.fnOf "are_rounds" "are_rounds" (defArgs t_are_rounds) (defBody t_are_rounds) (defScope t_are_rounds) .none kv27 dc27 pm27 an27 cd27 ct27), sl27⟩) (c27 : PySem.W.codeIn K cd27 "are_rounds" = true) (k27 : PySem.W.keepIn K (.ref p27) = true)
    {p28 : Addr} {oc28 kv28 dc28 pm28 cd28 ct28 : Value} {od28 an28 : Option Addr} {sl28 : Array (Option Value)} (a28 : PySem.W.nsIn K mainGlobals "is_choice" = some (some (.ref p28))) (l28 : K.lookup p28 = some ⟨oc28, od28, .func (PySem.W.fnOf "is_choice" "is_choice" (defArgs t_is_choice) (defBody t_is_choice) (defScope t_is_choice) .none kv28 dc28 pm28 an28 cd28 ct28), sl28⟩) (c28 : PySem.W.codeIn K cd28 "is_choice" = true) (k28 : PySem.W.keepIn K (.ref p28) = true)
    {p29 : Addr} {oc29 kv29 dc29 pm29 cd29 ct29 : Value} {od29 an29 : Option Addr} {sl29 : Array (Option Value)} (a29 : PySem.W.nsIn K mainGlobals "is_plan" = some (some (.ref p29))) (l29 : K.lookup p29 = some ⟨oc29, od29, .func (PySem.W.fnOf "is_plan" "is_plan" (defArgs t_is_plan) (defBody t_is_plan) (defScope t_is_plan) .none kv29 dc29 pm29 an29 cd29 ct29), sl29⟩) (c29 : PySem.W.codeIn K cd29 "is_plan" = true) (k29 : PySem.W.keepIn K (.ref p29) = true)
    {p30 : Addr} {oc30 kv30 dc30 pm30 cd30 ct30 : Value} {od30 an30 : Option Addr} {sl30 : Array (Option Value)} (a30 : PySem.W.nsIn K mainGlobals "check_plan" = some (some (.ref p30))) (l30 : K.lookup p30 = some ⟨oc30, od30, .func (PySem.W.fnOf "check_plan" "check_plan" (defArgs t_check_plan) (defBody t_check_plan) (defScope t_check_plan) .none kv30 dc30 pm30 an30 cd30 ct30), sl30⟩) (c30 : PySem.W.codeIn K cd30 "check_plan" = true) (k30 : PySem.W.keepIn K (.ref p30) = true)
    {p31 : Addr} {oc31 kv31 dc31 pm31 cd31 ct31 : Value} {od31 an31 : Option Addr} {sl31 : Array (Option Value)} (a31 : PySem.W.nsIn K mainGlobals "once_within" = some (some (.ref p31))) (l31 : K.lookup p31 = some ⟨oc31, od31, .func (PySem.W.fnOf "once_within" "once_within" (defArgs t_once_within) (defBody t_once_within) (defScope t_once_within) .none kv31 dc31 pm31 an31 cd31 ct31), sl31⟩) (c31 : PySem.W.codeIn K cd31 "once_within" = true) (k31 : PySem.W.keepIn K (.ref p31) = true)
    {p32 : Addr} {oc32 kv32 dc32 pm32 cd32 ct32 : Value} {od32 an32 : Option Addr} {sl32 : Array (Option Value)} (a32 : PySem.W.nsIn K mainGlobals "letters_in" = some (some (.ref p32))) (l32 : K.lookup p32 = some ⟨oc32, od32, .func (PySem.W.fnOf "letters_in" "letters_in" (defArgs t_letters_in) (defBody t_letters_in) (defScope t_letters_in) .none kv32 dc32 pm32 an32 cd32 ct32), sl32⟩) (c32 : PySem.W.codeIn K cd32 "letters_in" = true) (k32 : PySem.W.keepIn K (.ref p32) = true)
    {p33 : Addr} {oc33 kv33 dc33 pm33 cd33 ct33 : Value} {od33 an33 : Option Addr} {sl33 : Array (Option Value)} (a33 : PySem.W.nsIn K mainGlobals "letters_of" = some (some (.ref p33))) (l33 : K.lookup p33 = some ⟨oc33, od33, .func (PySem.W.fnOf "letters_of" "letters_of" (defArgs t_letters_of) (defBody t_letters_of) (defScope t_letters_of) .none kv33 dc33 pm33 an33 cd33 ct33), sl33⟩) (c33 : PySem.W.codeIn K cd33 "letters_of" = true) (k33 : PySem.W.keepIn K (.ref p33) = true)
    {p34 : Addr} {oc34 kv34 dc34 pm34 cd34 ct34 : Value} {od34 an34 : Option Addr} {sl34 : Array (Option Value)} (a34 : PySem.W.nsIn K mainGlobals "undoing_of" = some (some (.ref p34))) (l34 : K.lookup p34 = some ⟨oc34, od34, .func (PySem.W.fnOf "undoing_of" "undoing_of" (defArgs t_undoing_of) (defBody t_undoing_of) (defScope t_undoing_of) .none kv34 dc34 pm34 an34 cd34 ct34), sl34⟩) (c34 : PySem.W.codeIn K cd34 "undoing_of" = true) (k34 : PySem.W.keepIn K (.ref p34) = true)
    {p35 : Addr} {oc35 kv35 dc35 pm35 cd35 ct35 : Value} {od35 an35 : Option Addr} {sl35 : Array (Option Value)} (a35 : PySem.W.nsIn K mainGlobals "bent" = some (some (.ref p35))) (l35 : K.lookup p35 = some ⟨oc35, od35, .func (PySem.W.fnOf "bent" "bent" (defArgs t_bent) (defBody t_bent) (defScope t_bent) .none kv35 dc35 pm35 an35 cd35 ct35), sl35⟩) (c35 : PySem.W.codeIn K cd35 "bent" = true) (k35 : PySem.W.keepIn K (.ref p35) = true)
    {p36 : Addr} {oc36 kv36 dc36 pm36 cd36 ct36 : Value} {od36 an36 : Option Addr} {sl36 : Array (Option Value)} (a36 : PySem.W.nsIn K mainGlobals "turned_about" = some (some (.ref p36))) (l36 : K.lookup p36 = some ⟨oc36, od36, .func (PySem.W.fnOf "turned_about" "turned_about" (defArgs t_turned_about) (defBody t_turned_about) (defScope t_turned_about) .none kv36 dc36 pm36 an36 cd36 ct36), sl36⟩) (c36 : PySem.W.codeIn K cd36 "turned_about" = true) (k36 : PySem.W.keepIn K (.ref p36) = true)
    {p37 : Addr} {oc37 kv37 dc37 pm37 cd37 ct37 : Value} {od37 an37 : Option Addr} {sl37 : Array (Option Value)} (a37 : PySem.W.nsIn K mainGlobals "power_letters" = some (some (.ref p37))) (l37 : K.lookup p37 = some ⟨oc37, od37, .func (PySem.W.fnOf "power_letters" "power_letters" (defArgs t_power_letters) (defBody t_power_letters) (defScope t_power_letters) .none kv37 dc37 pm37 an37 cd37 ct37), sl37⟩) (c37 : PySem.W.codeIn K cd37 "power_letters" = true) (k37 : PySem.W.keepIn K (.ref p37) = true)
    {p38 : Addr} {oc38 kv38 dc38 pm38 cd38 ct38 : Value} {od38 an38 : Option Addr} {sl38 : Array (Option Value)} (a38 : PySem.W.nsIn K mainGlobals "repeated" = some (some (.ref p38))) (l38 : K.lookup p38 = some ⟨oc38, od38, .func (PySem.W.fnOf "repeated" "repeated" (defArgs t_repeated) (defBody t_repeated) (defScope t_repeated) .none kv38 dc38 pm38 an38 cd38 ct38), sl38⟩) (c38 : PySem.W.codeIn K cd38 "repeated" = true) (k38 : PySem.W.keepIn K (.ref p38) = true)
    {p39 : Addr} {oc39 kv39 dc39 pm39 cd39 ct39 : Value} {od39 an39 : Option Addr} {sl39 : Array (Option Value)} (a39 : PySem.W.nsIn K mainGlobals "net_letters" = some (some (.ref p39))) (l39 : K.lookup p39 = some ⟨oc39, od39, .func (PySem.W.fnOf "net_letters" "net_letters" (defArgs t_net_letters) (defBody t_net_letters) (defScope t_net_letters) .none kv39 dc39 pm39 an39 cd39 ct39), sl39⟩) (c39 : PySem.W.codeIn K cd39 "net_letters" = true) (k39 : PySem.W.keepIn K (.ref p39) = true)
    {p40 : Addr} {oc40 kv40 dc40 pm40 cd40 ct40 : Value} {od40 an40 : Option Addr} {sl40 : Array (Option Value)} (a40 : PySem.W.nsIn K mainGlobals "net_in" = some (some (.ref p40))) (l40 : K.lookup p40 = some ⟨oc40, od40, .func (PySem.W.fnOf "net_in" "net_in" (defArgs t_net_in) (defBody t_net_in) (defScope t_net_in) .none kv40 dc40 pm40 an40 cd40 ct40), sl40⟩) (c40 : PySem.W.codeIn K cd40 "net_in" = true) (k40 : PySem.W.keepIn K (.ref p40) = true)
    {p41 : Addr} {oc41 kv41 dc41 pm41 cd41 ct41 : Value} {od41 an41 : Option Addr} {sl41 : Array (Option Value)} (a41 : PySem.W.nsIn K mainGlobals "net_of" = some (some (.ref p41))) (l41 : K.lookup p41 = some ⟨oc41, od41, .func (PySem.W.fnOf "net_of" "net_of" (defArgs t_net_of) (defBody t_net_of) (defScope t_net_of) .none kv41 dc41 pm41 an41 cd41 ct41), sl41⟩) (c41 : PySem.W.codeIn K cd41 "net_of" = true) (k41 : PySem.W.keepIn K (.ref p41) = true)
    {p42 : Addr} {oc42 kv42 dc42 pm42 cd42 ct42 : Value} {od42 an42 : Option Addr} {sl42 : Array (Option Value)} (a42 : PySem.W.nsIn K mainGlobals "_law_told" = some (some (.ref p42))) (l42 : K.lookup p42 = some ⟨oc42, od42, .func (PySem.W.fnOf "_law_told" "_law_told" (defArgs t__law_told) (defBody t__law_told) (defScope t__law_told) .none kv42 dc42 pm42 an42 cd42 ct42), sl42⟩) (c42 : PySem.W.codeIn K cd42 "_law_told" = true) (k42 : PySem.W.keepIn K (.ref p42) = true)
    {p43 : Addr} {oc43 kv43 dc43 pm43 cd43 ct43 : Value} {od43 an43 : Option Addr} {sl43 : Array (Option Value)} (a43 : PySem.W.nsIn K mainGlobals "law" = some (some (.ref p43))) (l43 : K.lookup p43 = some ⟨oc43, od43, .func (PySem.W.fnOf "law" "law" (defArgs t_law) (defBody t_law) (defScope t_law) .none kv43 dc43 pm43 an43 cd43 ct43), sl43⟩) (c43 : PySem.W.codeIn K cd43 "law" = true) (k43 : PySem.W.keepIn K (.ref p43) = true)
    (z_abs : PySem.W.nsIn K mainGlobals "abs" = some none)
    (z_all : PySem.W.nsIn K mainGlobals "all" = some none)
    (z_any : PySem.W.nsIn K mainGlobals "any" = some none)
    (z_bool : PySem.W.nsIn K mainGlobals "bool" = some none)
    (z_dict : PySem.W.nsIn K mainGlobals "dict" = some none)
    (z_enumerate : PySem.W.nsIn K mainGlobals "enumerate" = some none)
    (z_int : PySem.W.nsIn K mainGlobals "int" = some none)
    (z_isinstance : PySem.W.nsIn K mainGlobals "isinstance" = some none)
    (z_len : PySem.W.nsIn K mainGlobals "len" = some none)
    (z_list : PySem.W.nsIn K mainGlobals "list" = some none)
    (z_max : PySem.W.nsIn K mainGlobals "max" = some none)
    (z_range : PySem.W.nsIn K mainGlobals "range" = some none)
    (z_sorted : PySem.W.nsIn K mainGlobals "sorted" = some none)
    (z_str : PySem.W.nsIn K mainGlobals "str" = some none)
    (z_sum : PySem.W.nsIn K mainGlobals "sum" = some none)
    (z_tuple : PySem.W.nsIn K mainGlobals "tuple" = some none)
    (z_zip : PySem.W.nsIn K mainGlobals "zip" = some none)
    {t_c_MOST_ARROWS : Tok} (y_MOST_ARROWS : PySem.W.nsIn K mainGlobals "MOST_ARROWS" = some (some (.int 200 t_c_MOST_ARROWS)))
    {t_c_MOST_BLOCKS : Tok} (y_MOST_BLOCKS : PySem.W.nsIn K mainGlobals "MOST_BLOCKS" = some (some (.int 4 t_c_MOST_BLOCKS)))
    {t_c_MOST_DEEP : Tok} (y_MOST_DEEP : PySem.W.nsIn K mainGlobals "MOST_DEEP" = some (some (.int 6 t_c_MOST_DEEP)))
    {t_c_MOST_LETTERS_blocks : Tok} (y_MOST_LETTERS_blocks : PySem.W.nsIn K mainGlobals "MOST_LETTERS_blocks" = some (some (.int 12 t_c_MOST_LETTERS_blocks)))
    {t_c_MOST_LETTERS_plans : Tok} (y_MOST_LETTERS_plans : PySem.W.nsIn K mainGlobals "MOST_LETTERS_plans" = some (some (.int 5000 t_c_MOST_LETTERS_plans)))
    {t_c_MOST_PARTS : Tok} (y_MOST_PARTS : PySem.W.nsIn K mainGlobals "MOST_PARTS" = some (some (.int 4 t_c_MOST_PARTS)))
    {t_c_MOST_PLACES : Tok} (y_MOST_PLACES : PySem.W.nsIn K mainGlobals "MOST_PLACES" = some (some (.int 60 t_c_MOST_PLACES)))
    {t_c_MOST_STATEMENTS : Tok} (y_MOST_STATEMENTS : PySem.W.nsIn K mainGlobals "MOST_STATEMENTS" = some (some (.int 8 t_c_MOST_STATEMENTS)))
    {t_c_SMALL : Tok} (y_SMALL : PySem.W.nsIn K mainGlobals "SMALL" = some (some (.str ⟨c_SMALL.toArray⟩ t_c_SMALL)))
    {C_Program : Addr}
    (aE_Program : PySem.W.nsIn K mainGlobals "Program" = some (some (.ref C_Program)))
    {C_Sizes : Addr}
    (aE_Sizes : PySem.W.nsIn K mainGlobals "Sizes" = some (some (.ref C_Sizes)))
    {C_TooLong : Addr}
    (aE_TooLong : PySem.W.nsIn K mainGlobals "TooLong" = some (some (.ref C_TooLong)))
    (pgE_Program : PySem.W.plainGet K C_Program Str.empty = true)
    (hdE_Program : PySem.W.hasDictIn K C_Program = true)
    (poE_Program : PySem.W.plainOver K C_Program = true)
    (saE_Program : PySem.W.findIn K (.ref C_Program) "__setattr__" = some (some (.builtin "object.__setattr__")))
    (nE_Program_deeds : PySem.W.findIn K (.ref C_Program) "deeds" = some none)
    (nE_Program_body : PySem.W.findIn K (.ref C_Program) "body" = some none)
    (nE_Program_kept_deeds : PySem.W.findIn K (.ref C_Program) "kept_deeds" = some none)
    (nE_Program_kept_parts : PySem.W.findIn K (.ref C_Program) "kept_parts" = some none)
    (nE_Program_kept_body : PySem.W.findIn K (.ref C_Program) "kept_body" = some none)
    (nE_Program_kept_flow : PySem.W.findIn K (.ref C_Program) "kept_flow" = some none)
    (pgE_Sizes : PySem.W.plainGet K C_Sizes Str.empty = true)
    (hdE_Sizes : PySem.W.hasDictIn K C_Sizes = true)
    (poE_Sizes : PySem.W.plainOver K C_Sizes = true)
    (saE_Sizes : PySem.W.findIn K (.ref C_Sizes) "__setattr__" = some (some (.builtin "object.__setattr__")))
    (nE_Sizes_parts_asked : PySem.W.findIn K (.ref C_Sizes) "parts_asked" = some none)
    (nE_Sizes_known : PySem.W.findIn K (.ref C_Sizes) "known" = some none)
    (iM20 : PySem.W.findIn K (.ref C_Sizes) "block" = some (some (.ref p20)))
    (fM20 : PySem.W.isFn K (.ref p20) = true)
    (iM21 : PySem.W.findIn K (.ref C_Sizes) "statement" = some (some (.ref p21)))
    (fM21 : PySem.W.isFn K (.ref p21) = true)
    (iM22 : PySem.W.findIn K (.ref C_Sizes) "__init__" = some (some (.ref p22)))
    (fM22 : PySem.W.isFn K (.ref p22) = true)
    (mkE_Sizes : PySem.W.makesIn K C_Sizes = true)
    (kcE_Sizes : PySem.W.keepIn K (.ref C_Sizes) = true)
    (iM23 : PySem.W.findIn K (.ref C_Program) "__init__" = some (some (.ref p23)))
    (fM23 : PySem.W.isFn K (.ref p23) = true)
    (mkE_Program : PySem.W.makesIn K C_Program = true)
    (kcE_Program : PySem.W.keepIn K (.ref C_Program) = true)
    {fS_TooLong cdS_TooLong ccS_TooLong : Addr} {kS_TooLong oS_TooLong mS_TooLong tS_TooLong : Value} {nS_TooLong eS_TooLong : Option Addr} {lS_TooLong : Array (Option Value)} {c1_TooLong c4_TooLong : Value} {c2_TooLong c5_TooLong : Option Addr} {vS_TooLong : Array Value} {c3_TooLong c6_TooLong : Array (Option Value)} {gS_TooLong : Str} {hS_TooLong : Tok}
    (s1_TooLong : PySem.W.excInitIn K C_TooLong veMro "ValueError.__new__" = true)
    (s2_TooLong : PySem.W.hasDictIn K C_TooLong = true)
    (s3_TooLong : PySem.W.findIn K (.ref C_TooLong) "__setattr__" = some (some (.builtin "object.__setattr__")))
    (s4_TooLong : PySem.W.subIn K (.ref C_TooLong) (.type "BaseException") = some true)
    (s5_TooLong : PySem.W.typeIn K (.ref C_TooLong) = some (.type "type"))
    (s6_TooLong : PySem.W.keepIn K (.ref C_TooLong) = true)
    (s7_TooLong : PySem.W.findIn K (.ref C_TooLong) "__init__" = some (some (.ref fS_TooLong)))
    (s8_TooLong : PySem.W.findIn K (.ref C_TooLong) "most" = some none)
    (s9_TooLong : K.lookup fS_TooLong = some ⟨.type "function", eS_TooLong, .func (PySem.W.ksFn "__init__" "TooLong.__init__" (defArgs (inClass (topS 4) 0)) (defBody (inClass (topS 4) 0)) (defScope (inClass (topS 4) 0)) .none kS_TooLong oS_TooLong mS_TooLong nS_TooLong (.ref cdS_TooLong) tS_TooLong ccS_TooLong), lS_TooLong⟩)
    (sa_TooLong : PySem.W.codeIn K (.ref cdS_TooLong) "TooLong.__init__" = true)
    (sb_TooLong : K.lookup cdS_TooLong = some ⟨c1_TooLong, c2_TooLong, .fields vS_TooLong, c3_TooLong⟩)
    (sc_TooLong : vS_TooLong[2]? = some (.str gS_TooLong hS_TooLong))
    (sd_TooLong : ((l.prog.main.file : Str) == gS_TooLong) = true)
    (se_TooLong : K.lookup ccS_TooLong = some ⟨c4_TooLong, c5_TooLong, .cell (some (.ref C_TooLong)), c6_TooLong⟩)
    (sf_TooLong : PySem.W.mroIn K C_TooLong (.ref C_TooLong) = some true)
    (sg_TooLong : PySem.W.nsIn K mainGlobals "super" = some none)
    (sh_TooLong : (l.prog.main.scope.names.lookup ("super" : Str)).isSome = false)
    (si_TooLong : PySem.W.nsIn K cStatics "thirdparty.any" = some none)
    (sj_TooLong : PySem.W.ks_superIn K C_TooLong C_TooLong "__init__" = some (some (.builtin "ValueError.__init__")))
    (sk_TooLong : PySem.W.subIn K (.ref C_TooLong) (.type "ValueError") = some true)
    (xa_TooLong : PySem.W.findIn K (.ref C_TooLong) "__getattribute__" = some (some (.builtin "BaseException.__getattribute__")))
    (xb_TooLong : PySem.W.findIn K (.ref C_TooLong) "__getattr__" = some none)
    (xc_TooLong : PySem.W.subIn K (.ref C_TooLong) (.type "BaseException") = some true)
    (xd_TooLong : PySem.W.hasDictIn K C_TooLong = true)
    (xe_TooLong_most : PySem.W.findIn K (.ref C_TooLong) "most" = some none)
    (bE_TooLong : PySem.W.subIn K (.ref C_TooLong) (.type "BaseException") = some true)
    (tE_TooLong : PySem.W.typeIn K (.ref C_TooLong) = some (.type "type"))
    (dE_TooLong : PySem.W.hasDictIn K C_TooLong = true)
    (sE_TooLong_TooLong : PySem.W.subIn K (.ref C_TooLong) (.ref C_TooLong) = some true)
    : ∃ fd : FuncData, (∀ (s : Shared) (v : Value), BindsTo s fd ⟨[v], []⟩ [("script", v)]) ∧ ∀ base : Heap, K.In base → base.Ns mainGlobals mg → FnOk l.prog w K mg base (L2.CX l.prog w) 21 fa fd ["script"] (spLaw K) := by
  have e := hfa.symm.trans (PySem.W.mg_of X G a43)
  cases e
  have GG : Gs mg := ⟨PySem.W.mg_none_of X G z_abs, PySem.W.mg_none_of X G z_all, PySem.W.mg_none_of X G z_any, PySem.W.mg_none_of X G z_bool, PySem.W.mg_none_of X G z_dict, PySem.W.mg_none_of X G z_enumerate, PySem.W.mg_none_of X G z_int, PySem.W.mg_none_of X G z_isinstance, PySem.W.mg_none_of X G z_len, PySem.W.mg_none_of X G z_list, PySem.W.mg_none_of X G z_max, PySem.W.mg_none_of X G z_range, PySem.W.mg_none_of X G z_sorted, PySem.W.mg_none_of X G z_str, PySem.W.mg_none_of X G z_sum, PySem.W.mg_none_of X G z_tuple, PySem.W.mg_none_of X G z_zip, gsInt X G y_MOST_ARROWS, gsInt X G y_MOST_BLOCKS, gsInt X G y_MOST_DEEP, gsInt X G y_MOST_LETTERS_blocks, gsInt X G y_MOST_LETTERS_plans, gsInt X G y_MOST_PARTS, gsInt X G y_MOST_PLACES, gsInt X G y_MOST_STATEMENTS, gsStr X G y_SMALL⟩
  have mE_TooLong_TooLong := PySem.W.exm_ref bE_TooLong dE_TooLong tE_TooLong sE_TooLong_TooLong
  have H_TooLong : HanAt K mg subT "TooLong" := by
    refine han_mk X G aE_TooLong [("TooLong", C_TooLong, true)] (fun y b h => ?_) (fun t ht => ?_)
    · have m := look_mem h
      simp only [List.mem_cons, Prod.mk.injEq, List.not_mem_nil, or_false] at m
      rcases m with m
      · obtain ⟨⟨rfl, _⟩, rfl⟩ := m; exact ⟨C_TooLong, by simp⟩
    · simp only [List.mem_cons, List.not_mem_nil, or_false] at ht
      rcases ht with rfl
      · exact ⟨aE_TooLong, mE_TooLong_TooLong⟩
  have V_TooLong_most : XfAt K mg subT "TooLong" "most" := by
    refine xf_mk [("TooLong", C_TooLong, true)] (fun y h => ?_) (fun t ht => ?_)
    · have m := look_mem h
      simp only [List.mem_cons, Prod.mk.injEq, List.not_mem_nil, or_false] at m
      rcases m with m
      · obtain ⟨⟨rfl, _⟩, _⟩ := m; exact ⟨C_TooLong, true, by simp⟩
    · simp only [List.mem_cons, List.not_mem_nil, or_false] at ht
      rcases ht with rfl
      · exact ⟨PySem.W.mg_of X G aE_TooLong, ⟨xa_TooLong, xb_TooLong, xc_TooLong, xd_TooLong⟩, xe_TooLong_most⟩
  have L_Program := cls_mk pgE_Program hdE_Program poE_Program saE_Program
  have L_Sizes := cls_mk pgE_Sizes hdE_Sizes poE_Sizes saE_Sizes
  have K_Program : InsC K mg "Program" ["deeds", "body", "kept_deeds", "kept_parts", "kept_body", "kept_flow"] := insC_mk X G aE_Program L_Program (by
    intro g hg
    simp only [List.mem_cons, List.not_mem_nil, or_false] at hg
    rcases hg with rfl | rfl | rfl | rfl | rfl | rfl
    · exact nE_Program_deeds
    · exact nE_Program_body
    · exact nE_Program_kept_deeds
    · exact nE_Program_kept_parts
    · exact nE_Program_kept_body
    · exact nE_Program_kept_flow)
  have K_Sizes : InsC K mg "Sizes" ["parts_asked", "known"] := insC_mk X G aE_Sizes L_Sizes (by
    intro g hg
    simp only [List.mem_cons, List.not_mem_nil, or_false] at hg
    rcases hg with rfl | rfl
    · exact nE_Sizes_parts_asked
    · exact nE_Sizes_known)
  have FF : Fa l.prog K mg := ⟨⟨⟨C_TooLong, fS_TooLong, _, _, _, _, _, _, _, _, _, _, _, _, cdS_TooLong, ccS_TooLong, PySem.W.mg_of X G aE_TooLong, ⟨oexC_mk s1_TooLong s2_TooLong s3_TooLong s4_TooLong s5_TooLong s6_TooLong, s1_TooLong, s7_TooLong, s8_TooLong, ⟨_, _, s9_TooLong⟩, sa_TooLong, ⟨_, _, _, _, _, _, sb_TooLong, sc_TooLong, sd_TooLong⟩, ⟨_, _, _, se_TooLong⟩, sf_TooLong, sg_TooLong, sh_TooLong, si_TooLong, sj_TooLong, sk_TooLong, ⟨_, _, _, _, _, _, _, _, _, _, _, _, rfl, rfl⟩, ⟨_, rfl, rfl⟩, (fun us hl => match us, hl with | [_, _], _ => rfl), rfl, rfl, rfl, rfl, rfl, rfl, rfl, (by decide +kernel), rfl, rfl, rfl⟩⟩⟩, H_TooLong, V_TooLong_most, K_Program, K_Sizes, funAt_mk X G a0 l0 c0 k0, funAt_mk X G a1 l1 c1 k1, funAt_mk X G a2 l2 c2 k2, funAt_mk X G a3 l3 c3 k3, funAt_mk X G a4 l4 c4 k4, funAt_mk X G a5 l5 c5 k5, funAt_mk X G a6 l6 c6 k6, funAt_mk X G a7 l7 c7 k7, funAt_mk X G a8 l8 c8 k8, funAt_mk X G a9 l9 c9 k9, funAt_mk X G a10 l10 c10 k10, funAt_mk X G a11 l11 c11 k11, funAt_mk X G a12 l12 c12 k12, funAt_mk X G a13 l13 c13 k13, funAt_mk X G a14 l14 c14 k14, funAt_mk X G a15 l15 c15 k15, funAt_mk X G a16 l16 c16 k16, funAt_mk X G a17 l17 c17 k17, funAt_mk X G a18 l18 c18 k18, funAt_mk X G a19 l19 c19 k19, metAt_mk X G aE_Sizes L_Sizes iM20 fM20 l20 c20 k20, metAt_mk X G aE_Sizes L_Sizes iM21 fM21 l21 c21 k21, iniAt_mk X G aE_Sizes mkE_Sizes kcE_Sizes iM22 fM22 l22 c22 k22, iniAt_mk X G aE_Program mkE_Program kcE_Program iM23 fM23 l23 c23 k23, funAt_mk X G a24 l24 c24 k24, funAt_mk X G a25 l25 c25 k25, funAt_mk X G a26 l26 c26 k26, funAt_mk X G a27 l27 c27 k27, funAt_mk X G a28 l28 c28 k28, funAt_mk X G a29 l29 c29 k29, funAt_mk X G a30 l30 c30 k30, funAt_mk X G a31 l31 c31 k31, funAt_mk X G a32 l32 c32 k32, funAt_mk X G a33 l33 c33 k33, funAt_mk X G a34 l34 c34 k34, funAt_mk X G a35 l35 c35 k35, funAt_mk X G a36 l36 c36 k36, funAt_mk X G a37 l37 c37 k37, funAt_mk X G a38 l38 c38 k38, funAt_mk X G a39 l39 c39 k39, funAt_mk X G a40 l40 c40 k40, funAt_mk X G a41 l41 c41 k41, funAt_mk X G a42 l42 c42 k42, funAt_mk X G a43 l43 c43 k43⟩
  exact ⟨PySem.W.fnOf "law" "law" (defArgs t_law) (defBody t_law) (defScope t_law) .none kv43 dc43 pm43 an43 cd43 ct43, fun s v => .of_eq rfl, fun base _ _ => law_end (L_law GG FF (fun_mk (st := t_law) l43 c43 k43)) promise⟩
end K19
open PySem PySem.W PyProof.Rows
set_option maxHeartbeats 0 in
theorem PySem.Challenge.cw_runsturned_k19_whole_rounds_of_great_tim_holds : PySem.Challenge.rw_runsturned_k19_whole_rounds_of_great_tim.Holds := by
  w_on; o_law; k_head; (case hw => w_witness2)
  k_fill
  refine L2.walk_of (l := PySem.Challenge.rw_runsturned_k19_whole_rounds_of_great_tim) (n := 63) (k := 21) (x := "script") (CX := fun w => L2.CX PySem.Challenge.rw_runsturned_k19_whole_rounds_of_great_tim.prog w) (sp := fun w => Eng.spLaw _) rfl (by decide) rfl ⟨rfl, by decide, by decide⟩ (fun w h Y => PySem.W.kIn_of Y) ?F (fun _ _ a ns hl _ hS => ⟨a, ns, rfl, hS, hl, fun _ => rfl⟩) (fun _ _ _ _ _ h => Eng.law_cx h)
  case F =>
    intro w mg fa h KX G hmg
    refine' K19.all_mk KX G hmg ?a0 ?l0 ?c0 ?k0 ?a1 ?l1 ?c1 ?k1 ?a2 ?l2 ?c2 ?k2 ?a3 ?l3 ?c3 ?k3 ?a4 ?l4 ?c4 ?k4 ?a5 ?l5 ?c5 ?k5 ?a6 ?l6 ?c6 ?k6 ?a7 ?l7 ?c7 ?k7 ?a8 ?l8 ?c8 ?k8 ?a9 ?l9 ?c9 ?k9 ?a10 ?l10 ?c10 ?k10 ?a11 ?l11 ?c11 ?k11 ?a12 ?l12 ?c12 ?k12 ?a13 ?l13 ?c13 ?k13 ?a14 ?l14 ?c14 ?k14 ?a15 ?l15 ?c15 ?k15 ?a16 ?l16 ?c16 ?k16 ?a17 ?l17 ?c17 ?k17 ?a18 ?l18 ?c18 ?k18 ?a19 ?l19 ?c19 ?k19 ?l20 ?c20 ?k20 ?l21 ?c21 ?k21 ?l22 ?c22 ?k22 ?l23 ?c23 ?k23 ?a24 ?l24 ?c24 ?k24 ?a25 ?l25 ?c25 ?k25 ?a26 ?l26 ?c26 ?k26 ?a27 ?l27 ?c27 ?k27 ?a28 ?l28 ?c28 ?k28 ?a29 ?l29 ?c29 ?k29 ?a30 ?l30 ?c30 ?k30 ?a31 ?l31 ?c31 ?k31 ?a32 ?l32 ?c32 ?k32 ?a33 ?l33 ?c33 ?k33 ?a34 ?l34 ?c34 ?k34 ?a35 ?l35 ?c35 ?k35 ?a36 ?l36 ?c36 ?k36 ?a37 ?l37 ?c37 ?k37 ?a38 ?l38 ?c38 ?k38 ?a39 ?l39 ?c39 ?k39 ?a40 ?l40 ?c40 ?k40 ?a41 ?l41 ?c41 ?k41 ?a42 ?l42 ?c42 ?k42 ?a43 ?l43 ?c43 ?k43 ?z_abs ?z_all ?z_any ?z_bool ?z_dict ?z_enumerate ?z_int ?z_isinstance ?z_len ?z_list ?z_max ?z_range ?z_sorted ?z_str ?z_sum ?z_tuple ?z_zip ?y_MOST_ARROWS ?y_MOST_BLOCKS ?y_MOST_DEEP ?y_MOST_LETTERS_blocks ?y_MOST_LETTERS_plans ?y_MOST_PARTS ?y_MOST_PLACES ?y_MOST_STATEMENTS ?y_SMALL ?aE_Program ?aE_Sizes ?aE_TooLong ?pgE_Program ?hdE_Program ?poE_Program ?saE_Program ?nE_Program_deeds ?nE_Program_body ?nE_Program_kept_deeds ?nE_Program_kept_parts ?nE_Program_kept_body ?nE_Program_kept_flow ?pgE_Sizes ?hdE_Sizes ?poE_Sizes ?saE_Sizes ?nE_Sizes_parts_asked ?nE_Sizes_known ?iM20 ?fM20 ?iM21 ?fM21 ?iM22 ?fM22 ?mkE_Sizes ?kcE_Sizes ?iM23 ?fM23 ?mkE_Program ?kcE_Program ?s1_TooLong ?s2_TooLong ?s3_TooLong ?s4_TooLong ?s5_TooLong ?s6_TooLong ?s7_TooLong ?s8_TooLong ?s9_TooLong ?sa_TooLong ?sb_TooLong ?sc_TooLong ?sd_TooLong ?se_TooLong ?sf_TooLong ?sg_TooLong ?sh_TooLong ?si_TooLong ?sj_TooLong ?sk_TooLong ?xa_TooLong ?xb_TooLong ?xc_TooLong ?xd_TooLong ?xe_TooLong_most ?bE_TooLong ?tE_TooLong ?dE_TooLong ?sE_TooLong_TooLong
    (case aE_Program => k_is); (case aE_Sizes => k_is); (case aE_TooLong => k_is); (case pgE_Program => k_is); (case hdE_Program => k_is); (case poE_Program => k_is); (case saE_Program => k_is); (case nE_Program_deeds => k_is); (case nE_Program_body => k_is); (case nE_Program_kept_deeds => k_is); (case nE_Program_kept_parts => k_is); (case nE_Program_kept_body => k_is); (case nE_Program_kept_flow => k_is); (case pgE_Sizes => k_is); (case hdE_Sizes => k_is); (case poE_Sizes => k_is); (case saE_Sizes => k_is); (case nE_Sizes_parts_asked => k_is); (case nE_Sizes_known => k_is); (case iM20 => k_is); (case fM20 => k_is); (case iM21 => k_is); (case fM21 => k_is); (case iM22 => k_is); (case fM22 => k_is); (case mkE_Sizes => k_is); (case kcE_Sizes => k_is); (case iM23 => k_is); (case fM23 => k_is); (case mkE_Program => k_is); (case kcE_Program => k_is); (case s1_TooLong => first | k_exc | k_is | kernel_rfl); (case s2_TooLong => k_is); (case s3_TooLong => k_is); (case s4_TooLong => k_is); (case s5_TooLong => k_is); (case s6_TooLong => k_is); (case s7_TooLong => k_is); (case s8_TooLong => k_is); (case s9_TooLong => k_is); (case sa_TooLong => k_is); (case sb_TooLong => k_is); (case sc_TooLong => rfl); (case sd_TooLong => first | rfl | decide +kernel); (case se_TooLong => k_is); (case sf_TooLong => k_is); (case sg_TooLong => k_is); (case sh_TooLong => first | rfl | decide +kernel); (case si_TooLong => k_is); (case sj_TooLong => first | ks_is | kernel_rfl); (case sk_TooLong => k_is); (case xa_TooLong => k_is); (case xb_TooLong => k_is); (case xc_TooLong => k_is); (case xd_TooLong => k_is); (case xe_TooLong_most => k_is); (case bE_TooLong => k_is); (case tE_TooLong => k_is); (case dE_TooLong => k_is); (case sE_TooLong_TooLong => first | rfl | k_is); (case a0 => k_is); (case l0 => k_is); (case c0 => k_is); (case k0 => k_is); (case a1 => k_is); (case l1 => k_is); (case c1 => k_is); (case k1 => k_is); (case a2 => k_is); (case l2 => k_is); (case c2 => k_is); (case k2 => k_is); (case a3 => k_is); (case l3 => k_is); (case c3 => k_is); (case k3 => k_is); (case a4 => k_is); (case l4 => k_is); (case c4 => k_is); (case k4 => k_is); (case a5 => k_is); (case l5 => k_is); (case c5 => k_is); (case k5 => k_is); (case a6 => k_is); (case l6 => k_is); (case c6 => k_is); (case k6 => k_is); (case a7 => k_is); (case l7 => k_is); (case c7 => k_is); (case k7 => k_is); (case a8 => k_is); (case l8 => k_is); (case c8 => k_is); (case k8 => k_is); (case a9 => k_is); (case l9 => k_is); (case c9 => k_is); (case k9 => k_is); (case a10 => k_is); (case l10 => k_is); (case c10 => k_is); (case k10 => k_is); (case a11 => k_is); (case l11 => k_is); (case c11 => k_is); (case k11 => k_is); (case a12 => k_is); (case l12 => k_is); (case c12 => k_is); (case k12 => k_is); (case a13 => k_is); (case l13 => k_is); (case c13 => k_is); (case k13 => k_is); (case a14 => k_is); (case l14 => k_is); (case c14 => k_is); (case k14 => k_is); (case a15 => k_is); (case l15 => k_is); (case c15 => k_is); (case k15 => k_is); (case a16 => k_is); (case l16 => k_is); (case c16 => k_is); (case k16 => k_is); (case a17 => k_is); (case l17 => k_is); (case c17 => k_is); (case k17 => k_is); (case a18 => k_is); (case l18 => k_is); (case c18 => k_is); (case k18 => k_is); (case a19 => k_is); (case l19 => k_is); (case c19 => k_is); (case k19 => k_is); (case l20 => k_is); (case c20 => k_is); (case k20 => k_is); (case l21 => k_is); (case c21 => k_is); (case k21 => k_is); (case l22 => k_is); (case c22 => k_is); (case k22 => k_is); (case l23 => k_is); (case c23 => k_is); (case k23 => k_is); (case a24 => k_is); (case l24 => k_is); (case c24 => k_is); (case k24 => k_is); (case a25 => k_is); (case l25 => k_is); (case c25 => k_is); (case k25 => k_is); (case a26 => k_is); (case l26 => k_is); (case c26 => k_is); (case k26 => k_is); (case a27 => k_is); (case l27 => k_is); (case c27 => k_is); (case k27 => k_is); (case a28 => k_is); (case l28 => k_is); (case c28 => k_is); (case k28 => k_is); (case a29 => k_is); (case l29 => k_is); (case c29 => k_is); (case k29 => k_is); (case a30 => k_is); (case l30 => k_is); (case c30 => k_is); (case k30 => k_is); (case a31 => k_is); (case l31 => k_is); (case c31 => k_is); (case k31 => k_is); (case a32 => k_is); (case l32 => k_is); (case c32 => k_is); (case k32 => k_is); (case a33 => k_is); (case l33 => k_is); (case c33 => k_is); (case k33 => k_is); (case a34 => k_is); (case l34 => k_is); (case c34 => k_is); (case k34 => k_is); (case a35 => k_is); (case l35 => k_is); (case c35 => k_is); (case k35 => k_is); (case a36 => k_is); (case l36 => k_is); (case c36 => k_is); (case k36 => k_is); (case a37 => k_is); (case l37 => k_is); (case c37 => k_is); (case k37 => k_is); (case a38 => k_is); (case l38 => k_is); (case c38 => k_is); (case k38 => k_is); (case a39 => k_is); (case l39 => k_is); (case c39 => k_is); (case k39 => k_is); (case a40 => k_is); (case l40 => k_is); (case c40 => k_is); (case k40 => k_is); (case a41 => k_is); (case l41 => k_is); (case c41 => k_is); (case k41 => k_is); (case a42 => k_is); (case l42 => k_is); (case c42 => k_is); (case k42 => k_is); (case a43 => k_is); (case l43 => k_is); (case c43 => k_is); (case k43 => k_is); (case z_abs => k_is); (case z_all => k_is); (case z_any => k_is); (case z_bool => k_is); (case z_dict => k_is); (case z_enumerate => k_is); (case z_int => k_is); (case z_isinstance => k_is); (case z_len => k_is); (case z_list => k_is); (case z_max => k_is); (case z_range => k_is); (case z_sorted => k_is); (case z_str => k_is); (case z_sum => k_is); (case z_tuple => k_is); (case z_zip => k_is); (case y_MOST_ARROWS => k_is); (case y_MOST_BLOCKS => k_is); (case y_MOST_DEEP => k_is); (case y_MOST_LETTERS_blocks => k_is); (case y_MOST_LETTERS_plans => k_is); (case y_MOST_PARTS => k_is); (case y_MOST_PLACES => k_is); (case y_MOST_STATEMENTS => k_is); (case y_SMALL => k_is)
